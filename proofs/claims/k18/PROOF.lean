import PyProof.Rows.All
import Wide.All
import OpenK.AllK
import Wide.FinOn
import HandS.ForMost
import HandS.ForExc
import KE.KDictKeyed
import HandS.Defaults
import HandS.Style
import HandS.TupAny
import HandS.TupMul
import HandS.TupLe
import HandS.More
import HandS.Wide
import HandS.StrMore
import HandS.IsInst
import KE.IntTextLaws
import HandS.Deep
import HandS.HeadHook1
import KE.LtSeq
import HandS.HeadHook2
import HandS.Ends
import HandS.HeadEnd
import HandS.ExcValue
import HandS.ExcIs
import HandS.RaiseMore
import PyProof.InstSpecial
import HandS.NamedTupGet
import KE.GoesZip
import KE.GoesMore
import HandS.Dict
import KE.KDictDisplayH
import PyProof.DictTable
import HandS.SetFor
import HandS.Strs
import KE.KDictWalk
import KE.KEqDict
import HandS.Conv
import KE.SortData
import KE.KDictSum
import PyProof.ReprRoads
import HandS.Zip
import HandS.ExcOwn
import HandS.Small
import PyProof.EnumMake
import HandS.Replace
import HandS.ReplaceList
import KE.DataCmp
import PySem.Challenge.RW_orderrules_k18_whole_known
import HandS.Head0
import HandS.Head1
import HandS.Head2
set_option Elab.async false
set_option linter.all false
set_option maxRecDepth 100000
set_option maxHeartbeats 2000000
/-! the meaning layer: data, store, what a piece of syntax computes -/
namespace L3
open PySem PySem.Spec L2

/-- data: immutable, or a place in the store -/
inductive D where
  | non | bl (b : Bool) | int (i : Int) | str (s : List Nat) | lst (ds : List D) | tup (ds : List D) | loc (i : Nat) | scr (ns : List Int)
  | dct (ks : List (List Nat)) (ds : List D)

/-- what stands at a place of the store -/
inductive Cell where
  | lst (ds : List D) | ins (c : Nat) (fs : List (Str × D)) | dct (kvs : List (D × D)) | dkf (kvs : List (D × D)) | exn (c : Nat) | tdk (ks : List (List Nat)) (ds : List D) | dead

abbrev Store := List Cell
abbrev Ev := List (Option D)
inductive Res (α : Type) where
  | ok (a : α) (S : Store) | exc (c : Nat) (S : Store) | stuck

abbrev tx (s : List Nat) : Str := ⟨s.toArray⟩
/-- codes that a text may have -/
abbrev OkT (s : List Nat) : Prop := ∀ c ∈ s, c < 1114112

def Ex (H H' : Hp) : Prop := ∀ a o, H a = some o → H' a = some o
theorem Ex.refl (H : Hp) : Ex H H := fun _ _ h => h
theorem Ex.trans {H H1 H2 : Hp} (a : Ex H H1) (b : Ex H1 H2) : Ex H H2 := fun x o h => b x o (a x o h)
theorem Ex.new {H : Hp} {p : Addr} {o : HO} (h : H p = none) : Ex H (upd H p o) := fun a u e => by
  rw [upd_ne (ne_of_none e h)]
  exact e
theorem ex_rd {H H' : Hp} {a : Addr} {u : HO} (e : Ex H H') (h : Rd H a u) : Rd H' a u := by
  rcases h with h | ⟨o, h⟩
  · exact Or.inl (e a _ h)
  · exact Or.inr ⟨o, e a _ h⟩
theorem ex_l {K : PySem.W.Frag} {H H' : Hp} {a : Addr} {xs : List V} (e : Ex H H') (h : SqL K H a xs) : SqL K H' a xs := by
  rcases h with h | h
  · exact Or.inl (ex_rd e h)
  · exact Or.inr h
theorem ex_t {K : PySem.W.Frag} {H H' : Hp} {a : Addr} {xs : List V} (e : Ex H H') (h : SqT K H a xs) : SqT K H' a xs := by
  rcases h with h | h
  · exact Or.inl (ex_rd e h)
  · exact Or.inr h

/-! ### values and data -/
mutual
inductive RD (K : PySem.W.Frag) (F : Hp) (ρ : List Addr) : V → D → Prop
  | non : RD K F ρ .non .non
  | bl (b : Bool) : RD K F ρ (.bl b) (.bl b)
  | int (i : Int) : RD K F ρ (.int i) (.int i)
  | str (s : List Nat) : OkT s → RD K F ρ (.str (tx s)) (.str s)
  | lst {a : Addr} {xs : List V} {ds : List D} : F a = some (.lst xs) → RDs K F ρ xs ds → RD K F ρ (.ref a) (.lst ds)
  | tup {a : Addr} {xs : List V} {ds : List D} : SqT K F a xs → RDs K F ρ xs ds → RD K F ρ (.ref a) (.tup ds)
  | loc {i : Nat} {a : Addr} : ρ[i]? = some a → RD K F ρ (.ref a) (.loc i)
  | scr {a : Addr} {ns : List Int} : SqL K F a (ns.map V.int) → RD K F ρ (.ref a) (.scr ns)
  | dct {a : Addr} {kvs : List (Key × V)} {ks : List (List Nat)} {ds : List D} : F a = some (.dK kvs) → kvs.map (·.1) = ks.map (fun s => Sum.inr (tx s)) → RDs K F ρ (kvs.map (·.2)) ds → RD K F ρ (.ref a) (.dct ks ds)
inductive RDs (K : PySem.W.Frag) (F : Hp) (ρ : List Addr) : List V → List D → Prop
  | nil : RDs K F ρ [] []
  | cons {v : V} {vs : List V} {d : D} {ds : List D} : RD K F ρ v d → RDs K F ρ vs ds → RDs K F ρ (v :: vs) (d :: ds)
end

section
variable {K : PySem.W.Frag} {F F' : Hp} {ρ ρ' : List Addr}
abbrev Pre (ρ ρ' : List Addr) : Prop := ∀ (i : Nat) (a : Addr), ρ[i]? = some a → ρ'[i]? = some a
mutual
theorem RD.mono (e : Ex F F') (p : Pre ρ ρ') : ∀ {d : D} {v : V}, RD K F ρ v d → RD K F' ρ' v d
  | .non, _, h => by cases h; exact .non
  | .bl _, _, h => by cases h; exact .bl _
  | .int _, _, h => by cases h; exact .int _
  | .str _, _, h => by
    cases h with
    | str _ h1 => exact .str _ h1
  | .lst _, _, h => by
    cases h with
    | lst h1 h2 => exact .lst (e _ _ h1) (RDs.mono e p h2)
  | .tup _, _, h => by
    cases h with
    | tup h1 h2 => exact .tup (ex_t e h1) (RDs.mono e p h2)
  | .loc _, _, h => by
    cases h with
    | loc h1 => exact .loc (p _ _ h1)
  | .scr _, _, h => by
    cases h with
    | scr h1 => exact .scr (ex_l e h1)
  | .dct _ _, _, h => by
    cases h with
    | dct h1 h2 h3 => exact .dct (e _ _ h1) h2 (RDs.mono e p h3)
theorem RDs.mono (e : Ex F F') (p : Pre ρ ρ') : ∀ {ds : List D} {vs : List V}, RDs K F ρ vs ds → RDs K F' ρ' vs ds
  | [], _, h => by cases h; exact .nil
  | _ :: _, _, h => by
    cases h with
    | cons h1 h2 => exact .cons (RD.mono e p h1) (RDs.mono e p h2)
end
theorem RDs.length : ∀ {ds : List D} {vs : List V}, RDs K F ρ vs ds → vs.length = ds.length
  | [], _, h => by cases h; rfl
  | _ :: _, _, h => by
    cases h with
    | cons h1 h2 => simp [RDs.length h2]
theorem RDs.get : ∀ {ds : List D} {vs : List V} {i : Nat} {d : D}, RDs K F ρ vs ds → ds[i]? = some d → ∃ v, vs[i]? = some v ∧ RD K F ρ v d
  | [], _, _, _, _, e => by simp at e
  | d :: ds, _, i, x, h, e => by
    cases h with
    | cons h1 h2 =>
      cases i with
      | zero => simp at e; subst e; exact ⟨_, rfl, h1⟩
      | succ i => simpa using RDs.get (i := i) (d := x) h2 (by simpa using e)
theorem RDs.getV : ∀ {ds : List D} {vs : List V} {i : Nat} {v : V}, RDs K F ρ vs ds → vs[i]? = some v → ∃ d, ds[i]? = some d ∧ RD K F ρ v d
  | [], _, _, _, h, e => by cases h; simp at e
  | d :: ds, _, i, x, h, e => by
    cases h with
    | cons h1 h2 =>
      cases i with
      | zero => simp at e; subst e; exact ⟨_, rfl, h1⟩
      | succ i => simpa using RDs.getV (i := i) (v := x) h2 (by simpa using e)
theorem RDs.append : ∀ {ds es : List D} {vs us : List V}, RDs K F ρ vs ds → RDs K F ρ us es → RDs K F ρ (vs ++ us) (ds ++ es)
  | [], _, _, _, h, k => by cases h; exact k
  | _ :: _, _, _, _, h, k => by
    cases h with
    | cons h1 h2 => exact .cons h1 (RDs.append h2 k)
theorem RDs.set : ∀ {ds : List D} {vs : List V} (i : Nat) {v : V} {d : D}, RDs K F ρ vs ds → RD K F ρ v d → RDs K F ρ (vs.set i v) (ds.set i d)
  | [], _, _, _, _, h, _ => by cases h; exact .nil
  | _ :: _, _, i, _, _, h, k => by
    cases h with
    | cons h1 h2 =>
      cases i with
      | zero => exact .cons k h2
      | succ i => exact .cons h1 (RDs.set i h2 k)
theorem RDs.take : ∀ {ds : List D} {vs : List V} (n : Nat), RDs K F ρ vs ds → RDs K F ρ (vs.take n) (ds.take n)
  | _, _, 0, _ => by simp; exact .nil
  | [], _, _ + 1, h => by cases h; exact .nil
  | _ :: _, _, n + 1, h => by
    cases h with
    | cons h1 h2 => exact .cons h1 (RDs.take n h2)
theorem RDs.drop : ∀ {ds : List D} {vs : List V} (n : Nat), RDs K F ρ vs ds → RDs K F ρ (vs.drop n) (ds.drop n)
  | _, _, 0, h => h
  | [], _, _ + 1, h => by cases h; exact .nil
  | _ :: _, _, n + 1, h => by
    cases h with
    | cons h1 h2 => exact RDs.drop n h2
theorem RDs.snoc {ds : List D} {vs : List V} {v : V} {d : D} (h : RDs K F ρ vs ds) (k : RD K F ρ v d) : RDs K F ρ (vs ++ [v]) (ds ++ [d]) := h.append (.cons k .nil)
theorem RDs.eraseIdx : ∀ {ds : List D} {vs : List V} (i : Nat), RDs K F ρ vs ds → RDs K F ρ (vs.eraseIdx i) (ds.eraseIdx i)
  | [], _, _, h => by cases h; exact .nil
  | _ :: _, _, i, h => by
    cases h with
    | cons h1 h2 =>
      cases i with
      | zero => exact h2
      | succ i => exact .cons h1 (RDs.eraseIdx i h2)
theorem RDs.reverse {ds : List D} {vs : List V} (h : RDs K F ρ vs ds) : RDs K F ρ vs.reverse ds.reverse := by
  induction ds generalizing vs with
  | nil => cases h; exact .nil
  | cons d ds ih =>
    cases h with
    | cons h1 h2 => simp only [List.reverse_cons]; exact (ih h2).snoc h1
theorem RDs.rep {ds : List D} {vs : List V} (h : RDs K F ρ vs ds) : ∀ k : Nat, RDs K F ρ (List.replicate k vs).flatten (List.replicate k ds).flatten
  | 0 => .nil
  | k + 1 => by simp only [List.replicate_succ, List.flatten_cons]; exact h.append (RDs.rep h k)

/-! ### the state -/
/-- what is fixed: the addresses of own classes by number, of own exceptions by number -/
structure Pc where
  cl : Nat → Addr
  xc : Nat → Addr
  hs : NestedKey → Int := fun _ => 0

/-- an exception of the class cls that was caught and is kept -/
def ExK (cls : Value) (a : Addr) : HO := .ext fun h => ∃ (oe : Obj) (vs : Array Value), h.get? a = some oe ∧ Zc cls none oe ∧ oe.data = .fields vs
/-- a dict whose keys are tuples of data: where each key's tuple stands, what the values are (h: how a key is hashed) -/
def DctP (hs : NestedKey → Int) (a : Addr) (xs : List (NestedKey × Addr × V)) (h : Heap) : Prop :=
  ∃ (o : Obj) (es : Array DictEntry) (ep : Nat) (ys : List (NestedKey × Addr × Value)), h.get? a = some o ∧ o.ExactDict ∧ o.data = .dict es ep ∧
    Paired (fun (x : NestedKey × Addr × V) (y : NestedKey × Addr × Value) => x.1 = y.1 ∧ x.2.1 = y.2.1 ∧ RelV x.2.2 y.2.2) xs ys ∧ es.toList = ys.map fun y => ⟨hs y.1, .ref y.2.1, y.2.2⟩
def DctO (hs : NestedKey → Int) (a : Addr) (xs : List (NestedKey × Addr × V)) : HO := .ext (DctP hs a xs)
mutual
/-- data as a key -/
def keyD : D → Option NestedKey
  | .non => some .none
  | .int i => some (.num i)
  | .str s => some (.text (tx s))
  | .tup ds => (keyDs ds).map .tup
  | _ => none
def keyDs : List D → Option (List NestedKey)
  | [] => some []
  | d :: ds => (keyD d).bind fun k => (keyDs ds).map (k :: ·)
end
def KVOk (K : PySem.W.Frag) (F : Hp) (ρ : List Addr) (xs : List (NestedKey × Addr × V)) (kvs : List (D × D)) : Prop :=
  RDs K F ρ (xs.map fun x => V.ref x.2.1) (kvs.map (·.1)) ∧ RDs K F ρ (xs.map fun x => x.2.2) (kvs.map (·.2)) ∧ keyDs (kvs.map (·.1)) = some (xs.map (·.1)) ∧ ∀ x ∈ xs, x.1.depth ≤ 8
theorem KVOk.mono {K : PySem.W.Frag} {F F' : Hp} {ρ ρ' : List Addr} {xs : List (NestedKey × Addr × V)} {kvs : List (D × D)} (e : Ex F F') (p : Pre ρ ρ') (h : KVOk K F ρ xs kvs) : KVOk K F' ρ' xs kvs := ⟨h.1.mono e p, h.2.1.mono e p, h.2.2⟩
def CellOk (K : PySem.W.Frag) (Y : Pc) (F : Hp) (ρ : List Addr) (H : Hp) (a : Addr) : Cell → Prop
  | .dead => True
  | .lst ds => F a = none ∧ ∃ xs, H a = some (.lst xs) ∧ RDs K F ρ xs ds
  | .ins c fs => F a = none ∧ ∃ dx vs, H a = some (.ins (Y.cl c) dx ((fs.map (·.1)).zip vs)) ∧ RDs K F ρ vs (fs.map (·.2))
  | .dct kvs => F a = none ∧ (a == sysModules) = false ∧ ∃ xs, H a = some (DctO Y.hs a xs) ∧ (xs.map (·.1)).Nodup ∧ xs.length ≤ 10000000 ∧ KVOk K F ρ xs kvs
  | .dkf kvs => ∃ o xs, F a = some (.frz o (DctO Y.hs a xs)) ∧ (a == sysModules) = false ∧ (xs.map (·.1)).Nodup ∧ xs.length ≤ 10000000 ∧ KVOk K F ρ xs kvs
  | .exn c => F a = none ∧ H a = some (ExK (.ref (Y.xc c)) a)
  | .tdk ks ds => F a = none ∧ ∃ xs : List (Key × V), H a = some (.dK xs) ∧ xs.map (·.1) = ks.map (fun s => Sum.inr (tx s)) ∧ RDs K F ρ (xs.map (·.2)) ds

end

structure SR (K : PySem.W.Frag) (Y : Pc) (F : Hp) (ρ : List Addr) (S : Store) (H : Hp) : Prop where
  ex : Ex F H
  len : ρ.length = S.length
  nd : ρ.Nodup
  there : ∀ a ∈ ρ, H a ≠ none
  cell : ∀ (i : Nat) (a : Addr) (c : Cell), ρ[i]? = some a → S[i]? = some c → CellOk K Y F ρ H a c

structure Nx (F : Hp) (ρ : List Addr) (H F' : Hp) (ρ' : List Addr) (H' : Hp) : Prop where
  ex : Ex F F'
  pre : Pre ρ ρ'
  fr : ∀ a o, H a = some o → a ∉ ρ → H' a = some o
  fh : ∀ a, F' a ≠ none → F a ≠ none ∨ H a = none ∨ a ∈ ρ
  rh : ∀ a ∈ ρ', a ∈ ρ ∨ H a = none
  hn : ∀ a, H a ≠ none → H' a ≠ none

theorem Nx.refl (F : Hp) (ρ : List Addr) (H : Hp) : Nx F ρ H F ρ H := ⟨Ex.refl _, fun _ _ h => h, fun _ _ h _ => h, fun _ h => .inl h, fun _ h => .inl h, fun _ h => h⟩
theorem Nx.trans {F F1 F2 : Hp} {ρ ρ1 ρ2 : List Addr} {H H1 H2 : Hp} (a : Nx F ρ H F1 ρ1 H1) (b : Nx F1 ρ1 H1 F2 ρ2 H2) : Nx F ρ H F2 ρ2 H2 where
  ex := a.ex.trans b.ex
  pre := fun i x h => b.pre i x (a.pre i x h)
  fr := fun x o h n => b.fr x o (a.fr x o h n) fun m => (a.rh x m).elim n fun z => by rw [h] at z; cases z
  fh := fun x h => by
    rcases b.fh x h with h1 | h1 | h1
    · exact a.fh x h1
    · refine .inr (.inl ?_)
      cases e : H x with
      | none => rfl
      | some o => exact absurd h1 (a.hn x (by rw [e]; simp))
    · rcases a.rh x h1 with h2 | h2
      · exact .inr (.inr h2)
      · exact .inr (.inl h2)
  rh := fun x h => by
    rcases b.rh x h with h1 | h1
    · exact a.rh x h1
    · refine .inr ?_
      cases e : H x with
      | none => rfl
      | some o => exact absurd h1 (a.hn x (by rw [e]; simp))
  hn := fun x h => b.hn x (a.hn x h)

section
variable {K : PySem.W.Frag} {Y : Pc} {F F' H : Hp} {ρ : List Addr} {S : Store}
/-- a new thing that will stay as it is -/
theorem SR.new (R : SR K Y F ρ S H) {p : Addr} {o : HO} (hp : H p = none) : SR K Y (upd F p o) ρ S (upd H p o) ∧ Nx F ρ H (upd F p o) ρ (upd H p o) ∧ (upd F p o) p = some o := by
  have fp : F p = none := by
    cases e : F p with
    | none => rfl
    | some u => rw [R.ex p u e] at hp; cases hp
  have np : ∀ a, H a ≠ none → a ≠ p := fun a h e => h (by rw [e]; exact hp)
  have e1 : Ex F (upd F p o) := Ex.new fp
  refine ⟨⟨fun a u h => ?_, R.len, R.nd, fun a h => ?_, fun i a c h1 h2 => ?_⟩, ⟨e1, fun _ _ h => h, fun a u h _ => ?_, fun a h => ?_, fun _ h => .inl h, fun a h => ?_⟩, upd_same⟩
  · by_cases e : a = p
    · subst e; rw [upd_same] at h ⊢; exact h
    · rw [upd_ne e] at h ⊢; exact R.ex a u h
  · rw [upd_ne (np a (R.there a h))]; exact R.there a h
  · have ha : a ≠ p := np a (R.there a (List.mem_of_getElem? h1))
    have k := R.cell i a c h1 h2
    cases c with
    | dead => trivial
    | lst ds =>
      obtain ⟨k1, xs, k2, k3⟩ := k
      exact ⟨by rw [upd_ne ha]; exact k1, xs, by rw [upd_ne ha]; exact k2, k3.mono e1 fun _ _ h => h⟩
    | ins c fs =>
      obtain ⟨k1, dx, vs, k2, k3⟩ := k
      exact ⟨by rw [upd_ne ha]; exact k1, dx, vs, by rw [upd_ne ha]; exact k2, k3.mono e1 fun _ _ h => h⟩
    | dct kvs =>
      obtain ⟨k1, k0, xs, k2, k4, k5, k3⟩ := k
      exact ⟨by rw [upd_ne ha]; exact k1, k0, xs, by rw [upd_ne ha]; exact k2, k4, k5, k3.mono e1 fun _ _ h => h⟩
    | dkf kvs =>
      obtain ⟨o, xs, k1, k0, k4, k5, k3⟩ := k
      exact ⟨o, xs, e1 _ _ k1, k0, k4, k5, k3.mono e1 fun _ _ h => h⟩
    | exn c => exact ⟨by rw [upd_ne ha]; exact k.1, by rw [upd_ne ha]; exact k.2⟩
    | tdk ks ds =>
      obtain ⟨k1, xs, k2, k4, k3⟩ := k
      exact ⟨by rw [upd_ne ha]; exact k1, xs, by rw [upd_ne ha]; exact k2, k4, k3.mono e1 fun _ _ h => h⟩
  · rw [upd_ne (ne_of_none h hp)]; exact h
  · by_cases e : a = p
    · subst e; exact .inr (.inl hp)
    · rw [upd_ne e] at h; exact .inl h
  · by_cases e : a = p
    · subst e; rw [upd_same]; simp
    · rw [upd_ne e]; exact h
/-- the heap grew by something that is not told (a temporary object) -/
theorem SR.grown (R : SR K Y F ρ S H) {p : Addr} {o : HO} (hp : H p = none) : SR K Y F ρ S (upd H p o) ∧ Nx F ρ H F ρ (upd H p o) := by
  have np : ∀ a, H a ≠ none → a ≠ p := fun a h e => h (by rw [e]; exact hp)
  refine ⟨⟨fun a u h => ?_, R.len, R.nd, fun a h => ?_, fun i a c h1 h2 => ?_⟩, ⟨Ex.refl _, fun _ _ h => h, fun a u h _ => ?_, fun a h => .inl h, fun _ h => .inl h, fun a h => ?_⟩⟩
  · have := R.ex a u h
    rw [upd_ne (ne_of_none this hp)]; exact this
  · rw [upd_ne (np a (R.there a h))]; exact R.there a h
  · have ha : a ≠ p := np a (R.there a (List.mem_of_getElem? h1))
    have k := R.cell i a c h1 h2
    cases c with
    | dead => trivial
    | lst ds =>
      obtain ⟨k1, xs, k2, k3⟩ := k
      exact ⟨k1, xs, by rw [upd_ne ha]; exact k2, k3⟩
    | ins c fs =>
      obtain ⟨k1, dx, vs, k2, k3⟩ := k
      exact ⟨k1, dx, vs, by rw [upd_ne ha]; exact k2, k3⟩
    | dct kvs =>
      obtain ⟨k1, k0, xs, k2, k4, k5, k3⟩ := k
      exact ⟨k1, k0, xs, by rw [upd_ne ha]; exact k2, k4, k5, k3⟩
    | dkf kvs =>
      obtain ⟨o, xs, k1, k0, k4, k5, k3⟩ := k
      exact ⟨o, xs, k1, k0, k4, k5, k3⟩
    | exn c => exact ⟨k.1, by rw [upd_ne ha]; exact k.2⟩
    | tdk ks ds =>
      obtain ⟨k1, xs, k2, k4, k3⟩ := k
      exact ⟨k1, xs, by rw [upd_ne ha]; exact k2, k4, k3⟩
  · rw [upd_ne (ne_of_none h hp)]; exact h
  · by_cases e : a = p
    · subst e; rw [upd_same]; simp
    · rw [upd_ne e]; exact h
theorem nodup_snoc {l : List Addr} {a : Addr} (h : l.Nodup) (n : a ∉ l) : (l ++ [a]).Nodup := by
  rw [List.nodup_append]
  exact ⟨h, by simp, fun x hx y hy => by simp at hy; subst hy; exact fun e => n (e ▸ hx)⟩
theorem pre_snoc (ρ : List Addr) (a : Addr) : Pre ρ (ρ ++ [a]) := fun i x h => by
  rw [List.getElem?_append_left (List.getElem?_eq_some_iff.mp h).1]; exact h
/-- a place that will be written: c says what stands there -/
theorem SR.cellNew (R : SR K Y F ρ S H) {p : Addr} {c : Cell} (hp : H p ≠ none) (fp : F p = none) (pr : p ∉ ρ) (k : CellOk K Y F (ρ ++ [p]) H p c) :
    SR K Y F (ρ ++ [p]) (S ++ [c]) H := by
  have pre := pre_snoc ρ p
  refine ⟨R.ex, by simp [R.len], nodup_snoc R.nd pr, fun a h => ?_, fun i a c' h1 h2 => ?_⟩
  · rcases List.mem_append.mp h with h | h
    · exact R.there a h
    · simp at h; subst h; exact hp
  · by_cases hi : i < ρ.length
    · rw [List.getElem?_append_left hi] at h1
      rw [List.getElem?_append_left (by rw [← R.len]; exact hi)] at h2
      have k := R.cell i a c' h1 h2
      cases c' with
      | dead => trivial
      | lst ds =>
        obtain ⟨k1, xs, k2, k3⟩ := k
        exact ⟨k1, xs, k2, k3.mono (Ex.refl _) pre⟩
      | ins c fs =>
        obtain ⟨k1, dx, vs, k2, k3⟩ := k
        exact ⟨k1, dx, vs, k2, k3.mono (Ex.refl _) pre⟩
      | dct kvs =>
        obtain ⟨k1, k0, xs, k2, k4, k5, k3⟩ := k
        exact ⟨k1, k0, xs, k2, k4, k5, k3.mono (Ex.refl _) pre⟩
      | dkf kvs =>
        obtain ⟨o, xs, k1, k0, k4, k5, k3⟩ := k
        exact ⟨o, xs, (Ex.refl _) _ _ k1, k0, k4, k5, k3.mono (Ex.refl _) pre⟩
      | exn c => exact k
      | tdk ks ds =>
        obtain ⟨k1, xs, k2, k4, k3⟩ := k
        exact ⟨k1, xs, k2, k4, k3.mono (Ex.refl _) pre⟩
    · have e : i = ρ.length := by
        have := (List.getElem?_eq_some_iff.mp h1).1
        simp at this; omega
      subst e
      rw [List.getElem?_append_right (Nat.le_refl _)] at h1
      rw [List.getElem?_append_right (by rw [R.len]; exact Nat.le_refl _)] at h2
      simp at h1
      rw [R.len] at h2
      simp at h2
      subst h1; subst h2
      exact k
/-- a place is written anew -/
theorem SR.write (R : SR K Y F ρ S H) {i : Nat} {a : Addr} {c : Cell} {o : HO} (hi : ρ[i]? = some a) (fa : F a = none) (k : CellOk K Y F ρ (upd H a o) a c) :
    SR K Y F ρ (S.set i c) (upd H a o) ∧ Nx F ρ H F ρ (upd H a o) := by
  have hm : a ∈ ρ := List.mem_of_getElem? hi
  refine ⟨⟨fun b u h => ?_, by simp [R.len], R.nd, fun b h => ?_, fun j b c' h1 h2 => ?_⟩, ⟨Ex.refl _, fun _ _ h => h, fun b u h n => ?_, fun b h => .inl h, fun _ h => .inl h, fun b h => ?_⟩⟩
  · have hb : b ≠ a := fun e => by rw [e, fa] at h; cases h
    rw [upd_ne hb]; exact R.ex b u h
  · by_cases e : b = a
    · subst e; rw [upd_same]; simp
    · rw [upd_ne e]; exact R.there b h
  · by_cases hj : j = i
    · subst hj
      rw [hi] at h1; cases h1
      rw [List.getElem?_set_self (by rw [← R.len]; exact (List.getElem?_eq_some_iff.mp hi).1)] at h2
      cases h2
      exact k
    · rw [List.getElem?_set_ne (Ne.symm hj)] at h2
      have hb : b ≠ a := fun e => by
        subst e
        obtain ⟨l1, e1⟩ := List.getElem?_eq_some_iff.mp hi
        obtain ⟨l2, e2⟩ := List.getElem?_eq_some_iff.mp h1
        exact hj ((List.getElem_inj R.nd).mp (e2.trans e1.symm))
      have k := R.cell j b c' h1 h2
      cases c' with
      | dead => trivial
      | lst ds =>
        obtain ⟨k1, xs, k2, k3⟩ := k
        exact ⟨k1, xs, by rw [upd_ne hb]; exact k2, k3⟩
      | ins c fs =>
        obtain ⟨k1, dx, vs, k2, k3⟩ := k
        exact ⟨k1, dx, vs, by rw [upd_ne hb]; exact k2, k3⟩
      | dct kvs =>
        obtain ⟨k1, k0, xs, k2, k4, k5, k3⟩ := k
        exact ⟨k1, k0, xs, by rw [upd_ne hb]; exact k2, k4, k5, k3⟩
      | dkf kvs =>
        obtain ⟨o, xs, k1, k0, k4, k5, k3⟩ := k
        exact ⟨o, xs, k1, k0, k4, k5, k3⟩
      | exn c => exact ⟨k.1, by rw [upd_ne hb]; exact k.2⟩
      | tdk ks ds =>
        obtain ⟨k1, xs, k2, k4, k3⟩ := k
        exact ⟨k1, xs, by rw [upd_ne hb]; exact k2, k4, k3⟩
  · have hb : b ≠ a := fun e => n (e ▸ hm)
    rw [upd_ne hb]; exact h
  · by_cases e : b = a
    · subst e; rw [upd_same]; simp
    · rw [upd_ne e]; exact h
/-- a list of the store stays as it is from now on -/
theorem SR.freeze (R : SR K Y F ρ S H) {i : Nat} {a : Addr} {ds : List D} (hi : ρ[i]? = some a) (hs : S[i]? = some (.lst ds)) :
    ∃ F', SR K Y F' ρ (S.set i .dead) H ∧ Nx F ρ H F' ρ H ∧ RD K F' ρ (.ref a) (.lst ds) := by
  obtain ⟨fa, xs, ha, hx⟩ := R.cell i a _ hi hs
  have hm : a ∈ ρ := List.mem_of_getElem? hi
  have e1 : Ex F (upd F a (.lst xs)) := Ex.new fa
  refine ⟨upd F a (.lst xs), ⟨fun b u h => ?_, by simp [R.len], R.nd, R.there, fun j b c' h1 h2 => ?_⟩, ⟨e1, fun _ _ h => h, fun b u h n => h, fun b h => ?_, fun _ h => .inl h, fun b h => h⟩, .lst upd_same (hx.mono e1 fun _ _ h => h)⟩
  · by_cases e : b = a
    · subst e; rw [upd_same] at h; cases h; exact ha
    · rw [upd_ne e] at h; exact R.ex b u h
  · by_cases hj : j = i
    · subst hj
      rw [List.getElem?_set_self (by rw [← R.len]; exact (List.getElem?_eq_some_iff.mp hi).1)] at h2
      cases h2
      trivial
    · rw [List.getElem?_set_ne (Ne.symm hj)] at h2
      have hb : b ≠ a := fun e => by
        subst e
        obtain ⟨l1, e1⟩ := List.getElem?_eq_some_iff.mp hi
        obtain ⟨l2, e2⟩ := List.getElem?_eq_some_iff.mp h1
        exact hj ((List.getElem_inj R.nd).mp (e2.trans e1.symm))
      have k := R.cell j b c' h1 h2
      cases c' with
      | dead => trivial
      | lst ds =>
        obtain ⟨k1, xs, k2, k3⟩ := k
        exact ⟨by rw [upd_ne hb]; exact k1, xs, k2, k3.mono e1 fun _ _ h => h⟩
      | ins c fs =>
        obtain ⟨k1, dx, vs, k2, k3⟩ := k
        exact ⟨by rw [upd_ne hb]; exact k1, dx, vs, k2, k3.mono e1 fun _ _ h => h⟩
      | dct kvs =>
        obtain ⟨k1, k0, xs, k2, k4, k5, k3⟩ := k
        exact ⟨by rw [upd_ne hb]; exact k1, k0, xs, k2, k4, k5, k3.mono e1 fun _ _ h => h⟩
      | dkf kvs =>
        obtain ⟨o, xs, k1, k0, k4, k5, k3⟩ := k
        exact ⟨o, xs, e1 _ _ k1, k0, k4, k5, k3.mono e1 fun _ _ h => h⟩
      | exn c => exact ⟨by rw [upd_ne hb]; exact k.1, k.2⟩
      | tdk ks ds =>
        obtain ⟨k1, xs, k2, k4, k3⟩ := k
        exact ⟨by rw [upd_ne hb]; exact k1, xs, k2, k4, k3.mono e1 fun _ _ h => h⟩
  · by_cases e : b = a
    · subst e; exact .inr (.inr hm)
    · rw [upd_ne e] at h; exact .inl h
end

/-! ### slots -/
def ER (K : PySem.W.Frag) (F : Hp) (ρ : List Addr) (σ : St) (env : Ev) : Prop := σ.length = env.length ∧ ∀ (i : Nat) (d : D), env[i]? = some (some d) → ∃ v, σ[i]? = some (some v) ∧ RD K F ρ v d
section
variable {K : PySem.W.Frag} {F F' H H' : Hp} {ρ ρ' : List Addr} {σ : St} {env : Ev}
theorem ER.mono (h : ER K F ρ σ env) (e : Ex F F') (p : Pre ρ ρ') : ER K F' ρ' σ env := ⟨h.1, fun i d k => by
  obtain ⟨v, k1, k2⟩ := h.2 i d k
  exact ⟨v, k1, k2.mono e p⟩⟩
theorem ER.nx (h : ER K F ρ σ env) (n : Nx F ρ H F' ρ' H') : ER K F' ρ' σ env := h.mono n.ex n.pre
theorem ER.set (h : ER K F ρ σ env) (i : Nat) {v : V} {d : D} (k : RD K F ρ v d) : ER K F ρ (σ.set i (some v)) (env.set i (some d)) := ⟨by simp [h.1], fun j e q => by
  by_cases hj : j = i
  · subst hj
    have hl : j < env.length := by
      have := (List.getElem?_eq_some_iff.mp q).1
      simpa using this
    rw [List.getElem?_set_self hl] at q
    cases q
    exact ⟨v, List.getElem?_set_self (by rw [h.1]; exact hl), k⟩
  · rw [List.getElem?_set_ne (Ne.symm hj)] at q ⊢
    exact h.2 j e q⟩
theorem ER.setN (h : ER K F ρ σ env) (i : Nat) : ER K F ρ (σ.set i none) (env.set i none) := ⟨by simp [h.1], fun j e q => by
  by_cases hj : j = i
  · subst hj
    by_cases hl : j < env.length
    · rw [List.getElem?_set_self hl] at q; cases q
    · rw [List.getElem?_eq_none (by simpa using hl)] at q; cases q
  · rw [List.getElem?_set_ne (Ne.symm hj)] at q ⊢
    exact h.2 j e q⟩
/-- a slot's datum is forgotten, or told otherwise -/
theorem ER.tell (h : ER K F ρ σ env) (i : Nat) {v : V} {d : D} (hi : σ[i]? = some (some v)) (k : RD K F ρ v d) : ER K F ρ σ (env.set i (some d)) := ⟨by simp [h.1], fun j e q => by
  by_cases hj : j = i
  · subst hj
    have hl : j < env.length := by
      have := (List.getElem?_eq_some_iff.mp q).1
      simpa using this
    rw [List.getElem?_set_self hl] at q
    cases q
    exact ⟨v, hi, k⟩
  · rw [List.getElem?_set_ne (Ne.symm hj)] at q
    exact h.2 j e q⟩
def wipeE (env : Ev) : List Nat → Ev
  | [] => env
  | v :: vs => (wipeE env vs).set v none
theorem ER.wipe (h : ER K F ρ σ env) : ∀ vs : List Nat, ER K F ρ (wipe σ vs) (wipeE env vs)
  | [] => h
  | v :: vs => (ER.wipe h vs).setN v
end
end L3
set_option Elab.async false
set_option linter.all false
set_option maxRecDepth 100000
set_option maxHeartbeats 2000000
/-! what expressions, tests, statements compute -/
namespace L3
open PySem PySem.Spec L2

def Res.bind {α β : Type} (r : Res α) (f : α → Store → Res β) : Res β := match r with
  | .ok a S => f a S
  | .exc c S => .exc c S
  | .stuck => .stuck
def Out {α : Type} (K : PySem.W.Frag) (Y : Pc) (F : Hp) (ρ : List Addr) (H : Hp) (r : Res α) (ok : α → Store → Hp → List Addr → Hp → Prop) (ex : Value → Hp → Prop) : Prop := match r with
  | .ok a S' => ∀ (F' : Hp) (ρ' : List Addr) (H' : Hp), SR K Y F' ρ' S' H' → Nx F ρ H F' ρ' H' → ok a S' F' ρ' H'
  | .exc c S' => ∀ (F' : Hp) (ρ' : List Addr) (H' : Hp), SR K Y F' ρ' S' H' → Nx F ρ H F' ρ' H' → ex (.ref (Y.xc c)) H'
  | .stuck => False
section
variable {α β : Type} {K : PySem.W.Frag} {Y : Pc} {F : Hp} {ρ : List Addr} {H : Hp} {r : Res α} {f : α → Store → Res β}
theorem Out.imp {ok ok' : α → Store → Hp → List Addr → Hp → Prop} {ex ex' : Value → Hp → Prop} (h : Out K Y F ρ H r ok ex)
    (ho : ∀ a S' F' ρ' H', SR K Y F' ρ' S' H' → Nx F ρ H F' ρ' H' → ok a S' F' ρ' H' → ok' a S' F' ρ' H') (he : ∀ c H', ex c H' → ex' c H') : Out K Y F ρ H r ok' ex' := by
  cases r with
  | ok a S => exact fun F' ρ' H' R n => ho a S F' ρ' H' R n (h F' ρ' H' R n)
  | exc c S => exact fun F' ρ' H' R n => he _ _ (h F' ρ' H' R n)
  | stuck => exact h
theorem Out.bind {ok : β → Store → Hp → List Addr → Hp → Prop} {ex : Value → Hp → Prop} (h : Out K Y F ρ H (r.bind f) ok ex) : Out K Y F ρ H r (fun a S' F' ρ' H' => Out K Y F' ρ' H' (f a S') ok ex) ex := by
  cases r with
  | ok a S =>
    intro F' ρ' H' R n
    have h : Out K Y F ρ H (f a S) ok ex := h
    cases e : f a S with
    | ok b S2 =>
      rw [e] at h
      exact fun F2 ρ2 H2 R2 n2 => h F2 ρ2 H2 R2 (n.trans n2)
    | exc c S2 =>
      rw [e] at h
      exact fun F2 ρ2 H2 R2 n2 => h F2 ρ2 H2 R2 (n.trans n2)
    | stuck =>
      rw [e] at h
      exact h
  | exc c S => exact h
  | stuck => exact h
end

/-! ### the judgements -/
def EvE (K : PySem.W.Frag) (Y : Pc) (W : WX) (te : TE) (r : Ev → Store → Res D) : Prop := ∀ (F : Hp) (ρ : List Addr) (S : Store) (H : Hp) (σ : L2.St) (env : Ev) (Q : VK), SR K Y F ρ S H → ER K F ρ σ env →
  Out K Y F ρ H (r env S) (fun d _ F' ρ' H' => ∀ u, RD K F' ρ' u d → Q u H') (fun c H' => W c none σ H') → te σ H Q
def EvT (K : PySem.W.Frag) (Y : Pc) (W : WX) (tt : TT) (r : Ev → Store → Res Bool) : Prop := ∀ (F : Hp) (ρ : List Addr) (S : Store) (H : Hp) (σ : L2.St) (env : Ev) (Q : Bool → Hp → Prop), SR K Y F ρ S H → ER K F ρ σ env →
  Out K Y F ρ H (r env S) (fun b _ _ _ H' => Q b H') (fun c H' => W c none σ H') → tt σ H Q
def EvA (K : PySem.W.Frag) (Y : Pc) (W : WX) (ta : TA) (r : Ev → Store → Res (List D)) : Prop := ∀ (F : Hp) (ρ : List Addr) (S : Store) (H : Hp) (σ : L2.St) (env : Ev) (Q : List V → Hp → Prop), SR K Y F ρ S H → ER K F ρ σ env →
  Out K Y F ρ H (r env S) (fun ds _ F' ρ' H' => ∀ us, RDs K F' ρ' us ds → Q us H') (fun c H' => W c none σ H') → ta σ H Q
inductive Flow where
  | nx (env : Ev) | rt (d : D) | bk (env : Ev) | ct (env : Ev) | ex (c : Nat) (env : Ev)
abbrev SM := Ev → Store → Option (Flow × Store)
def FlowOk (K : PySem.W.Frag) (Y : Pc) (W : WX) (E : Ends) (fl : Flow) (F : Hp) (ρ : List Addr) (H : Hp) : Prop := match fl with
  | .nx env => ∀ σ, ER K F ρ σ env → E.nx σ H
  | .rt d => ∀ u, RD K F ρ u d → E.rt u H
  | .bk env => ∀ σ, ER K F ρ σ env → E.bk σ H
  | .ct env => ∀ σ, ER K F ρ σ env → E.ct σ H
  | .ex c env => ∀ σ, ER K F ρ σ env → W (.ref (Y.xc c)) none σ H
def OutS (K : PySem.W.Frag) (Y : Pc) (F : Hp) (ρ : List Addr) (H : Hp) (r : Option (Flow × Store)) (P : Flow → Store → Hp → List Addr → Hp → Prop) : Prop := match r with
  | some (fl, S') => ∀ (F' : Hp) (ρ' : List Addr) (H' : Hp), SR K Y F' ρ' S' H' → Nx F ρ H F' ρ' H' → P fl S' F' ρ' H'
  | none => False
def EvS (K : PySem.W.Frag) (Y : Pc) (W : WX) (ts : TS) (r : SM) : Prop := ∀ (F : Hp) (ρ : List Addr) (S : Store) (H : Hp) (σ : L2.St) (env : Ev) (E : Ends), SR K Y F ρ S H → ER K F ρ σ env →
  OutS K Y F ρ H (r env S) (fun fl _ F' ρ' H' => FlowOk K Y W E fl F' ρ' H') → ts E σ H
/-- an expression's result, then on; an exception leaves with the slots as they are -/
def Res.st {α : Type} (r : Res α) (env : Ev) (f : α → Store → Option (Flow × Store)) : Option (Flow × Store) := match r with
  | .ok a S => f a S
  | .exc c S => some (.ex c env, S)
  | .stuck => none
section
variable {α : Type} {K : PySem.W.Frag} {Y : Pc} {W : WX} {E : Ends} {F : Hp} {ρ : List Addr} {H : Hp} {r : Res α}
theorem OutS.imp {r : Option (Flow × Store)} {P P' : Flow → Store → Hp → List Addr → Hp → Prop} (h : OutS K Y F ρ H r P) (hp : ∀ fl S' F' ρ' H', SR K Y F' ρ' S' H' → Nx F ρ H F' ρ' H' → P fl S' F' ρ' H' → P' fl S' F' ρ' H') : OutS K Y F ρ H r P' := by
  cases r with
  | none => exact h
  | some x => exact fun F' ρ' H' R n => hp _ _ _ _ _ R n (h F' ρ' H' R n)
theorem OutS.st {f : α → Store → Option (Flow × Store)} {env : Ev} {P : Flow → Store → Hp → List Addr → Hp → Prop} {ex : Value → Hp → Prop} (h : OutS K Y F ρ H (r.st env f) P) (he : ∀ c S' F' ρ' H', Nx F ρ H F' ρ' H' → P (.ex c env) S' F' ρ' H' → ex (.ref (Y.xc c)) H') :
    Out K Y F ρ H r (fun a S' F' ρ' H' => OutS K Y F' ρ' H' (f a S') P) ex := by
  cases r with
  | ok a S =>
    intro F' ρ' H' R n
    have h : OutS K Y F ρ H (f a S) P := h
    cases e : f a S with
    | none =>
      rw [e] at h
      exact h
    | some x =>
      rw [e] at h
      exact fun F2 ρ2 H2 R2 n2 => h F2 ρ2 H2 R2 (n.trans n2)
  | exc c S =>
    have h : OutS K Y F ρ H (some (.ex c env, S)) P := h
    exact fun F' ρ' H' R n => he _ _ _ _ _ n (h F' ρ' H' R n)
  | stuck => exact h
/-- one result, the heap as it is -/
theorem Out.now {a : α} {S : Store} {ok : α → Store → Hp → List Addr → Hp → Prop} {ex : Value → Hp → Prop} (h : Out K Y F ρ H (.ok a S) ok ex) (R : SR K Y F ρ S H) : ok a S F ρ H := h F ρ H R (Nx.refl F ρ H)
end

/-! syntax that computes -/
structure SE (Y : Pc) (X : Cx) (W : WX) (e : Expr) (r : Ev → Store → Res D) : Prop where
  ex : ∃ te, PE X e te ∧ EvE X.K Y W te r
structure SB (Y : Pc) (X : Cx) (W : WX) (e : Expr) (r : Ev → Store → Res Bool) : Prop where
  ex : ∃ te, PT X e te ∧ EvT X.K Y W te r
structure SW (Y : Pc) (X : Cx) (W : WX) (e : Expr) (r : Ev → Store → Res Bool) : Prop where
  ex : ∃ te, PW X e te ∧ EvT X.K Y W te r
structure SA (Y : Pc) (X : Cx) (W : WX) (es : List Expr) (r : Ev → Store → Res (List D)) : Prop where
  ex : ∃ te, PA X es te ∧ EvA X.K Y W te r
structure SS (Y : Pc) (X : Cx) (W : WX) (st : Stmt) (r : SM) : Prop where
  ex : ∃ ts, PS X st ts ∧ EvS X.K Y W ts r
structure SSs (Y : Pc) (X : Cx) (W : WX) (st : List Stmt) (r : SM) : Prop where
  ex : ∃ ts, PSs X st ts ∧ EvS X.K Y W ts r

/-! ### expressions -/
def rVar (i : Nat) : Ev → Store → Res D := fun env S => match env[i]? with
  | some (some d) => .ok d S
  | _ => .stuck
def rC (d : D) : Ev → Store → Res D := fun _ S => .ok d S
abbrev Op2 := Store → D → D → Option D
abbrev Op1 := Store → D → Option D
def lift {α : Type} (o : Option α) (S : Store) : Res α := match o with
  | some a => .ok a S
  | none => .stuck
def r2 (g : Op2) (ra rb : Ev → Store → Res D) : Ev → Store → Res D := fun env S => (ra env S).bind fun x S1 => (rb env S1).bind fun y S2 => lift (g S2 x y) S2
def r1 (g : Op1) (ra : Ev → Store → Res D) : Ev → Store → Res D := fun env S => (ra env S).bind fun x S1 => lift (g S1 x) S1
def rNil : Ev → Store → Res (List D) := fun _ S => .ok [] S
def rCons (ra : Ev → Store → Res D) (rs : Ev → Store → Res (List D)) : Ev → Store → Res (List D) := fun env S => (ra env S).bind fun x S1 => (rs env S1).bind fun xs S2 => .ok (x :: xs) S2
def rTup (rs : Ev → Store → Res (List D)) : Ev → Store → Res D := fun env S => (rs env S).bind fun xs S1 => if xs.length ≤ 100000 then .ok (.tup xs) S1 else .stuck
def rLst (rs : Ev → Store → Res (List D)) : Ev → Store → Res D := fun env S => (rs env S).bind fun xs S1 => if xs.length ≤ 100000 then .ok (.lst xs) S1 else .stuck
/-- a new list that will be written -/
def rLstM (rs : Ev → Store → Res (List D)) : Ev → Store → Res D := fun env S => (rs env S).bind fun xs S1 => if xs.length ≤ 100000 then .ok (.loc S1.length) (S1 ++ [.lst xs]) else .stuck
def rIf (rt : Ev → Store → Res Bool) (ra rb : Ev → Store → Res D) : Ev → Store → Res D := fun env S => (rt env S).bind fun b S1 => if b = true then ra env S1 else rb env S1
def tOf (ra : Ev → Store → Res D) : Ev → Store → Res Bool := fun env S => (ra env S).bind fun x S1 => match x with
  | .bl b => .ok b S1
  | _ => .stuck
def tAndR (ra rb : Ev → Store → Res Bool) : Ev → Store → Res Bool := fun env S => (ra env S).bind fun b S1 => if b = true then rb env S1 else .ok false S1
def tOrR (ra rb : Ev → Store → Res Bool) : Ev → Store → Res Bool := fun env S => (ra env S).bind fun b S1 => if b = true then .ok true S1 else rb env S1
def tNotR (ra : Ev → Store → Res Bool) : Ev → Store → Res Bool := fun env S => (ra env S).bind fun b S1 => .ok (!b) S1
def vAnd (ra rb : Ev → Store → Res D) : Ev → Store → Res D := fun env S => (ra env S).bind fun x S1 => match x with
  | .bl true => rb env S1
  | .bl false => .ok (.bl false) S1
  | _ => .stuck
def vOr (ra rb : Ev → Store → Res D) : Ev → Store → Res D := fun env S => (ra env S).bind fun x S1 => match x with
  | .bl false => rb env S1
  | .bl true => .ok (.bl true) S1
  | _ => .stuck
def vNot (ra : Ev → Store → Res D) : Ev → Store → Res D := fun env S => (ra env S).bind fun x S1 => match x with
  | .bl b => .ok (.bl (!b)) S1
  | _ => .stuck
def rChain (g g' : Op2) (ra rb rc : Ev → Store → Res D) : Ev → Store → Res D := fun env S => (ra env S).bind fun x S1 => (rb env S1).bind fun y S2 => (lift (g S2 x y) S2).bind fun z S3 => match z with
  | .bl true => (rc env S3).bind fun w S4 => lift (g' S4 y w) S4
  | .bl false => .ok (.bl false) S3
  | _ => .stuck

/-- an operator by values -/
def OpOk (K : PySem.W.Frag) (Y : Pc) (g : Op2) (r : R2) : Prop := ∀ (F : Hp) (ρ : List Addr) (S : Store) (H : Hp) (x y : V) (dx dy d : D) (Q : VK), SR K Y F ρ S H → RD K F ρ x dx → RD K F ρ y dy → g S dx dy = some d →
  (∀ F' H' u, SR K Y F' ρ S H' → Nx F ρ H F' ρ H' → RD K F' ρ u d → Q u H') → r x y H Q
def Op1Ok (K : PySem.W.Frag) (Y : Pc) (g : Op1) (r : V → Hp → VK → Prop) : Prop := ∀ (F : Hp) (ρ : List Addr) (S : Store) (H : Hp) (x : V) (dx d : D) (Q : VK), SR K Y F ρ S H → RD K F ρ x dx → g S dx = some d →
  (∀ F' H' u, SR K Y F' ρ S H' → Nx F ρ H F' ρ H' → RD K F' ρ u d → Q u H') → r x H Q
structure SOp (Y : Pc) (X : Cx) (f : Value → Value → Sem Value) (g : Op2) : Prop where
  ex : ∃ r, OpR X f r ∧ OpOk X.K Y g r
theorem SOp.or {Y : Pc} {X : Cx} {f : Value → Value → Sem Value} {g g' : Op2} (h : SOp Y X f g) (h' : SOp Y X f g') : SOp Y X f (fun S x y => (g S x y).or (g' S x y)) := by
  obtain ⟨r, h1, h2⟩ := h.ex
  obtain ⟨r', h1', h2'⟩ := h'.ex
  refine ⟨_, h1.or h1', fun F ρ S H x y dx dy d Q R rx ry e k => ?_⟩
  have e : (g S dx dy).or (g' S dx dy) = some d := e
  cases e1 : g S dx dy with
  | some z =>
    rw [e1] at e
    exact .inl (h2 F ρ S H x y dx dy d Q R rx ry (by rw [e1]; exact e) k)
  | none =>
    rw [e1] at e
    exact .inr (h2' F ρ S H x y dx dy d Q R rx ry e k)

section
variable {Y : Pc} {X : Cx} {W : WX} {a b c e : Expr} {es : List Expr} {ra rb rc : Ev → Store → Res D} {rs : Ev → Store → Res (List D)} {rt : Ev → Store → Res Bool} {pos : Pos} {K : PySem.W.Frag}

theorem lift_out {α : Type} {F : Hp} {ρ : List Addr} {H : Hp} {S : Store} {o : Option α} {ok : α → Store → Hp → List Addr → Hp → Prop} {ex : Value → Hp → Prop} (h : Out K Y F ρ H (lift o S) ok ex) :
    ∃ d, o = some d ∧ ∀ F' ρ' H', SR K Y F' ρ' S H' → Nx F ρ H F' ρ' H' → ok d S F' ρ' H' := by
  cases o with
  | none => exact False.elim h
  | some d => exact ⟨d, rfl, h⟩

/-- the reading of an operand, then on -/
theorem EvE.then {te : TE} {β : Type} {F : Hp} {ρ : List Addr} {S : Store} {H : Hp} {σ : L2.St} {env : Ev} {f : D → Store → Res β} {ok : β → Store → Hp → List Addr → Hp → Prop} {Q : VK} (h : EvE K Y W te ra) (R : SR K Y F ρ S H) (E : ER K F ρ σ env)
    (o : Out K Y F ρ H ((ra env S).bind f) ok (fun c H' => W c none σ H'))
    (k : ∀ d u S1 F1 ρ1 H1, SR K Y F1 ρ1 S1 H1 → Nx F ρ H F1 ρ1 H1 → ER K F1 ρ1 σ env → RD K F1 ρ1 u d → Out K Y F1 ρ1 H1 (f d S1) ok (fun c H' => W c none σ H') → Q u H1) : te σ H Q :=
  h F ρ S H σ env Q R E (o.bind.imp (fun d S1 F1 ρ1 H1 R1 n1 o1 u ru => k d u S1 F1 ρ1 H1 R1 n1 (E.nx n1) ru o1) fun _ _ z => z)
theorem EvT.then {te : TT} {β : Type} {F : Hp} {ρ : List Addr} {S : Store} {H : Hp} {σ : L2.St} {env : Ev} {f : Bool → Store → Res β} {ok : β → Store → Hp → List Addr → Hp → Prop} {Q : Bool → Hp → Prop} (h : EvT K Y W te rt) (R : SR K Y F ρ S H) (E : ER K F ρ σ env)
    (o : Out K Y F ρ H ((rt env S).bind f) ok (fun c H' => W c none σ H'))
    (k : ∀ b S1 F1 ρ1 H1, SR K Y F1 ρ1 S1 H1 → Nx F ρ H F1 ρ1 H1 → ER K F1 ρ1 σ env → Out K Y F1 ρ1 H1 (f b S1) ok (fun c H' => W c none σ H') → Q b H1) : te σ H Q :=
  h F ρ S H σ env Q R E (o.bind.imp (fun d S1 F1 ρ1 H1 R1 n1 o1 => k d S1 F1 ρ1 H1 R1 n1 (E.nx n1) o1) fun _ _ z => z)
theorem EvA.then {te : TA} {β : Type} {F : Hp} {ρ : List Addr} {S : Store} {H : Hp} {σ : L2.St} {env : Ev} {f : List D → Store → Res β} {ok : β → Store → Hp → List Addr → Hp → Prop} {Q : List V → Hp → Prop} (h : EvA K Y W te rs) (R : SR K Y F ρ S H) (E : ER K F ρ σ env)
    (o : Out K Y F ρ H ((rs env S).bind f) ok (fun c H' => W c none σ H'))
    (k : ∀ ds us S1 F1 ρ1 H1, SR K Y F1 ρ1 S1 H1 → Nx F ρ H F1 ρ1 H1 → ER K F1 ρ1 σ env → RDs K F1 ρ1 us ds → Out K Y F1 ρ1 H1 (f ds S1) ok (fun c H' => W c none σ H') → Q us H1) : te σ H Q :=
  h F ρ S H σ env Q R E (o.bind.imp (fun d S1 F1 ρ1 H1 R1 n1 o1 u ru => k d u S1 F1 ρ1 H1 R1 n1 (E.nx n1) ru o1) fun _ _ z => z)

theorem ev_var (i : Nat) : EvE K Y W (tVar i) (rVar i) := fun F ρ S H σ env Q R E h => by
  unfold rVar at h
  cases e : env[i]? with
  | none => rw [e] at h; exact False.elim h
  | some o =>
    cases o with
    | none => rw [e] at h; exact False.elim h
    | some d =>
      rw [e] at h
      obtain ⟨v, h1, h2⟩ := E.2 i d e
      exact ⟨v, h1, Out.now h R v h2⟩
theorem se_var (i : Nat) {x : Str} (hN : X.N[i]? = some x := by rfl) (hv : Vis X.env.scope x := by first | exact Or.inl rfl | exact Or.inr (Or.inl rfl) | exact Or.inr (Or.inr rfl)) (hd : (x == ("__debug__" : Str)) = false := by decide)
    (hcd : (x == ("__classdict__" : Str)) = false := by decide) : SE Y X W (.Name x pos) (rVar i) := ⟨tVar i, pe_var hN hv hd hcd, ev_var i⟩
theorem ev_c {v : V} {d : D} (h : ∀ F ρ, RD K F ρ v d) : EvE K Y W (tC v) (rC d) := fun F ρ S H σ env Q R E o => Out.now o R v (h F ρ)
theorem se_int {i : Int} {j : Nat} : SE Y X W (.Constant (.int i) j pos) (rC (.int i)) := ⟨_, pe_int, ev_c fun _ _ => .int i⟩
theorem se_bl {b : Bool} {j : Nat} : SE Y X W (.Constant (.bool b) j pos) (rC (.bl b)) := ⟨_, pe_bl, ev_c fun _ _ => .bl b⟩
theorem se_non {j : Nat} : SE Y X W (.Constant .none j pos) (rC .non) := ⟨_, pe_non, ev_c fun _ _ => .non⟩
theorem tx_of {x : Str} {l : List Nat} (h : x.cps.toList = l) : x = tx l := by
  subst h
  rfl
theorem se_str {x : Str} {l : List Nat} {j : Nat} (h : x.cps.toList = l := by decide +kernel) (ho : l.all (fun c => decide (c < 1114112)) = true := by decide +kernel) : SE Y X W (.Constant (.str x) j pos) (rC (.str l)) := ⟨_, pe_str, ev_c fun _ _ => by
  rw [tx_of h]
  exact .str l (fun c hc => of_decide_eq_true (List.all_eq_true.mp ho c hc))⟩
/-- a module's constant -/
theorem se_glob {x : Str} {v : V} {u : Value} {d : D} (hg : Gl X x) (hm : X.mg x = some u) (r : RelV v u) (h : ∀ F ρ, RD X.K F ρ v d) (hd : (x == ("__debug__" : Str)) = false := by decide) : SE Y X W (.Name x pos) (rC d) := ⟨_, pe_glob hg hm r hd, ev_c h⟩

theorem ev_op {g : Op2} {r : R2} {ta tb : TE} (ho : OpOk K Y g r) (ha : EvE K Y W ta ra) (hb : EvE K Y W tb rb) : EvE K Y W (tOp r ta tb) (r2 g ra rb) := fun F ρ S H σ env Q R E h =>
  ha.then R E h fun d u S1 F1 ρ1 H1 R1 n1 E1 ru o1 => hb.then R1 E1 o1 fun d' u' S2 F2 ρ2 H2 R2 n2 E2 ru' o2 => by
    obtain ⟨z, hz, k⟩ := lift_out o2
    exact ho F2 ρ2 S2 H2 u u' d d' z Q R2 (ru.mono n2.ex n2.pre) ru' hz fun F' H' u R' n' r' => k F' ρ2 H' R' n' u r'
theorem ev_op1 {g : Op1} {r : V → Hp → VK → Prop} {ta : TE} (ho : Op1Ok K Y g r) (ha : EvE K Y W ta ra) : EvE K Y W (tUn r ta) (r1 g ra) := fun F ρ S H σ env Q R E h =>
  ha.then R E h fun d u S1 F1 ρ1 H1 R1 n1 E1 ru o1 => by
    obtain ⟨z, hz, k⟩ := lift_out o1
    exact ho F1 ρ1 S1 H1 u d z Q R1 ru hz fun F' H' u R' n' r' => k F' ρ1 H' R' n' u r'
theorem se_bin {op : Operator} {g : Op2} (ho : SOp Y X (binaryOp op) g) (ha : SE Y X W a ra) (hb : SE Y X W b rb) : SE Y X W (.BinOp a op b pos) (r2 g ra rb) := by
  obtain ⟨r, h1, h2⟩ := ho.ex
  obtain ⟨ta, a1, a2⟩ := ha.ex
  obtain ⟨tb, b1, b2⟩ := hb.ex
  exact ⟨_, pe_op h1 a1 b1, ev_op h2 a2 b2⟩
theorem se_cmp {op : CmpOp} {g : Op2} (ho : SOp Y X (compareOp op) g) (ha : SE Y X W a ra) (hb : SE Y X W b rb) (hm : behindInMarks op b = false := by rfl) : SE Y X W (.Compare a [op] [b] pos) (r2 g ra rb) := by
  obtain ⟨r, h1, h2⟩ := ho.ex
  obtain ⟨ta, a1, a2⟩ := ha.ex
  obtain ⟨tb, b1, b2⟩ := hb.ex
  exact ⟨_, pe_cmpR h1 a1 b1 hm, ev_op h2 a2 b2⟩
theorem se_un {op : UnaryOp} {g : Op1} {r : V → Hp → VK → Prop} (ho : UnR X (unaryOp op) r) (hg : Op1Ok X.K Y g r) (ha : SE Y X W a ra) : SE Y X W (.UnaryOp op a pos) (r1 g ra) := by
  obtain ⟨ta, a1, a2⟩ := ha.ex
  exact ⟨_, pe_un ho a1, ev_op1 hg a2⟩
theorem se_chain {op op' : CmpOp} {g g' : Op2} (ho : SOp Y X (compareOp op) g) (ho' : SOp Y X (compareOp op') g') (ha : SE Y X W a ra) (hb : SE Y X W b rb) (hc : SE Y X W c rc)
    (hm : lastMarks [op, op'] [b, c] = false := by with_unfolding_all rfl) : SE Y X W (.Compare a [op, op'] [b, c] pos) (rChain g g' ra rb rc) := by
  obtain ⟨r, h1, h2⟩ := ho.ex
  obtain ⟨r', h1', h2'⟩ := ho'.ex
  obtain ⟨ta, a1, a2⟩ := ha.ex
  obtain ⟨tb, b1, b2⟩ := hb.ex
  obtain ⟨tc, c1, c2⟩ := hc.ex
  refine ⟨_, pe_chain h1 h1' a1 b1 c1 hm, fun F ρ S H σ env Q R E h => ?_⟩
  refine a2.then R E h fun d u S1 F1 ρ1 H1 R1 n1 E1 ru o1 => b2.then R1 E1 o1 fun d' u' S2 F2 ρ2 H2 R2 n2 E2 ru' o2 => ?_
  have o2 := o2.bind
  obtain ⟨z, hz, k⟩ := lift_out o2
  refine h2 F2 ρ2 S2 H2 u u' d d' z _ R2 (ru.mono n2.ex n2.pre) ru' hz fun F' H' w R' n' r' => ?_
  have o3 := k F' ρ2 H' R' n'
  cases r' with
  | bl kk =>
    refine ⟨kk, rfl, ?_⟩
    cases kk with
    | true =>
      refine c2.then R' (E2.nx n') o3 fun d3 u3 S4 F4 ρ4 H4 R4 n4 E4 ru3 o4 => ?_
      obtain ⟨z, hz, k⟩ := lift_out o4
      exact h2' F4 ρ4 S4 H4 u' u3 d' d3 z Q R4 ((ru'.mono n'.ex n'.pre).mono n4.ex n4.pre) ru3 hz fun F' H' u R' n' r' => k F' ρ4 H' R' n' u r'
    | false => exact Out.now o3 R' _ (.bl false)
  | _ => exact False.elim o3

theorem sa_nil : SA Y X W [] rNil := ⟨_, pa_nil, fun F ρ S H σ env Q R E h => Out.now h R [] .nil⟩
theorem sa_cons (ha : SE Y X W e ra) (hr : SA Y X W es rs) (hs : starEach (e :: es) X.env = (false, eval e X.env) :: starEach es X.env := by rfl) : SA Y X W (e :: es) (rCons ra rs) := by
  obtain ⟨ta, a1, a2⟩ := ha.ex
  obtain ⟨tb, b1, b2⟩ := hr.ex
  exact ⟨_, pa_cons a1 b1 hs, fun F ρ S H σ env Q R E h => a2.then R E h fun d u S1 F1 ρ1 H1 R1 n1 E1 ru o1 => b2.then R1 E1 o1 fun ds us S2 F2 ρ2 H2 R2 n2 E2 rus o2 => Out.now o2 R2 _ (.cons (ru.mono n2.ex n2.pre) rus)⟩
theorem small (n : Nat) (h : n ≤ 100000) : n ≤ sizeLine := Nat.le_trans h (by decide)
theorem se_tup {k : Nat} (h : SA Y X W es rs) : SE Y X W (.Tuple es k pos) (rTup rs) := by
  obtain ⟨ta, a1, a2⟩ := h.ex
  refine ⟨_, pe_tup a1, fun F ρ S H σ env Q R E h => a2.then R E h fun ds us S1 F1 ρ1 H1 R1 n1 E1 ru o1 => ?_⟩
  by_cases hl : ds.length ≤ 100000
  · rw [if_pos hl] at o1
    refine ⟨small _ (by rw [ru.length]; exact hl), fun p hp => ?_⟩
    obtain ⟨R2, n2, e2⟩ := R1.new (o := .tup us) hp
    exact o1 _ _ _ R2 n2 _ (.tup (Or.inl (Or.inl e2)) (ru.mono n2.ex n2.pre))
  · rw [if_neg hl] at o1
    exact False.elim o1
theorem se_lst (h : SA Y X W es rs) : SE Y X W (.List es pos) (rLst rs) := by
  obtain ⟨ta, a1, a2⟩ := h.ex
  refine ⟨_, pe_lst a1, fun F ρ S H σ env Q R E h => a2.then R E h fun ds us S1 F1 ρ1 H1 R1 n1 E1 ru o1 => ?_⟩
  by_cases hl : ds.length ≤ 100000
  · rw [if_pos hl] at o1
    refine ⟨small _ (by rw [ru.length]; exact hl), fun p hp => ?_⟩
    obtain ⟨R2, n2, e2⟩ := R1.new (o := .lst us) hp
    exact o1 _ _ _ R2 n2 _ (.lst e2 (ru.mono n2.ex n2.pre))
  · rw [if_neg hl] at o1
    exact False.elim o1
/-- a new place -/
theorem SR.alloc {F H : Hp} {ρ : List Addr} {S : Store} (R : SR K Y F ρ S H) {p : Addr} {o : HO} {cc : Cell} (hp : H p = none) (k : CellOk K Y F (ρ ++ [p]) (upd H p o) p cc) :
    SR K Y F (ρ ++ [p]) (S ++ [cc]) (upd H p o) ∧ Nx F ρ H F (ρ ++ [p]) (upd H p o) ∧ (ρ ++ [p])[S.length]? = some p := by
  obtain ⟨R2, n2⟩ := R.grown (o := o) hp
  have fp : F p = none := by
    cases e : F p with
    | none => rfl
    | some u => rw [R.ex p u e] at hp; cases hp
  have pr : p ∉ ρ := fun m => R.there p m hp
  refine ⟨R2.cellNew (by rw [upd_same]; simp) fp pr k, ⟨Ex.refl _, pre_snoc ρ p, n2.fr, n2.fh, fun a m => ?_, n2.hn⟩, by rw [← R.len]; simp⟩
  rcases List.mem_append.mp m with m | m
  · exact .inl m
  · simp at m; subst m; exact .inr hp
theorem se_lstM (h : SA Y X W es rs) : SE Y X W (.List es pos) (rLstM rs) := by
  obtain ⟨ta, a1, a2⟩ := h.ex
  refine ⟨_, pe_lst a1, fun F ρ S H σ env Q R E h => a2.then R E h fun ds us S1 F1 ρ1 H1 R1 n1 E1 ru o1 => ?_⟩
  by_cases hl : ds.length ≤ 100000
  · rw [if_pos hl] at o1
    refine ⟨small _ (by rw [ru.length]; exact hl), fun p hp => ?_⟩
    have fp : F1 p = none := by
      cases e : F1 p with
      | none => rfl
      | some u => rw [R1.ex p u e] at hp; cases hp
    obtain ⟨R2, n2, e2⟩ := R1.alloc (o := .lst us) (cc := .lst ds) hp ⟨fp, us, upd_same, ru.mono (Ex.refl _) (pre_snoc _ _)⟩
    exact o1 _ _ _ R2 n2 _ (.loc e2)
  · rw [if_neg hl] at o1
    exact False.elim o1

/-! tests -/
theorem sb_val (ha : SE Y X W e ra) (he : ∀ whole, isTrue e X.env whole = (do let v ← whole; standAt e.pos; holding [v] (truthy v)) := by intro _; rfl) : SB Y X W e (tOf ra) := by
  obtain ⟨ta, a1, a2⟩ := ha.ex
  refine ⟨_, pt_truth a1 he, fun F ρ S H σ env Q R E h => a2.then R E h fun d u S1 F1 ρ1 H1 R1 n1 E1 ru o1 => ?_⟩
  cases ru with
  | bl b => exact ⟨b, rfl, Out.now o1 R1⟩
  | _ => exact False.elim o1
theorem sb_cmp {op : CmpOp} {g : Op2} (ho : SOp Y X (compareOp op) g) (ha : SE Y X W a ra) (hb : SE Y X W b rb) (hm : behindInMarks op b = false := by rfl) : SB Y X W (.Compare a [op] [b] pos) (tOf (r2 g ra rb)) := by
  obtain ⟨r, h1, h2⟩ := ho.ex
  obtain ⟨ta, a1, a2⟩ := ha.ex
  obtain ⟨tb, b1, b2⟩ := hb.ex
  refine ⟨_, pt_cmpR h1 a1 b1 hm, fun F ρ S H σ env Q R E h => ?_⟩
  refine (ev_op h2 a2 b2).then R E h fun d u S1 F1 ρ1 H1 R1 n1 E1 ru o1 => ?_
  cases ru with
  | bl b => exact ⟨b, rfl, Out.now o1 R1⟩
  | _ => exact False.elim o1
theorem SW.sb (h : SW Y X W e rt) : SB Y X W e rt := by
  obtain ⟨t, h1, h2⟩ := h.ex
  exact ⟨t, h1.pt, h2⟩
variable {rta rtb : Ev → Store → Res Bool} {rest : List Expr}
theorem sw_and1 (ha : SB Y X W a rta) : SW Y X W (.BoolOp .And [a] pos) rta := by
  obtain ⟨t, h1, h2⟩ := ha.ex
  exact ⟨t, pw_and1 h1, h2⟩
theorem sw_or1 (ha : SB Y X W a rta) : SW Y X W (.BoolOp .Or [a] pos) rta := by
  obtain ⟨t, h1, h2⟩ := ha.ex
  exact ⟨t, pw_or1 h1, h2⟩
theorem sw_and (ha : SB Y X W a rta) (hb : SW Y X W (.BoolOp .And (b :: rest) pos) rtb) : SW Y X W (.BoolOp .And (a :: b :: rest) pos) (tAndR rta rtb) := by
  obtain ⟨t, a1, a2⟩ := ha.ex
  obtain ⟨u, b1, b2⟩ := hb.ex
  refine ⟨_, pw_and a1 b1, fun F ρ S H σ env Q R E h => a2.then R E h fun k S1 F1 ρ1 H1 R1 n1 E1 o1 => ?_⟩
  cases k with
  | true => exact b2 F1 ρ1 S1 H1 σ env Q R1 E1 o1
  | false => exact Out.now o1 R1
theorem sw_or (ha : SB Y X W a rta) (hb : SW Y X W (.BoolOp .Or (b :: rest) pos) rtb) : SW Y X W (.BoolOp .Or (a :: b :: rest) pos) (tOrR rta rtb) := by
  obtain ⟨t, a1, a2⟩ := ha.ex
  obtain ⟨u, b1, b2⟩ := hb.ex
  refine ⟨_, pw_or a1 b1, fun F ρ S H σ env Q R E h => a2.then R E h fun k S1 F1 ρ1 H1 R1 n1 E1 o1 => ?_⟩
  cases k with
  | false => exact b2 F1 ρ1 S1 H1 σ env Q R1 E1 o1
  | true => exact Out.now o1 R1
theorem sb_not (ha : SB Y X W a rta) : SB Y X W (.UnaryOp .Not a pos) (tNotR rta) := by
  obtain ⟨t, a1, a2⟩ := ha.ex
  exact ⟨_, pt_not a1, fun F ρ S H σ env Q R E h => a2.then R E h fun k S1 F1 ρ1 H1 R1 n1 E1 o1 => Out.now o1 R1⟩
/-! and, or, not as values -/
theorem se_one {op : BoolOp} (h : SE Y X W a ra) : SE Y X W (.BoolOp op [a] pos) ra := by
  obtain ⟨t, h1, h2⟩ := h.ex
  exact ⟨t, pe_one h1, h2⟩
theorem se_and (ha : SE Y X W a ra) (hb : SE Y X W (.BoolOp .And (b :: rest) pos) rb) : SE Y X W (.BoolOp .And (a :: b :: rest) pos) (vAnd ra rb) := by
  obtain ⟨t, a1, a2⟩ := ha.ex
  obtain ⟨u, b1, b2⟩ := hb.ex
  refine ⟨_, pe_and a1 b1, fun F ρ S H σ env Q R E h => a2.then R E h fun d v S1 F1 ρ1 H1 R1 n1 E1 ru o1 => ?_⟩
  cases ru with
  | bl k =>
    refine ⟨k, rfl, ?_⟩
    cases k with
    | true => exact b2 F1 ρ1 S1 H1 σ env Q R1 E1 o1
    | false => exact Out.now o1 R1 _ (.bl false)
  | _ => exact False.elim o1
theorem se_or (ha : SE Y X W a ra) (hb : SE Y X W (.BoolOp .Or (b :: rest) pos) rb) : SE Y X W (.BoolOp .Or (a :: b :: rest) pos) (vOr ra rb) := by
  obtain ⟨t, a1, a2⟩ := ha.ex
  obtain ⟨u, b1, b2⟩ := hb.ex
  refine ⟨_, pe_or a1 b1, fun F ρ S H σ env Q R E h => a2.then R E h fun d v S1 F1 ρ1 H1 R1 n1 E1 ru o1 => ?_⟩
  cases ru with
  | bl k =>
    refine ⟨k, rfl, ?_⟩
    cases k with
    | false => exact b2 F1 ρ1 S1 H1 σ env Q R1 E1 o1
    | true => exact Out.now o1 R1 _ (.bl true)
  | _ => exact False.elim o1
theorem se_not (ha : SE Y X W a ra) : SE Y X W (.UnaryOp .Not a pos) (vNot ra) := by
  obtain ⟨t, a1, a2⟩ := ha.ex
  refine ⟨_, pe_not a1, fun F ρ S H σ env Q R E h => a2.then R E h fun d v S1 F1 ρ1 H1 R1 n1 E1 ru o1 => ?_⟩
  cases ru with
  | bl k => exact ⟨k, rfl, Out.now o1 R1 _ (.bl _)⟩
  | _ => exact False.elim o1
theorem se_ifExp (hc : SB Y X W c rt) (ha : SE Y X W a ra) (hb : SE Y X W b rb) : SE Y X W (.IfExp c a b pos) (rIf rt ra rb) := by
  obtain ⟨t, c1, c2⟩ := hc.ex
  obtain ⟨u, a1, a2⟩ := ha.ex
  obtain ⟨v, b1, b2⟩ := hb.ex
  refine ⟨_, pe_ifExp c1 a1 b1, fun F ρ S H σ env Q R E h => c2.then R E h fun k S1 F1 ρ1 H1 R1 n1 E1 o1 => ?_⟩
  cases k with
  | true => exact a2 F1 ρ1 S1 H1 σ env Q R1 E1 o1
  | false => exact b2 F1 ρ1 S1 H1 σ env Q R1 E1 o1
end
end L3
set_option Elab.async false
set_option linter.all false
set_option maxRecDepth 100000
set_option maxHeartbeats 2000000
/-! what a def promises where no display is under way -/
namespace L2
open PySem PySem.Spec PyProof.Rows
structure GnOk (P : Program) (w : World) (K : PySem.W.Frag) (mg : Str → Option Value) (base : Heap) (cx : CXT) (k : Nat) (f : Addr) (fd : FuncData) (ps : List Str) (sp : Sp) : Prop where
  len : ∀ vs H Q E, sp vs H Q E → vs.length = ps.length
  go : ∀ (A : Around) (out : List Env) (s : Shared) (H : Hp) (ag : Args) (us : List Value) (vs : List V) (Q : VK) (E : XK), A.guards = some [] → Room k A → Env0 P w K mg base A out s H →
    BindsTo s fd ag (ps.zip us) → Vals vs us → sp vs H Q E → codeAny (model P w) A (.call (.ref f) ag) (CR cx out P w H s Q E) s
section
variable {P : Program} {w : World} {K : PySem.W.Frag} {mg : Str → Option Value} {base : Heap} {x qual : Str} {params : Arguments} {body : List Stmt} {scope : Scope} {dvs : List V} {kws : List (Str × V)} {f : Addr} {fd : FuncData} {cx : CXT} {N ps : List Str} {k : Nat} {sp : Sp}
theorem gn_of (D : FunD K x qual params body scope dvs kws f fd) (S : FnScope N ps scope) (len : ∀ vs H Q E, sp vs H Q E → vs.length = ps.length)
    (hb : ∀ (cd : Value) (A : Around) (out : List Env) (s : Shared) (H : Hp) (vs : List V) (Q : VK) (E : XK), A.guards = some [] → Room k (A.deeper (envOfC qual scope s.heap.objs.size f cd)) → sp vs H Q E →
      ∃ t, PSs (cxOf cx P w K mg base N qual scope f cd A out s H E) body t ∧ t { nx := fun _ H' => Q .non H', rt := Q } (L2.start N vs) H) : GnOk P w K mg base cx (k + 1) f fd ps sp := by
  obtain ⟨o1, o2, v1, v2, v3, v4, v5, cd, v6, o3, e, look, code, _⟩ := D.ex
  subst e
  constructor
  case len => exact len
  case go =>
    intro A out s H ag us vs Q E gd room e0 bnd rel want
    have size := len vs H Q E want
    have old := fun b o (q : base.get? b = some o) => (e0.bs b o q).1
    have inK : K.In s.heap := e0.mod.kin.keeps old
    have kinds : ∀ z ∈ ps.zip us, scope.names.lookup z.1 = some .local ∨ (scope.names.lookup z.1 = some .cell ∧ ((cellsFrom (s.heap.objs.size + 1) scope.names []).lookup z.1).isSome = true) := by
      rintro ⟨n, v⟩ m
      have m1 := (List.of_mem_zip m).1
      rcases S.par n m1 with q | q
      · exact Or.inl q
      · exact Or.inr ⟨q, PySem.W.cellsFrom_some _ _ _ (Or.inl q)⟩
    apply codeAny_call_function room.depth (inK f _ look) rfl S.co S.gen rfl (PySem.W.codeRec_of inK code)
    apply bnd
    apply wpAny_newFunctionEnv_cells S.kind kinds
    intro env he s1 ic
    subst he
    obtain ⟨t, run, wish⟩ := hb cd A out s H vs Q E gd (room.deeper _) want
    have J := inv_start (CX := cx) (E := E) S room.hd e0 size rel ic
    refine ⟨(e0.mod.nolimit.keeps old).keeps ic.toInCall.keep, codeAny_func (wpAny_mono (run.run [] s1 (L2.start N vs) H _ J wish) ?ok fun _ _ z => z)⟩
    case ok =>
      intro fl s2 res
      cases fl with
      | brk => obtain ⟨_, _, _, no⟩ := res; cases no
      | cont => obtain ⟨_, _, _, no⟩ := res; cases no
      | next =>
        obtain ⟨σ2, H2, I2, z⟩ := res
        exact ⟨.non, H2, I2.os, I2.bare, I2.base, I2.hok, rfl, z⟩
      | ret u =>
        obtain ⟨v, σ2, H2, I2, rv, z⟩ := res
        exact ⟨v, H2, I2.os, I2.bare, I2.base, I2.hok, rv, z⟩
end
section
variable {X : Cx} {cx : CXT} {k : Nat} {f : Addr} {fd : FuncData} {ps : List Str} {sp : Sp} {E : St → XK} {x : Str} {p pos : Pos} {e : Expr} {es : List Expr} {t : TA}
theorem run_gn {pins : List (Addr × Obj)} {σ : St} {H : Hp} {s : Shared} {Q : VK} {us : List Value} {vs : List V} (G : GnOk X.prog X.w X.K X.mg X.base cx k f fd ps sp) (gd : X.A.guards = some []) (room : Room k X.A) (bnd : Binds X.K fd ps []) (pass : PassesAt cx X σ (E σ))
    (I : Inv X pins σ H s) (rel : Vals vs us) (want : sp vs H Q (E σ)) : wpAny (model X.prog X.w) X.A (call (.ref f) us) (EP X pins σ Q) X.xe s := by
  have size : (us ++ []).length = ps.length := by rw [List.append_nil, ← rel.length]; exact G.len _ _ _ _ want
  have bd := bnd s us I.kIn size
  simp only [List.append_nil] at bd
  have c := G.go X.A X.stack s H ⟨us, []⟩ us vs Q (E σ) gd room I.env0 bd rel want
  apply wpAny_call
  apply codeAny_mono c
  rintro (er | fl) s2 res
  · exact pass pins H s er s2 I res
  · cases fl with
    | ret u => exact I.after res
    | _ => cases res
theorem pe_gn (G : GnOk X.prog X.w X.K X.mg X.base cx k f fd ps sp) (gd : X.A.guards = some []) (room : Room k X.A) (hg : Gl X x) (hm : X.mg x = some (.ref f)) (hk : PySem.W.keepIn X.K (.ref f) = true) (bnd : Binds X.K fd ps []) (pass : ∀ σ, PassesAt cx X σ (E σ))
    (ha : PA X (e :: es) t) (hdb : (x == ("__debug__" : Str)) = false := by decide) (he : starEach (e :: es) X.env = (false, eval e X.env) :: starEach es X.env := by rfl) (hpl : (backTo pos (starEach es X.env)).any (·.1) = false := by rfl) :
    PE X (.Call (.Name x p) (e :: es) [] pos) (tCallS sp E t) := ⟨fun pins s σ H Q I h =>
  wpAny_Call_Name_kw (ld_glob I hg hm (PySem.W.callWith_K (h₀ := X.base) I.ok.mod.kin hk (thn (ha.run pos pins s σ H _ I h) fun us s1 ⟨vs, H1, I1, r, q⟩ => ⟨I1.kIn, run_gn G gd room bnd (pass σ) I1 r q⟩) he hpl) hdb)⟩
theorem pe_gn0 (G : GnOk X.prog X.w X.K X.mg X.base cx k f fd ps sp) (gd : X.A.guards = some []) (room : Room k X.A) (hg : Gl X x) (hm : X.mg x = some (.ref f)) (hk : PySem.W.keepIn X.K (.ref f) = true) (bnd : Binds X.K fd ps []) (pass : ∀ σ, PassesAt cx X σ (E σ))
    (hdb : (x == ("__debug__" : Str)) = false := by decide) : PE X (.Call (.Name x p) [] [] pos) (tCallS sp E tNil) := ⟨fun pins s σ H Q I h =>
  wpAny_Call_Name_kw (ld_glob I hg hm (PySem.W.callWith_K0 I.kIn hk (run_gn (us := []) G gd room bnd (pass σ) I .nil h)) hdb)⟩
end
end L2
set_option Elab.async false
set_option linter.all false
set_option maxRecDepth 100000
set_option maxHeartbeats 2000000
/-! calls, statements, loops, comprehensions -/
namespace L3
open PySem PySem.Spec L2

/-! ### defs -/
abbrev FSem := Store → List D → Res D
def spOf (K : PySem.W.Frag) (Y : Pc) (s : FSem) (n : Nat) : Sp := fun vs H Q E => vs.length = n ∧ ∃ (F : Hp) (ρ : List Addr) (S : Store) (ds : List D), SR K Y F ρ S H ∧ RDs K F ρ vs ds ∧
  Out K Y F ρ H (s S ds) (fun d _ F' ρ' H' => ∀ u, RD K F' ρ' u d → Q u H') (fun c H' => E c none H')
def rCall (s : FSem) (rs : Ev → Store → Res (List D)) : Ev → Store → Res D := fun env S => (rs env S).bind fun ds S1 => s S1 ds
section
variable {Y : Pc} {X : Cx} {W : WX} {a b c e : Expr} {es : List Expr} {ra rb rc : Ev → Store → Res D} {rs : Ev → Store → Res (List D)} {rt : Ev → Store → Res Bool} {pos : Pos} {K : PySem.W.Frag}

/-- what surrounds a body: exceptions are taken, nothing is handled, room, no name twice -/
structure Ok (X : Cx) (W : WX) (k : Nat) : Prop where
  tk : ∀ σ, PassesAt (L2.CX X.prog X.w) X σ (WE W σ)
  calm : X.calm = true
  room : Room k X.A
  nd : X.N.Nodup
  gd : X.A.guards = some []

theorem ev_call {n : Nat} {s : FSem} {ta : TA} (ha : EvA K Y W ta rs) (hl : ∀ env S ds S', rs env S = .ok ds S' → ds.length = n) : EvE K Y W (tCallS (spOf K Y s n) (WE W) ta) (rCall s rs) := fun F ρ S H σ env Q R E h => by
  refine ha F ρ S H σ env _ R E ?_
  have h' := h.bind
  cases e : rs env S with
  | ok ds S1 =>
    rw [e] at h'
    intro F1 ρ1 H1 R1 n1 us ru
    exact ⟨by rw [ru.length]; exact hl _ _ _ _ e, F1, ρ1, S1, ds, R1, ru, h' F1 ρ1 H1 R1 n1⟩
  | exc c S1 => rw [e] at h'; exact h'
  | stuck => rw [e] at h'; exact h'
theorem ev_nil : EvA K Y W tNil rNil := fun F ρ S H σ env Q R E h => Out.now h R [] .nil
/-- the number of arguments -/
structure Len (n : Nat) (rs : Ev → Store → Res (List D)) : Prop where
  eq : ∀ env S ds S', rs env S = .ok ds S' → ds.length = n
theorem len_nil : Len 0 rNil := ⟨fun env S ds S' h => by cases h; rfl⟩
theorem len_cons {n : Nat} {r : Ev → Store → Res D} (h : Len n rs) : Len (n + 1) (rCons r rs) := ⟨fun env S ds S' e => by
  unfold rCons at e
  cases e1 : r env S with
  | ok d S1 =>
    rw [e1] at e
    have e : (rs env S1).bind (fun xs S2 => .ok (d :: xs) S2) = .ok ds S' := e
    cases e2 : rs env S1 with
    | ok xs S2 =>
      rw [e2] at e
      cases e
      simp [h.eq _ _ _ _ e2]
    | exc c S1 => rw [e2] at e; cases e
    | stuck => rw [e2] at e; cases e
  | exc c S1 => rw [e1] at e; cases e
  | stuck => rw [e1] at e; cases e⟩
theorem se_call {k j n : Nat} {f : Addr} {fd : FuncData} {ps : List Str} {s : FSem} {x : Str} {p : Pos} (C : Ok X W k) (Fo : GnOk X.prog X.w X.K X.mg X.base (L2.CX X.prog X.w) j f fd ps (spOf X.K Y s n)) (hj : j ≤ k)
    (hm : X.mg x = some (.ref f)) (hk : PySem.W.keepIn X.K (.ref f) = true) (hb : Binds X.K fd ps []) (ha : SA Y X W (e :: es) rs) (hl : Len n rs) (hg : Gl X x := by rfl)
    (hdb : (x == ("__debug__" : Str)) = false := by decide) (he : starEach (e :: es) X.env = (false, eval e X.env) :: starEach es X.env := by rfl) (hpl : (backTo pos (starEach es X.env)).any (·.1) = false := by rfl) :
    SE Y X W (.Call (.Name x p) (e :: es) [] pos) (rCall s rs) := by
  obtain ⟨ta, a1, a2⟩ := ha.ex
  exact ⟨_, pe_gn Fo C.gd (C.room.mono hj) hg hm hk hb C.tk a1 hdb he hpl, ev_call a2 hl.eq⟩
theorem se_call0 {k j : Nat} {f : Addr} {fd : FuncData} {ps : List Str} {s : FSem} {x : Str} {p : Pos} (C : Ok X W k) (Fo : GnOk X.prog X.w X.K X.mg X.base (L2.CX X.prog X.w) j f fd ps (spOf X.K Y s 0)) (hj : j ≤ k)
    (hm : X.mg x = some (.ref f)) (hk : PySem.W.keepIn X.K (.ref f) = true) (hb : Binds X.K fd ps []) (hg : Gl X x := by rfl)
    (hdb : (x == ("__debug__" : Str)) = false := by decide) : SE Y X W (.Call (.Name x p) [] [] pos) (rCall s rNil) := by
  exact ⟨_, pe_gn0 Fo C.gd (C.room.mono hj) hg hm hk hb C.tk hdb, ev_call ev_nil len_nil.eq⟩

/-- a built-in by its name -/
abbrev OpN := Store → List D → Option D
def CallOk (K : PySem.W.Frag) (Y : Pc) (g : OpN) (r : List V → Hp → VK → Prop) : Prop := ∀ (F : Hp) (ρ : List Addr) (S : Store) (H : Hp) (xs : List V) (ds : List D) (d : D) (Q : VK), SR K Y F ρ S H → RDs K F ρ xs ds → g S ds = some d →
  (∀ F' H' u, SR K Y F' ρ S H' → Nx F ρ H F' ρ H' → RD K F' ρ u d → Q u H') → r xs H Q
structure SCall (Y : Pc) (X : Cx) (f : Value) (g : OpN) : Prop where
  ex : ∃ r, CallR X f r ∧ CallOk X.K Y g r
def rCB (g : OpN) (rs : Ev → Store → Res (List D)) : Ev → Store → Res D := fun env S => (rs env S).bind fun ds S1 => lift (g S1 ds) S1
theorem SCall.or {f : Value} {g g' : OpN} (h : SCall Y X f g) (h' : SCall Y X f g') : SCall Y X f (fun S xs => (g S xs).or (g' S xs)) := by
  obtain ⟨r, h1, h2⟩ := h.ex
  obtain ⟨r', h1', h2'⟩ := h'.ex
  refine ⟨_, h1.or h1', fun F ρ S H xs ds d Q R rx e k => ?_⟩
  have e : (g S ds).or (g' S ds) = some d := e
  cases e1 : g S ds with
  | some z =>
    rw [e1] at e
    exact .inl (h2 F ρ S H xs ds d Q R rx (by rw [e1]; exact e) k)
  | none =>
    rw [e1] at e
    exact .inr (h2' F ρ S H xs ds d Q R rx e k)
theorem ev_cb {g : OpN} {r : List V → Hp → VK → Prop} {ta : TA} (h : CallOk K Y g r) (ha : EvA K Y W ta rs) : EvE K Y W (tCB r ta) (rCB g rs) := fun F ρ S H σ env Q R E o =>
  ha.then R E o fun ds us S1 F1 ρ1 H1 R1 n1 E1 ru o1 => by
    obtain ⟨z, hz, k⟩ := lift_out o1
    exact h F1 ρ1 S1 H1 us ds z Q R1 ru hz fun F' H' u R' n' r' => k F' ρ1 H' R' n' u r'
theorem se_callB {g : OpN} {id : String} {x : Str} {p : Pos} (hc : SCall Y X (.builtin id) g) (hm : X.mg x = none) (hv : bootBuiltins x = some (.builtin id)) (ha : SA Y X W (e :: es) rs) (hg : Gl X x := by rfl) (hn : x ≠ "__name__" := by decide) (hdb : (x == ("__debug__" : Str)) = false := by decide)
    (he : starEach (e :: es) X.env = (false, eval e X.env) :: starEach es X.env := by rfl) (hpl : (backTo pos (starEach es X.env)).any (·.1) = false := by rfl) : SE Y X W (.Call (.Name x p) (e :: es) [] pos) (rCB g rs) := by
  obtain ⟨r, h1, h2⟩ := hc.ex
  obtain ⟨ta, a1, a2⟩ := ha.ex
  exact ⟨_, pe_callB h1 hg hm hv a1 hn hdb he hpl, ev_cb h2 a2⟩
theorem se_callTy {g : OpN} {T : String} {x : Str} {p : Pos} (hc : SCall Y X (.type T) g) (hm : X.mg x = none) (hv : bootBuiltins x = some (.type T)) (ha : SA Y X W (e :: es) rs) (hg : Gl X x := by rfl) (hn : x ≠ "__name__" := by decide) (hdb : (x == ("__debug__" : Str)) = false := by decide)
    (he : starEach (e :: es) X.env = (false, eval e X.env) :: starEach es X.env := by rfl) (hpl : (backTo pos (starEach es X.env)).any (·.1) = false := by rfl) : SE Y X W (.Call (.Name x p) (e :: es) [] pos) (rCB g rs) := by
  obtain ⟨r, h1, h2⟩ := hc.ex
  obtain ⟨ta, a1, a2⟩ := ha.ex
  exact ⟨_, pe_callTy h1 hg hm hv a1 hn hdb he hpl, ev_cb h2 a2⟩

/-! ### subscripts, slices -/
structure SIx (Y : Pc) (X : Cx) (g : Op2) : Prop where
  ex : ∃ r, IxR X r ∧ OpOk X.K Y g r
theorem se_ix {g : Op2} (hr : SIx Y X g) (ha : SE Y X W a ra) (hb : SE Y X W b rb) (hs : PlainIx b := by exact fun _ _ => rfl) : SE Y X W (.Subscript a b pos) (r2 g ra rb) := by
  obtain ⟨r, h1, h2⟩ := hr.ex
  obtain ⟨ta, a1, a2⟩ := ha.ex
  obtain ⟨tb, b1, b2⟩ := hb.ex
  exact ⟨_, pe_ix h1 a1 b1 hs, ev_op h2 a2 b2⟩
abbrev OpSl := Store → D → Option Int → Option Int → Option D
def SlOk (K : PySem.W.Frag) (Y : Pc) (g : OpSl) (r : V → Option Int → Option Int → Hp → VK → Prop) : Prop := ∀ (F : Hp) (ρ : List Addr) (S : Store) (H : Hp) (x : V) (dx d : D) (lo hi : Option Int) (Q : VK), SR K Y F ρ S H → RD K F ρ x dx → g S dx lo hi = some d →
  (∀ F' H' u, SR K Y F' ρ S H' → Nx F ρ H F' ρ H' → RD K F' ρ u d → Q u H') → r x lo hi H Q
structure SSl (Y : Pc) (X : Cx) (g : OpSl) : Prop where
  ex : ∃ r, SlR X r ∧ SlOk X.K Y g r
theorem SSl.or {g g' : OpSl} (h : SSl Y X g) (h' : SSl Y X g') : SSl Y X (fun S x lo hi => (g S x lo hi).or (g' S x lo hi)) := by
  obtain ⟨r, h1, h2⟩ := h.ex
  obtain ⟨r', h1', h2'⟩ := h'.ex
  refine ⟨_, h1.or h1', fun F ρ S H x dx d lo hi Q R rx e k => ?_⟩
  have e : (g S dx lo hi).or (g' S dx lo hi) = some d := e
  cases e1 : g S dx lo hi with
  | some z =>
    rw [e1] at e
    exact .inl (h2 F ρ S H x dx d lo hi Q R rx (by rw [e1]; exact e) k)
  | none =>
    rw [e1] at e
    exact .inr (h2' F ρ S H x dx d lo hi Q R rx e k)
def EvO (K : PySem.W.Frag) (Y : Pc) (W : WX) (to : TO) (r : Ev → Store → Res (Option Int)) : Prop := ∀ (F : Hp) (ρ : List Addr) (S : Store) (H : Hp) (σ : L2.St) (env : Ev) (Q : Option Int → Hp → Prop), SR K Y F ρ S H → ER K F ρ σ env →
  Out K Y F ρ H (r env S) (fun o _ _ _ H' => Q o H') (fun c H' => W c none σ H') → to σ H Q
structure SPO (Y : Pc) (X : Cx) (W : WX) (e : Option Expr) (r : Ev → Store → Res (Option Int)) : Prop where
  ex : ∃ t, PO X e t ∧ EvO X.K Y W t r
def oNone : Ev → Store → Res (Option Int) := fun _ S => .ok none S
def oSome (ra : Ev → Store → Res D) : Ev → Store → Res (Option Int) := fun env S => (ra env S).bind fun d S1 => match d with
  | .int i => .ok (some i) S1
  | _ => .stuck
theorem so_none : SPO Y X W none oNone := ⟨_, po_none, fun F ρ S H σ env Q R E h => Out.now h R⟩
theorem so_some (h : SE Y X W e ra) : SPO Y X W (some e) (oSome ra) := by
  obtain ⟨ta, a1, a2⟩ := h.ex
  refine ⟨_, po_some a1, fun F ρ S H σ env Q R E h => a2.then R E h fun d u S1 F1 ρ1 H1 R1 n1 E1 ru o1 => ?_⟩
  cases ru with
  | int i => exact ⟨i, rfl, Out.now o1 R1⟩
  | _ => exact False.elim o1
def rSl (g : OpSl) (ra : Ev → Store → Res D) (rl rh : Ev → Store → Res (Option Int)) : Ev → Store → Res D := fun env S => (ra env S).bind fun x S1 => (rl env S1).bind fun l S2 => (rh env S2).bind fun h S3 => lift (g S3 x l h) S3
theorem se_slice {g : OpSl} {lo hi : Option Expr} {rl rh : Ev → Store → Res (Option Int)} {p2 : Pos} (hr : SSl Y X g) (ha : SE Y X W e ra) (hl : SPO Y X W lo rl) (hu : SPO Y X W hi rh) : SE Y X W (.Subscript e (.Slice lo hi none p2) pos) (rSl g ra rl rh) := by
  obtain ⟨r, h1, h2⟩ := hr.ex
  obtain ⟨ta, a1, a2⟩ := ha.ex
  obtain ⟨tl, l1, l2⟩ := hl.ex
  obtain ⟨th, u1, u2⟩ := hu.ex
  refine ⟨_, pe_slice h1 a1 l1 u1, fun F ρ S H σ env Q R E h => a2.then R E h fun d u S1 F1 ρ1 H1 R1 n1 E1 ru o1 => ?_⟩
  refine l2 F1 ρ1 S1 H1 σ env _ R1 E1 (o1.bind.imp (fun o S2 F2 ρ2 H2 R2 n2 o2 => ?_) fun _ _ z => z)
  refine u2 F2 ρ2 S2 H2 σ env _ R2 (E1.nx n2) (o2.bind.imp (fun o' S3 F3 ρ3 H3 R3 n3 o3 => ?_) fun _ _ z => z)
  obtain ⟨z, hz, k⟩ := lift_out o3
  exact h2 F3 ρ3 S3 H3 u d z o o' Q R3 ((ru.mono n2.ex n2.pre).mono n3.ex n3.pre) hz fun F' H' u R' n' r' => k F' ρ3 H' R' n' u r'

/-! ### methods of built-in types -/
abbrev OpM := Store → D → List D → Option (D × Store)
def MtOk (K : PySem.W.Frag) (Y : Pc) (g : OpM) (r : V → List V → Hp → VK → Prop) : Prop := ∀ (F : Hp) (ρ : List Addr) (S S' : Store) (H : Hp) (x : V) (dx d : D) (xs : List V) (ds : List D) (Q : VK), SR K Y F ρ S H → RD K F ρ x dx → RDs K F ρ xs ds → g S dx ds = some (d, S') →
  (∀ F' H' u, SR K Y F' ρ S' H' → Nx F ρ H F' ρ H' → RD K F' ρ u d → Q u H') → r x xs H Q
def TyOk (K : PySem.W.Frag) (Y : Pc) (T : String) (tb : Store → D → Bool) : Prop := ∀ (F : Hp) (ρ : List Addr) (S : Store) (H : Hp) (x : V) (dx : D), SR K Y F ρ S H → RD K F ρ x dx → tb S dx = true → tyV K T x H
def liftP (o : Option (D × Store)) : Res D := match o with
  | some (d, S) => .ok d S
  | none => .stuck
def rMt (tb : Store → D → Bool) (g : OpM) (ra : Ev → Store → Res D) (rs : Ev → Store → Res (List D)) : Ev → Store → Res D := fun env S => (ra env S).bind fun x S1 => if tb S1 x = true then (rs env S1).bind fun xs S2 => liftP (g S2 x xs) else .stuck
theorem liftP_out {F : Hp} {ρ : List Addr} {H : Hp} {o : Option (D × Store)} {ok : D → Store → Hp → List Addr → Hp → Prop} {ex : Value → Hp → Prop} (h : Out K Y F ρ H (liftP o) ok ex) :
    ∃ d S, o = some (d, S) ∧ ∀ F' ρ' H', SR K Y F' ρ' S H' → Nx F ρ H F' ρ' H' → ok d S F' ρ' H' := by
  cases o with
  | none => exact False.elim h
  | some p => exact ⟨p.1, p.2, rfl, h⟩
structure SMt (Y : Pc) (X : Cx) (T id : String) (tb : Store → D → Bool) (g : OpM) : Prop where
  ex : ∃ r, MtR X id r ∧ MtOk X.K Y g r
  ty : TyOk X.K Y T tb
theorem se_bm {tb : Store → D → Bool} {g : OpM} {T id : String} {name : Str} {o : Expr} {apos cpos : Pos} (hm : SMt Y X T id tb g) (pa : PlainAttrs T) (slot : Slot T name id) (hty : typeOf (.builtin id) = pure (.type "method_descriptor")) (ho : SE Y X W o ra) (ha : SA Y X W (e :: es) rs)
    (hbase : attributeBase o name X.env (eval o X.env) = eval o X.env := by rfl)
    (hfew : ((backTo cpos (starEach (e :: es) X.env)).all (fun x => !x.1) && (backToKw cpos (keywordEach [] X.env)).all (fun x => x.1.isSome)
      && decide ((e :: es).length + ([] : List Keyword).length + (if ([] : List Keyword).isEmpty then 0 else 1) < 30)) = true := by rfl)
    (hline : (apos.endLine == cpos.line) = true := by rfl) (hs : starEach (e :: es) X.env = (false, eval e X.env) :: starEach es X.env := by rfl) (hplain : (backTo cpos (starEach es X.env)).any (·.1) = false := by rfl) :
    SE Y X W (.Call (.Attribute o name apos) (e :: es) [] cpos) (rMt tb g ra rs) := by
  obtain ⟨r, h1, h2⟩ := hm.ex
  obtain ⟨to, o1, o2⟩ := ho.ex
  obtain ⟨ta, a1, a2⟩ := ha.ex
  refine ⟨_, pe_bm pa slot hty h1 o1 a1 hbase hfew hline hs hplain, fun F ρ S H σ env Q R E h => o2.then R E h fun d u S1 F1 ρ1 H1 R1 n1 E1 ru q1 => ?_⟩
  by_cases ht : tb S1 d = true
  · rw [if_pos ht] at q1
    refine ⟨hm.ty _ _ _ _ _ _ R1 ru ht, a2.then R1 E1 q1 fun ds us S2 F2 ρ2 H2 R2 n2 E2 rus q2 => ?_⟩
    obtain ⟨z, S3, hz, k⟩ := liftP_out q2
    exact h2 F2 ρ2 S2 S3 H2 u d z us ds Q R2 (ru.mono n2.ex n2.pre) rus hz fun F' H' u R' n' r' => k F' ρ2 H' R' n' u r'
  · rw [if_neg ht] at q1
    exact False.elim q1
theorem se_bm0 {tb : Store → D → Bool} {g : OpM} {T id : String} {name : Str} {o : Expr} {apos cpos : Pos} (hm : SMt Y X T id tb g) (pa : PlainAttrs T) (slot : Slot T name id) (hty : typeOf (.builtin id) = pure (.type "method_descriptor")) (ho : SE Y X W o ra)
    (hbase : attributeBase o name X.env (eval o X.env) = eval o X.env := by rfl) (hline : (apos.endLine == cpos.line) = true := by rfl) :
    SE Y X W (.Call (.Attribute o name apos) [] [] cpos) (rMt tb g ra rNil) := by
  obtain ⟨r, h1, h2⟩ := hm.ex
  obtain ⟨to, o1, o2⟩ := ho.ex
  refine ⟨_, pe_bm0 pa slot hty h1 o1 hbase hline, fun F ρ S H σ env Q R E h => o2.then R E h fun d u S1 F1 ρ1 H1 R1 n1 E1 ru q1 => ?_⟩
  by_cases ht : tb S1 d = true
  · rw [if_pos ht] at q1
    refine ⟨hm.ty _ _ _ _ _ _ R1 ru ht, ?_⟩
    obtain ⟨z, S3, hz, k⟩ := liftP_out q1
    exact h2 F1 ρ1 S1 S3 H1 u d z [] [] Q R1 ru .nil hz fun F' H' u R' n' r' => k F' ρ1 H' R' n' u r'
  · rw [if_neg ht] at q1
    exact False.elim q1

/-! ### statements -/
def sNext : SM := fun env S => some (.nx env, S)
def sSeq (s t : SM) : SM := fun env S => match s env S with
  | some (.nx env', S') => t env' S'
  | r => r
def sExpr (ra : Ev → Store → Res D) : SM := fun env S => (ra env S).st env fun _ S' => some (.nx env, S')
def sRet (ra : Ev → Store → Res D) : SM := fun env S => (ra env S).st env fun d S' => some (.rt d, S')
def sSet (i : Nat) (ra : Ev → Store → Res D) : SM := fun env S => (ra env S).st env fun d S' => some (.nx (env.set i (some d)), S')
def sIf (rt : Ev → Store → Res Bool) (s t : SM) : SM := fun env S => (rt env S).st env fun b S' => if b = true then s env S' else t env S'
def sBreak : SM := fun env S => some (.bk env, S)
def sCont : SM := fun env S => some (.ct env, S)
def sPar (i j : Nat) (rs : Ev → Store → Res (List D)) : SM := fun env S => (rs env S).st env fun ds S' => match ds with
  | [x, y] => some (.nx ((env.set i (some x)).set j (some y)), S')
  | _ => none
variable {st : Stmt} {sts : List Stmt} {m m' : SM} {Z : Ends}

theorem EvE.thenS {te : TE} {F : Hp} {ρ : List Addr} {S : Store} {H : Hp} {σ : L2.St} {env : Ev} {f : D → Store → Option (Flow × Store)} {Q : VK} (h : EvE K Y W te ra) (R : SR K Y F ρ S H) (E : ER K F ρ σ env)
    (o : OutS K Y F ρ H ((ra env S).st env f) (fun fl _ F' ρ' H' => FlowOk K Y W Z fl F' ρ' H'))
    (k : ∀ d u S1 F1 ρ1 H1, SR K Y F1 ρ1 S1 H1 → Nx F ρ H F1 ρ1 H1 → ER K F1 ρ1 σ env → RD K F1 ρ1 u d → OutS K Y F1 ρ1 H1 (f d S1) (fun fl _ F' ρ' H' => FlowOk K Y W Z fl F' ρ' H') → Q u H1) : te σ H Q :=
  h F ρ S H σ env Q R E ((OutS.st (ex := fun c H' => W c none σ H') o fun c S' F' ρ' H' n q => q σ (E.nx n)).imp (fun d S1 F1 ρ1 H1 R1 n1 o1 u ru => k d u S1 F1 ρ1 H1 R1 n1 (E.nx n1) ru o1) fun _ _ z => z)
theorem EvT.thenS {te : TT} {F : Hp} {ρ : List Addr} {S : Store} {H : Hp} {σ : L2.St} {env : Ev} {f : Bool → Store → Option (Flow × Store)} {Q : Bool → Hp → Prop} (h : EvT K Y W te rt) (R : SR K Y F ρ S H) (E : ER K F ρ σ env)
    (o : OutS K Y F ρ H ((rt env S).st env f) (fun fl _ F' ρ' H' => FlowOk K Y W Z fl F' ρ' H'))
    (k : ∀ b S1 F1 ρ1 H1, SR K Y F1 ρ1 S1 H1 → Nx F ρ H F1 ρ1 H1 → ER K F1 ρ1 σ env → OutS K Y F1 ρ1 H1 (f b S1) (fun fl _ F' ρ' H' => FlowOk K Y W Z fl F' ρ' H') → Q b H1) : te σ H Q :=
  h F ρ S H σ env Q R E ((OutS.st (ex := fun c H' => W c none σ H') o fun c S' F' ρ' H' n q => q σ (E.nx n)).imp (fun d S1 F1 ρ1 H1 R1 n1 o1 => k d S1 F1 ρ1 H1 R1 n1 (E.nx n1) o1) fun _ _ z => z)
theorem EvA.thenS {te : TA} {F : Hp} {ρ : List Addr} {S : Store} {H : Hp} {σ : L2.St} {env : Ev} {f : List D → Store → Option (Flow × Store)} {Q : List V → Hp → Prop} (h : EvA K Y W te rs) (R : SR K Y F ρ S H) (E : ER K F ρ σ env)
    (o : OutS K Y F ρ H ((rs env S).st env f) (fun fl _ F' ρ' H' => FlowOk K Y W Z fl F' ρ' H'))
    (k : ∀ ds us S1 F1 ρ1 H1, SR K Y F1 ρ1 S1 H1 → Nx F ρ H F1 ρ1 H1 → ER K F1 ρ1 σ env → RDs K F1 ρ1 us ds → OutS K Y F1 ρ1 H1 (f ds S1) (fun fl _ F' ρ' H' => FlowOk K Y W Z fl F' ρ' H') → Q us H1) : te σ H Q :=
  h F ρ S H σ env Q R E ((OutS.st (ex := fun c H' => W c none σ H') o fun c S' F' ρ' H' n q => q σ (E.nx n)).imp (fun d S1 F1 ρ1 H1 R1 n1 o1 u ru => k d u S1 F1 ρ1 H1 R1 n1 (E.nx n1) ru o1) fun _ _ z => z)
theorem OutS.now {fl : Flow} {F : Hp} {ρ : List Addr} {S : Store} {H : Hp} {P : Flow → Store → Hp → List Addr → Hp → Prop} (h : OutS K Y F ρ H (some (fl, S)) P) (R : SR K Y F ρ S H) : P fl S F ρ H := h F ρ H R (Nx.refl F ρ H)

theorem ss_nil : SSs Y X W [] sNext := ⟨_, pss_nil, fun F ρ S H σ env Z R E h => OutS.now h R σ E⟩
theorem ss_pass : SS Y X W (.Pass pos) sNext := ⟨_, ps_pass, fun F ρ S H σ env Z R E h => OutS.now h R σ E⟩
theorem ss_break : SS Y X W (.Break pos) sBreak := ⟨_, ps_break, fun F ρ S H σ env Z R E h => OutS.now h R σ E⟩
theorem ss_continue : SS Y X W (.Continue pos) sCont := ⟨_, ps_continue, fun F ρ S H σ env Z R E h => OutS.now h R σ E⟩
theorem ss_one (h : SS Y X W st m) : SSs Y X W [st] m := by
  obtain ⟨t, h1, h2⟩ := h.ex
  exact ⟨t, pss_one h1, h2⟩
theorem ev_seq {t u : TS} (h : EvS K Y W t m) (h' : EvS K Y W u m') : EvS K Y W (tSeq t u) (sSeq m m') := fun F ρ S H σ env Z R E o => by
  refine h F ρ S H σ env { Z with nx := u Z } R E ?_
  unfold sSeq at o
  cases e : m env S with
  | none => rw [e] at o; exact o
  | some p =>
    obtain ⟨fl, S1⟩ := p
    rw [e] at o
    cases fl with
    | nx env1 =>
      intro F1 ρ1 H1 R1 n1 σ1 E1
      have o : OutS K Y F ρ H (m' env1 S1) (fun fl _ F' ρ' H' => FlowOk K Y W Z fl F' ρ' H') := o
      refine h' F1 ρ1 S1 H1 σ1 env1 Z R1 E1 ?_
      cases e2 : m' env1 S1 with
      | none => rw [e2] at o; exact o
      | some p2 => rw [e2] at o; exact fun F2 ρ2 H2 R2 n2 => o F2 ρ2 H2 R2 (n1.trans n2)
    | rt d => exact o
    | bk env1 => exact o
    | ct env1 => exact o
    | ex c env1 => exact o
theorem ss_cons (h : SS Y X W st m) (h' : SSs Y X W sts m') : SSs Y X W (st :: sts) (sSeq m m') := by
  obtain ⟨t, h1, h2⟩ := h.ex
  obtain ⟨u, k1, k2⟩ := h'.ex
  exact ⟨_, pss_cons h1 k1, ev_seq h2 k2⟩
theorem ss_expr (he : SE Y X W e ra) (hs : swapsWith e none pos.line X.env = pure false := by rfl) : SS Y X W (.Expr e pos) (sExpr ra) := by
  obtain ⟨t, h1, h2⟩ := he.ex
  exact ⟨_, ps_expr h1 hs, fun F ρ S H σ env Z R E h => h2.thenS R E h fun d u S1 F1 ρ1 H1 R1 n1 E1 ru o1 => OutS.now o1 R1 σ E1⟩
theorem ss_ret (he : SE Y X W e ra) : SS Y X W (.Return (some e) pos) (sRet ra) := by
  obtain ⟨t, h1, h2⟩ := he.ex
  exact ⟨_, ps_ret h1, fun F ρ S H σ env Z R E h => h2.thenS R E h fun d u S1 F1 ρ1 H1 R1 n1 E1 ru o1 => OutS.now o1 R1 u ru⟩
theorem ev_set {te : TE} {i : Nat} (h2 : EvE K Y W te ra) : EvS K Y W (tAsg te (gName i)) (sSet i ra) := fun F ρ S H σ env Z R E h => h2.thenS R E h fun d u S1 F1 ρ1 H1 R1 n1 E1 ru o1 => OutS.now o1 R1 _ (E1.set i ru)
theorem ss_set (i : Nat) {x : Str} {pos' : Pos} (he : SE Y X W e ra) (hN : X.N.Nodup) (hi : X.N[i]? = some x := by rfl) (hx : Loc X.env.scope x := by first | exact Or.inl rfl | exact Or.inr rfl) (hs : swapsWith e (some (.Name x pos')) pos.line X.env = pure false := by rfl) (hf : X.fn x = true ∨ X.env.scope.names.lookup x = some .local := by first | exact .inl rfl | exact .inr rfl) :
    SS Y X W (.Assign [.Name x pos'] e pos) (sSet i ra) := by
  obtain ⟨t, h1, h2⟩ := he.ex
  exact ⟨_, ps_set hN hi hx h1 hs hf, ev_set h2⟩
theorem ss_if {ps qs : List Stmt} (hc : SB Y X W c rt) (ha : SSs Y X W ps m) (hb : SSs Y X W qs m') : SS Y X W (.If c ps qs pos) (sIf rt m m') := by
  obtain ⟨t, h1, h2⟩ := hc.ex
  obtain ⟨u, a1, a2⟩ := ha.ex
  obtain ⟨v, b1, b2⟩ := hb.ex
  refine ⟨_, ps_if h1 a1 b1, fun F ρ S H σ env Z R E h => h2.thenS R E h fun k S1 F1 ρ1 H1 R1 n1 E1 o1 => ?_⟩
  cases k with
  | true => exact a2 F1 ρ1 S1 H1 σ env Z R1 E1 o1
  | false => exact b2 F1 ρ1 S1 H1 σ env Z R1 E1 o1
theorem ss_par (i j : Nat) {x y : Str} {px py pt : Pos} {kt k2 pt2} (hc : X.calm = true) (ha : SA Y X W [a, b] rs) (hN : X.N.Nodup) (hij : i ≠ j := by decide) (hi : X.N[i]? = some x := by rfl) (hj : X.N[j]? = some y := by rfl)
    (hx : X.env.scope.names.lookup x = some .local := by rfl) (hy : X.env.scope.names.lookup y = some .local := by rfl)
    (hw : swappedStores [.Tuple [.Name x px, .Name y py] kt pt] (.Tuple [a, b] k2 pt2) X.env = pure (some [x, y]) := by rfl)
    (hs : swapsWithSole [.Tuple [.Name x px, .Name y py] kt pt] (.Tuple [a, b] k2 pt2) pos.line X.env = pure false := by rfl) :
    SS Y X W (.Assign [.Tuple [.Name x px, .Name y py] kt pt] (.Tuple [a, b] k2 pt2) pos) (sPar i j rs) := by
  obtain ⟨t, h1, h2⟩ := ha.ex
  refine ⟨_, ps_par hc hN hi hj hij hx hy h1 hw hs, fun F ρ S H σ env Z R E h => h2.thenS R E h fun ds us S1 F1 ρ1 H1 R1 n1 E1 ru o1 => ?_⟩
  cases ru with
  | nil => exact False.elim o1
  | cons r1 rr =>
    cases rr with
    | nil => exact False.elim o1
    | cons r2 rr =>
      cases rr with
      | cons _ _ => exact False.elim o1
      | nil => exact ⟨_, _, rfl, OutS.now o1 R1 _ ((E1.set i r1).set j r2)⟩

/-! ### targets -/
inductive Tg where
  | one (i : Nat) | tup (is : List Nat) | two (is : List Nat) (j : Nat)
def setAll : Ev → List Nat → List D → Option Ev
  | env, [], [] => some env
  | env, i :: is, d :: ds => setAll (env.set i (some d)) is ds
  | _, _, _ => none
def Tg.set (t : Tg) (env : Ev) (d : D) : Option Ev := match t with
  | .one i => some (env.set i (some d))
  | .tup is => match d with
    | .tup ds => setAll env is ds
    | _ => none
  | .two is j => match d with
    | .tup [.tup ds, x] => (setAll env is ds).map fun e => e.set j (some x)
    | _ => none
def Tg.slots : Tg → List Nat
  | .one i => [i]
  | .tup is => is
  | .two is j => j :: is
/-- what a store may change: the slots of a list alone -/
def Only (vs : List Nat) (σ σ' : L2.St) : Prop := σ'.length = σ.length ∧ ∀ i, i ∉ vs → σ'[i]? = σ[i]?
theorem Only.refl (vs : List Nat) (σ : L2.St) : Only vs σ σ := ⟨rfl, fun _ _ => rfl⟩
theorem Only.set {vs : List Nat} {σ σ' : L2.St} (h : Only vs σ σ') {i : Nat} (hi : i ∈ vs) (v : Option V) : Only vs σ (σ'.set i v) := ⟨by simp [h.1], fun j hj => by
  rw [List.getElem?_set_ne (fun (e : i = j) => hj (e ▸ hi))]; exact h.2 j hj⟩
theorem wipe_get {σ : L2.St} {i : Nat} : ∀ {vs : List Nat}, i ∈ vs → i < σ.length → (wipe σ vs)[i]? = some none
  | v :: vs, h, hl => by
    unfold wipe
    by_cases e : v = i
    · subst e
      exact List.getElem?_set_self (by rw [wipe_length]; exact hl)
    · rw [List.getElem?_set_ne e]
      exact wipe_get ((List.mem_cons.mp h).resolve_left fun q => e q.symm) hl
theorem Only.same {vs : List Nat} {σ σ' : L2.St} (h : Only vs σ σ') : wipe σ' vs = wipe σ vs := by
  apply List.ext_getElem?
  intro i
  by_cases hi : i ∈ vs
  · by_cases hl : i < σ.length
    · rw [wipe_get hi hl, wipe_get hi (by rw [h.1]; exact hl)]
    · have hz := h.1
      rw [List.getElem?_eq_none (l := wipe σ' vs) (by rw [wipe_length]; omega), List.getElem?_eq_none (l := wipe σ vs) (by rw [wipe_length]; omega)]
  · rw [wipe_out hi, wipe_out hi]
    exact h.2 i hi
theorem wipe_wipe (σ : L2.St) (vs : List Nat) : wipe (wipe σ vs) vs = wipe σ vs := by
  apply List.ext_getElem?
  intro i
  by_cases hi : i ∈ vs
  · by_cases hl : i < σ.length
    · rw [wipe_get hi hl, wipe_get hi (by rw [wipe_length]; exact hl)]
    · rw [List.getElem?_eq_none (by rw [wipe_length, wipe_length]; omega), List.getElem?_eq_none (by rw [wipe_length]; omega)]
  · rw [wipe_out hi]
def TgOk (K : PySem.W.Frag) (t : Tg) (g : TG) : Prop := ∀ (F : Hp) (ρ : List Addr) (H H0 : Hp) (σ : L2.St) (env env' : Ev) (u : V) (d : D) (Q : L2.St → Hp → Prop), Ex F H → ER K F ρ σ env → RD K F ρ u d → t.set env d = some env' →
  (∀ σ', ER K F ρ σ' env' → Only t.slots σ σ' → Q σ' H) → g u σ H Q
structure STg (X : Cx) (e : Expr) (t : Tg) : Prop where
  ex : ∃ g, PG X e g ∧ TgOk X.K t g
theorem tg_one (i : Nat) {x : Str} (hN : X.N.Nodup) (hi : X.N[i]? = some x := by rfl) (hx : Loc X.env.scope x := by first | exact Or.inl rfl | exact Or.inr rfl) (hf : X.fn x = true ∨ X.env.scope.names.lookup x = some .local := by first | exact .inl rfl | exact .inr rfl) : STg X (.Name x pos) (.one i) :=
  ⟨_, pg_name hN hi hx hf, fun F ρ H H0 σ env env' u d Q ex E r h k => by
    cases h
    exact k _ (E.set i r) ((Only.refl _ _).set (List.mem_singleton.mpr rfl) _)⟩
def TgsOk (K : PySem.W.Frag) (is : List Nat) (g : TGs) : Prop := ∀ (F : Hp) (ρ : List Addr) (H : Hp) (σ : L2.St) (env env' : Ev) (us : List V) (ds : List D) (Q : L2.St → Hp → Prop), ER K F ρ σ env → RDs K F ρ us ds → setAll env is ds = some env' →
  (∀ σ', ER K F ρ σ' env' → Only is σ σ' → Q σ' H) → g us σ H Q
structure STgs (X : Cx) (es : List Expr) (is : List Nat) : Prop where
  ex : ∃ g, PGs X es g ∧ TgsOk X.K is g
theorem tgs_nil : STgs X [] [] := ⟨_, pgs_nil, fun F ρ H σ env env' us ds Q E r h k => by
  cases r with
  | nil =>
    cases h
    exact ⟨rfl, k _ E (Only.refl _ _)⟩
  | cons _ _ => cases h⟩
theorem tgs_cons (i : Nat) {is : List Nat} {x : Str} {p : Pos} (h : STgs X es is) (hN : X.N.Nodup) (hi : X.N[i]? = some x := by rfl) (hx : Loc X.env.scope x := by first | exact Or.inl rfl | exact Or.inr rfl) (hf : X.fn x = true ∨ X.env.scope.names.lookup x = some .local := by first | exact .inl rfl | exact .inr rfl)
    (hs : (assignEach (.Name x p :: es) X.env).map (·.2) = assign (.Name x p) X.env :: (assignEach es X.env).map (·.2) := by rfl) : STgs X (.Name x p :: es) (i :: is) := by
  obtain ⟨g, h1, h2⟩ := h.ex
  refine ⟨_, pgs_cons (pg_name hN hi hx hf) h1 hs, fun F ρ H σ env env' us ds Q E r h k => ?_⟩
  cases r with
  | nil => cases h
  | cons r1 rr =>
    refine ⟨_, _, rfl, ?_⟩
    refine h2 F ρ H _ _ env' _ _ Q (E.set i r1) rr h fun σ' E' o => k σ' E' ⟨by rw [o.1]; simp, fun j hj => ?_⟩
    rw [o.2 j fun m => hj (List.mem_cons_of_mem _ m), List.getElem?_set_ne (fun e => hj (by rw [e]; exact List.mem_cons_self))]
theorem tg_tup {k : Nat} {is : List Nat} (hc : X.calm = true) (h : STgs X es is) (hn : (assignEach es X.env).length = is.length := by rfl) (hst : (assignEach es X.env).findIdx? (·.1) = none := by rfl) : STg X (.Tuple es k pos) (.tup is) := by
  obtain ⟨g, h1, h2⟩ := h.ex
  refine ⟨_, pg_tup hc h1 hn hst, fun F ρ H H0 σ env env' u d Q ex E r h k => ?_⟩
  cases r with
  | tup h3 h4 =>
    refine ⟨_, _, rfl, ex_t ex h3, ?_, h2 F ρ H σ env env' _ _ Q E h4 h k⟩
    have h : setAll env is _ = some env' := h
    rw [h4.length]
    have sl : ∀ {is : List Nat} {ds : List D} {env env' : Ev}, setAll env is ds = some env' → ds.length = is.length := fun {is} => by
      induction is with
      | nil => intro ds env env' h; cases ds with
        | nil => rfl
        | cons _ _ => cases h
      | cons i is ih => intro ds env env' h; cases ds with
        | nil => cases h
        | cons d ds => simp [ih h]
    exact sl h
  | _ => cases h
def sAsg (t : Tg) (ra : Ev → Store → Res D) : SM := fun env S => (ra env S).st env fun d S' => match t.set env d with
  | some env' => some (.nx env', S')
  | none => none
theorem ss_asg {tg : Expr} {t : Tg} (he : SE Y X W e ra) (hg : STg X tg t) (hs : swapsWithSole [tg] e pos.line X.env = pure false := by rfl) (hw : swappedStores [tg] e X.env = pure none := by rfl)
    (h1 : (assignEach [tg] X.env).map (·.2) = [assign tg X.env] := by rfl) : SS Y X W (.Assign [tg] e pos) (sAsg t ra) := by
  obtain ⟨te, a1, a2⟩ := he.ex
  obtain ⟨g, g1, g2⟩ := hg.ex
  refine ⟨_, ps_asg a1 g1 hs hw h1, fun F ρ S H σ env Z R E h => a2.thenS R E h fun d u S1 F1 ρ1 H1 R1 n1 E1 ru o1 => ?_⟩
  cases e : t.set env d with
  | none => rw [e] at o1; exact False.elim o1
  | some env' =>
    rw [e] at o1
    exact g2 F1 ρ1 H1 H1 σ env env' u d _ R1.ex E1 ru e fun σ' E' _ => OutS.now o1 R1 σ' E'
end
end L3
set_option Elab.async false
set_option linter.all false
set_option maxRecDepth 100000
set_option maxHeartbeats 2000000
/-! loops, comprehensions -/
namespace L3
open PySem PySem.Spec L2

section
variable {α β : Type} {K : PySem.W.Frag} {Y : Pc} {F F1 : Hp} {ρ ρ1 : List Addr} {H H1 : Hp} {r : Res α} {f : α → Store → Res β}
theorem Out.later {ok : α → Store → Hp → List Addr → Hp → Prop} {ex : Value → Hp → Prop} (h : Out K Y F ρ H r ok ex) (n : Nx F ρ H F1 ρ1 H1) : Out K Y F1 ρ1 H1 r ok ex := by
  cases r with
  | ok a S => exact fun F' ρ' H' R n' => h F' ρ' H' R (n.trans n')
  | exc c S => exact fun F' ρ' H' R n' => h F' ρ' H' R (n.trans n')
  | stuck => exact h
theorem OutS.later {r : Option (Flow × Store)} {P : Flow → Store → Hp → List Addr → Hp → Prop} (h : OutS K Y F ρ H r P) (n : Nx F ρ H F1 ρ1 H1) : OutS K Y F1 ρ1 H1 r P := by
  cases r with
  | none => exact h
  | some x => exact fun F' ρ' H' R n' => h F' ρ' H' R (n.trans n')
theorem Out.bindB {ok : β → Store → Hp → List Addr → Hp → Prop} {ex : Value → Hp → Prop} (h : Out K Y F ρ H (r.bind f) ok ex) : Out K Y F ρ H r (fun a S' _ _ _ => Out K Y F ρ H (f a S') ok ex) ex := by
  cases r with
  | ok a S => exact fun F' ρ' H' R n => h
  | exc c S => exact h
  | stuck => exact h
def Res.noex (r : Res α) : Res α := match r with
  | .exc _ _ => .stuck
  | r => r
theorem Out.noex {ok : α → Store → Hp → List Addr → Hp → Prop} {ex ex' : Value → Hp → Prop} (h : Out K Y F ρ H r.noex ok ex) : Out K Y F ρ H r ok ex' := by
  cases r with
  | ok a S => exact h
  | exc c S => exact False.elim h
  | stuck => exact h
end

/-! ### what is walked -/
def WalksJ (K : PySem.W.Frag) (Y : Pc) (J : It) (F0 : Hp) (ρ0 : List Addr) (items : List D) : Prop := ∀ (F : Hp) (ρ : List Addr) (S : Store) (H : Hp), Ex F0 F → Pre ρ0 ρ → SR K Y F ρ S H → ∀ i : Nat,
  (∀ d, items[i]? = some d → J.go i H ∧ ∀ x H', J.yld i H x H' → ∃ F', SR K Y F' ρ S H' ∧ Nx F ρ H F' ρ H' ∧ RD K F' ρ x d) ∧ (items.length ≤ i → J.stop i H)
def EvI (K : PySem.W.Frag) (Y : Pc) (W : WX) (wi : TI) (r : Ev → Store → Res (List D)) : Prop := ∀ (F : Hp) (ρ : List Addr) (S : Store) (H : Hp) (σ : L2.St) (env : Ev) (Q : It → Hp → Prop), SR K Y F ρ S H → ER K F ρ σ env →
  Out K Y F ρ H (r env S) (fun items _ F' ρ' H' => ∀ J, WalksJ K Y J F' ρ' items → Q J H') (fun c H' => W c none σ H') → wi σ H Q
structure SI (Y : Pc) (X : Cx) (W : WX) (tg iter : Expr) (r : Ev → Store → Res (List D)) : Prop where
  ex : ∃ wi, PI X tg iter wi ∧ EvI X.K Y W wi r
theorem OpR.imp {X : Cx} {f : Value → Value → Sem Value} {r r' : R2} (h : OpR X f r) (k : ∀ x y H Q, r' x y H Q → r x y H Q) : OpR X f r' := fun pins s σ H x y v u Q I rx ry q => h pins s σ H x y v u Q I rx ry (k _ _ _ _ q)
theorem PI.imp {X : Cx} {tg iter : Expr} {wi wi' : TI} (h : PI X tg iter wi) (k : ∀ σ H R, wi' σ H R → wi σ H R) : PI X tg iter wi' := ⟨fun pins s σ H R I q => h.run pins s σ H R I (k _ _ _ q)⟩
theorem PE.imp {X : Cx} {e : Expr} {t t' : TE} (h : PE X e t) (k : ∀ σ H Q, t' σ H Q → t σ H Q) : PE X e t' := ⟨fun pins s σ H Q I q => h.run pins s σ H Q I (k _ _ _ q)⟩
theorem PT.imp {X : Cx} {e : Expr} {t t' : TT} (h : PT X e t) (k : ∀ σ H Q, t' σ H Q → t σ H Q) : PT X e t' := ⟨fun pins s σ H Q I q => h.run pins s σ H Q I (k _ _ _ q)⟩
theorem PTs.imp {X : Cx} {e : List Expr} {t t' : TT} (h : PTs X e t) (k : ∀ σ H Q, t' σ H Q → t σ H Q) : PTs X e t' := ⟨fun pins s σ H Q I q => h.run pins s σ H Q I (k _ _ _ q)⟩
theorem PG.imp {X : Cx} {e : Expr} {t t' : TG} (h : PG X e t) (k : ∀ v σ H Q, t' v σ H Q → t v σ H Q) : PG X e t' := ⟨fun pins s σ H v u Q I r q => h.run pins s σ H v u Q I r (k _ _ _ _ q)⟩
/-- the reading that only tells what is computed -/
def canE (K : PySem.W.Frag) (Y : Pc) (W : WX) (r : Ev → Store → Res D) : TE := fun σ H Q => ∃ F ρ S env, SR K Y F ρ S H ∧ ER K F ρ σ env ∧ Out K Y F ρ H (r env S) (fun d _ F' ρ' H' => ∀ u, RD K F' ρ' u d → Q u H') (fun c H' => W c none σ H')
def canT (K : PySem.W.Frag) (Y : Pc) (W : WX) (r : Ev → Store → Res Bool) : TT := fun σ H Q => ∃ F ρ S env, SR K Y F ρ S H ∧ ER K F ρ σ env ∧ Out K Y F ρ H (r env S) (fun b _ F' ρ' H' => Q b H') (fun c H' => W c none σ H')
def canG (K : PySem.W.Frag) (t : Tg) : TG := fun u σ H Q => ∃ F ρ env env' d, Ex F H ∧ ER K F ρ σ env ∧ RD K F ρ u d ∧ t.set env d = some env' ∧ ∀ σ', ER K F ρ σ' env' → Only t.slots σ σ' → Q σ' H
theorem SE.can {Y : Pc} {X : Cx} {W : WX} {e : Expr} {r : Ev → Store → Res D} (h : SE Y X W e r) : PE X e (canE X.K Y W r) := by
  obtain ⟨t, h1, h2⟩ := h.ex
  exact PE.imp h1 fun σ H Q ⟨F, ρ, S, env, R, E, o⟩ => h2 F ρ S H σ env Q R E o
theorem SB.can {Y : Pc} {X : Cx} {W : WX} {e : Expr} {r : Ev → Store → Res Bool} (h : SB Y X W e r) : PT X e (canT X.K Y W r) := by
  obtain ⟨t, h1, h2⟩ := h.ex
  exact PT.imp h1 fun σ H Q ⟨F, ρ, S, env, R, E, o⟩ => h2 F ρ S H σ env Q R E o
theorem STg.can {X : Cx} {e : Expr} {t : Tg} (h : STg X e t) : PG X e (canG X.K t) := by
  obtain ⟨g, h1, h2⟩ := h.ex
  exact PG.imp h1 fun u σ H Q ⟨F, ρ, env, env', d, ex, E, r, e, k⟩ => h2 F ρ H H σ env env' u d Q ex E r e k

section
variable {Y : Pc} {X : Cx} {W : WX} {a b c e tg iter : Expr} {es : List Expr} {ra rb rc : Ev → Store → Res D} {rs ri : Ev → Store → Res (List D)} {rt : Ev → Store → Res Bool} {pos : Pos} {K : PySem.W.Frag}

/-- the items of a list, of a tuple (both stand still) -/
def iSeq (ra : Ev → Store → Res D) : Ev → Store → Res (List D) := fun env S => (ra env S).bind fun d S1 => match d with
  | .lst ds => .ok ds S1
  | _ => .stuck
def iTupS (ra : Ev → Store → Res D) : Ev → Store → Res (List D) := fun env S => (ra env S).bind fun d S1 => match d with
  | .tup ds => .ok ds S1
  | _ => .stuck
theorem walks_list {F : Hp} {ρ : List Addr} {l : Addr} {xs : List V} {ds : List D} (h : SqL K F l xs) (r : RDs K F ρ xs ds) : WalksJ K Y (Itl K l) F ρ ds := fun F1 ρ1 S1 H1 e p R i => by
  have q : SqL K H1 l xs := ex_l (e.trans R.ex) h
  refine ⟨fun d hd => ?_, fun hi => ⟨xs, q, by rw [r.length]; exact hi⟩⟩
  obtain ⟨v, hv, rv⟩ := r.get hd
  refine ⟨⟨xs, v, q, hv⟩, fun x H' y => ?_⟩
  obtain ⟨rfl, y⟩ := y
  have := y xs q
  rw [hv] at this; cases this
  exact ⟨F1, R, Nx.refl _ _ _, rv.mono e p⟩
theorem walks_tup {F : Hp} {ρ : List Addr} {l : Addr} {xs : List V} {ds : List D} (h : SqT K F l xs) (r : RDs K F ρ xs ds) : WalksJ K Y (Itt K l) F ρ ds := fun F1 ρ1 S1 H1 e p R i => by
  have q : SqT K H1 l xs := ex_t (e.trans R.ex) h
  refine ⟨fun d hd => ?_, fun hi => ⟨xs, q, by rw [r.length]; exact hi⟩⟩
  obtain ⟨v, hv, rv⟩ := r.get hd
  refine ⟨⟨xs, v, q, hv⟩, fun x H' y => ?_⟩
  obtain ⟨rfl, y⟩ := y
  have := y xs q
  rw [hv] at this; cases this
  exact ⟨F1, R, Nx.refl _ _ _, rv.mono e p⟩
theorem si_list (ha : SE Y X W iter ra) : SI Y X W tg iter (iSeq ra) := by
  obtain ⟨ta, a1, a2⟩ := ha.ex
  refine ⟨_, pi_list a1, fun F ρ S H σ env Q R E h => a2.then R E h fun d u S1 F1 ρ1 H1 R1 n1 E1 ru o1 => ?_⟩
  cases ru with
  | lst h1 h2 => exact ⟨_, rfl, ⟨_, SqL.of (R1.ex _ _ h1)⟩, Out.now o1 R1 _ (walks_list (SqL.of h1) h2)⟩
  | _ => exact False.elim o1
theorem si_tup (ha : SE Y X W iter ra) : SI Y X W tg iter (iTupS ra) := by
  obtain ⟨ta, a1, a2⟩ := ha.ex
  refine ⟨_, pi_tup a1, fun F ρ S H σ env Q R E h => a2.then R E h fun d u S1 F1 ρ1 H1 R1 n1 E1 ru o1 => ?_⟩
  cases ru with
  | tup h1 h2 => exact ⟨_, rfl, ⟨_, ex_t R1.ex h1⟩, Out.now o1 R1 _ (walks_tup h1 h2)⟩
  | _ => exact False.elim o1
def iStrS (ra : Ev → Store → Res D) : Ev → Store → Res (List D) := fun env S => (ra env S).bind fun d S1 => match d with
  | .str s => .ok (s.map fun c => .str [c]) S1
  | _ => .stuck
theorem si_str (ha : SE Y X W iter ra) : SI Y X W tg iter (iStrS ra) := by
  obtain ⟨ta, a1, a2⟩ := ha.ex
  refine ⟨_, pi_str a1, fun F ρ S H σ env Q R E h => a2.then R E h fun d u S1 F1 ρ1 H1 R1 n1 E1 ru o1 => ?_⟩
  cases ru with
  | str s hs =>
    refine ⟨_, rfl, Out.now o1 R1 _ fun F2 ρ2 S2 H2 e p R2 i => ⟨fun d hd => ?_, fun hi => ?_⟩⟩
    · rw [List.getElem?_map] at hd
      cases q : s[i]? with
      | none => rw [q] at hd; cases hd
      | some c =>
        rw [q] at hd; cases hd
        have hl := (List.getElem?_eq_some_iff.mp q).1
        refine ⟨by show i < s.toArray.size; simpa using hl, fun x H' y => ?_⟩
        obtain ⟨rfl, c', e1, rfl⟩ := y
        have e1 : s.toArray[i]? = some c' := e1
        simp only [List.getElem?_toArray] at e1
        rw [q] at e1; cases e1
        exact ⟨F2, R2, Nx.refl _ _ _, .str [c] (fun c' h => by rw [List.mem_singleton.mp h]; exact hs _ (List.mem_of_getElem? q))⟩
    · show s.toArray.size ≤ i
      simpa using hi
  | _ => exact False.elim o1
def intsFrom (lo : Int) (n : Nat) : List D := (List.range n).map fun (k : Nat) => .int (lo + (k : Int))
theorem walks_range {F : Hp} {ρ : List Addr} (lo : Int) (n : Nat) : WalksJ K Y (Itr lo n) F ρ (intsFrom lo n) := fun F2 ρ2 S2 H2 e p R2 i => by
  refine ⟨fun d hd => ?_, fun hi => ?_⟩
  · unfold intsFrom at hd
    rw [List.getElem?_map] at hd
    by_cases hl : i < n
    · rw [List.getElem?_range hl] at hd; cases hd
      refine ⟨hl, fun x H' y => ?_⟩
      obtain ⟨rfl, rfl⟩ := y
      exact ⟨F2, R2, Nx.refl _ _ _, .int _⟩
    · rw [List.getElem?_eq_none (by simpa using hl)] at hd; cases hd
  · show n ≤ i
    unfold intsFrom at hi
    simpa using hi
def iRng1S (rs : Ev → Store → Res (List D)) : Ev → Store → Res (List D) := fun env S => (rs env S).bind fun ds S1 => match ds with
  | [.int n] => if n < 100000 ∧ -100000 < n then .ok (intsFrom 0 n.toNat) S1 else .stuck
  | _ => .stuck
def iRng2S (rs : Ev → Store → Res (List D)) : Ev → Store → Res (List D) := fun env S => (rs env S).bind fun ds S1 => match ds with
  | [.int i, .int n] => if (n < 100000 ∧ -100000 < n) ∧ (i < 100000 ∧ -100000 < i) then .ok (intsFrom i (n - i).toNat) S1 else .stuck
  | _ => .stuck
theorem si_range1 {p : Pos} (hm : X.mg "range" = none) (ha : SA Y X W [a] rs) (hg : Gl X "range" := by rfl) (hs : starEach [a] X.env = [(false, eval a X.env)] := by rfl) : SI Y X W tg (.Call (.Name "range" p) [a] [] pos) (iRng1S rs) := by
  obtain ⟨ta, a1, a2⟩ := ha.ex
  refine ⟨_, pi_range1 hg hm a1 hs, fun F ρ S H σ env Q R E h => a2.then R E h fun ds us S1 F1 ρ1 H1 R1 n1 E1 ru o1 => ?_⟩
  cases ru with
  | nil => exact False.elim o1
  | cons r1 rr =>
    cases rr with
    | cons _ _ => cases r1 <;> exact False.elim o1
    | nil =>
      cases r1 with
      | int n =>
        have o1 : Out X.K Y F1 ρ1 H1 (if n < 100000 ∧ -100000 < n then .ok (intsFrom 0 n.toNat) S1 else .stuck) _ _ := o1
        by_cases hn : n < 100000 ∧ -100000 < n
        · rw [if_pos hn] at o1
          exact ⟨n, rfl, by omega, by omega, Out.now o1 R1 _ (walks_range 0 n.toNat)⟩
        · rw [if_neg hn] at o1
          exact False.elim o1
      | _ => exact False.elim o1
theorem si_range2 {p : Pos} (hm : X.mg "range" = none) (ha : SA Y X W [a, b] rs) (hg : Gl X "range" := by rfl) (hs : starEach [a, b] X.env = [(false, eval a X.env), (false, eval b X.env)] := by rfl) (hs2 : starEach [b] X.env = [(false, eval b X.env)] := by rfl) : SI Y X W tg (.Call (.Name "range" p) [a, b] [] pos) (iRng2S rs) := by
  obtain ⟨ta, a1, a2⟩ := ha.ex
  refine ⟨_, pi_range2 hg hm a1 hs hs2, fun F ρ S H σ env Q R E h => a2.then R E h fun ds us S1 F1 ρ1 H1 R1 n1 E1 ru o1 => ?_⟩
  cases ru with
  | nil => exact False.elim o1
  | cons r1 rr =>
    cases rr with
    | nil => cases r1 <;> exact False.elim o1
    | cons r2 rr =>
      cases rr with
      | cons _ _ => cases r1 <;> cases r2 <;> exact False.elim o1
      | nil =>
        cases r1 with
        | int i =>
          cases r2 with
          | int n =>
            have o1 : Out X.K Y F1 ρ1 H1 (if (n < 100000 ∧ -100000 < n) ∧ (i < 100000 ∧ -100000 < i) then .ok (intsFrom i (n - i).toNat) S1 else .stuck) _ _ := o1
            by_cases hn : (n < 100000 ∧ -100000 < n) ∧ (i < 100000 ∧ -100000 < i)
            · rw [if_pos hn] at o1
              exact ⟨i, n, rfl, by omega, Out.now o1 R1 _ (walks_range i (n - i).toNat)⟩
            · rw [if_neg hn] at o1
              exact False.elim o1
          | _ => exact False.elim o1
        | _ => exact False.elim o1

/-! ### for -/
def forGo (t : Tg) (body : SM) : List D → SM
  | [], env, S => some (.nx env, S)
  | d :: ds, env, S => match t.set env d with
    | none => none
    | some env1 => match body env1 S with
      | some (.nx e, S') => forGo t body ds e S'
      | some (.ct e, S') => forGo t body ds e S'
      | some (.bk e, S') => some (.nx e, S')
      | r => r
def sFor (t : Tg) (ri : Ev → Store → Res (List D)) (body : SM) : SM := fun env S => (ri env S).st env fun items S' => forGo t body items env S'
theorem ev_for {wi : TI} {g : TG} {t : Tg} {tb : TS} {body : SM} (hi : EvI K Y W wi ri) (hg : TgOk K t g) (hb : EvS K Y W tb body) : EvS K Y W (tFor wi g tb) (sFor t ri body) := fun F0 ρ0 S0 H0 σ0 env0 Z R0 E0 h => by
  refine hi F0 ρ0 S0 H0 σ0 env0 _ R0 E0 ((OutS.st (ex := fun c H' => W c none σ0 H') h fun c S' F' ρ' H' n q => q σ0 (E0.nx n)).imp (fun items S1 F1 ρ1 H1 R1 n1 o1 J wk => ?_) fun _ _ z => z)
  refine ⟨fun i m σ H => i ≤ items.length ∧ m = items.length - i ∧ ∃ F ρ S env, Ex F1 F ∧ Pre ρ1 ρ ∧ SR K Y F ρ S H ∧ ER K F ρ σ env ∧ OutS K Y F ρ H (forGo t body (items.drop i) env S) (fun fl _ F' ρ' H' => FlowOk K Y W Z fl F' ρ' H'),
    ⟨items.length, Nat.zero_le _, rfl, F1, ρ1, S1, env0, Ex.refl _, fun _ _ h => h, R1, E0.nx n1, by simpa using o1⟩, ?_⟩
  rintro i m σ H ⟨hil, rfl, F, ρ, S, env, ex, pr, R, E, o⟩
  have w := wk F ρ S H ex pr R i
  by_cases hl : i < items.length
  · rw [List.drop_eq_getElem_cons hl] at o
    obtain ⟨go, yl⟩ := w.1 items[i] (List.getElem?_eq_getElem hl)
    refine .inr ⟨go, fun σ' H' => i + 1 ≤ items.length ∧ ∃ F ρ S env, Ex F1 F ∧ Pre ρ1 ρ ∧ SR K Y F ρ S H' ∧ ER K F ρ σ' env ∧ OutS K Y F ρ H' (forGo t body (items.drop (i + 1)) env S) (fun fl _ F' ρ' H' => FlowOk K Y W Z fl F' ρ' H'), fun σ' H' ⟨q1, q2⟩ => ⟨items.length - (i + 1), by omega, q1, rfl, q2⟩, fun x H' y => ?_⟩
    obtain ⟨F', R', n', rx⟩ := yl x H' y
    have o : OutS K Y F ρ H (match t.set env items[i] with
      | none => none
      | some env1 => match body env1 S with
        | some (.nx e, S') => forGo t body (items.drop (i + 1)) e S'
        | some (.ct e, S') => forGo t body (items.drop (i + 1)) e S'
        | some (.bk e, S') => some (.nx e, S')
        | r => r) (fun fl _ F' ρ' H' => FlowOk K Y W Z fl F' ρ' H') := o
    cases et : t.set env items[i] with
    | none => rw [et] at o; exact False.elim o
    | some env1 =>
      rw [et] at o
      refine hg F' ρ H' H' σ env env1 x items[i] _ R'.ex (E.nx n') rx et fun σ2 E2 _ => ?_
      refine hb F' ρ S H' σ2 env1 _ R' E2 ?_
      dsimp only at o
      have o := o.later n'
      cases eb : body env1 S with
      | none => rw [eb] at o; exact False.elim o
      | some p =>
        obtain ⟨fl, S3⟩ := p
        rw [eb] at o
        intro F3 ρ3 H3 R3 n3
        cases fl with
        | nx e3 => exact fun σ3 E3 => ⟨hl, F3, ρ3, S3, e3, (ex.trans n'.ex).trans n3.ex, fun i a h => n3.pre i a (n'.pre i a (pr i a h)), R3, E3, OutS.later o n3⟩
        | ct e3 => exact fun σ3 E3 => ⟨hl, F3, ρ3, S3, e3, (ex.trans n'.ex).trans n3.ex, fun i a h => n3.pre i a (n'.pre i a (pr i a h)), R3, E3, OutS.later o n3⟩
        | bk e3 => exact fun σ3 E3 => o F3 ρ3 H3 R3 n3 σ3 E3
        | rt d => exact fun u ru => o F3 ρ3 H3 R3 n3 u ru
        | ex c e3 => exact fun σ3 E3 => o F3 ρ3 H3 R3 n3 σ3 E3
  · have hi : i = items.length := by omega
    subst hi
    rw [List.drop_length] at o
    exact .inl ⟨w.2 (Nat.le_refl _), OutS.now o R σ E⟩
theorem ss_for {k : Nat} {body : List Stmt} {t : Tg} {m : SM} (P : PassesOwn (model X.prog X.w) X.A X.env X.xe) (C : Ok X W k) (hi : SI Y X W tg iter ri) (hg : STg X tg t) (hb : SSs Y X W body m) (hs : ∀ x, foldedSetIterable iter X.env x = pure x := by intro _; rfl) :
    SS Y X W (.For tg iter body [] pos) (sFor t ri m) := by
  obtain ⟨wi, i1, i2⟩ := hi.ex
  obtain ⟨g, g1, g2⟩ := hg.ex
  obtain ⟨tb, b1, b2⟩ := hb.ex
  exact ⟨_, ps_for P C.calm i1 g1 b1 hs, ev_for i2 g2 b2⟩

/-! ### while -/
def whileGo (rt : Ev → Store → Res Bool) (body : SM) : Nat → SM
  | 0, _, _ => none
  | n + 1, env, S => (rt env S).st env fun b S1 => if b = true then (match body env S1 with
      | some (.nx e, S') => whileGo rt body n e S'
      | some (.ct e, S') => whileGo rt body n e S'
      | some (.bk e, S') => some (.nx e, S')
      | r => r) else some (.nx env, S1)
def sWhile (fuel : Nat) (rt : Ev → Store → Res Bool) (body : SM) : SM := whileGo rt body fuel
theorem ev_while {fuel : Nat} {tc : TT} {tb : TS} {body : SM} (hc : EvT K Y W tc rt) (hb : EvS K Y W tb body) : EvS K Y W (tWhile tc tb) (sWhile fuel rt body) := fun F0 ρ0 S0 H0 σ0 env0 Z R0 E0 h => by
  refine ⟨fun n σ H => ∃ F ρ S env, SR K Y F ρ S H ∧ ER K F ρ σ env ∧ OutS K Y F ρ H (whileGo rt body n env S) (fun fl _ F' ρ' H' => FlowOk K Y W Z fl F' ρ' H'), ⟨fuel, F0, ρ0, S0, env0, R0, E0, h⟩, ?_⟩
  rintro n σ H ⟨F, ρ, S, env, R, E, o⟩
  cases n with
  | zero => exact False.elim o
  | succ n =>
    refine hc.thenS R E (Z := Z) o fun b S1 F1 ρ1 H1 R1 n1 E1 o1 => ?_
    cases b with
    | false => exact OutS.now o1 R1 σ E1
    | true =>
      refine ⟨fun σ H => ∃ F ρ S env, SR K Y F ρ S H ∧ ER K F ρ σ env ∧ OutS K Y F ρ H (whileGo rt body n env S) (fun fl _ F' ρ' H' => FlowOk K Y W Z fl F' ρ' H'), fun σ' H' q => ⟨n, Nat.lt_succ_self n, q⟩, ?_⟩
      refine hb F1 ρ1 S1 H1 σ env _ R1 E1 ?_
      have o : OutS K Y F1 ρ1 H1 (match body env S1 with
        | some (.nx e, S') => whileGo rt body n e S'
        | some (.ct e, S') => whileGo rt body n e S'
        | some (.bk e, S') => some (.nx e, S')
        | r => r) (fun fl _ F' ρ' H' => FlowOk K Y W Z fl F' ρ' H') := o1
      cases eb : body env S1 with
      | none => rw [eb] at o; exact False.elim o
      | some p =>
        obtain ⟨fl, S3⟩ := p
        rw [eb] at o
        intro F3 ρ3 H3 R3 n3
        cases fl with
        | nx e3 => exact fun σ3 E3 => ⟨F3, ρ3, S3, e3, R3, E3, OutS.later o n3⟩
        | ct e3 => exact fun σ3 E3 => ⟨F3, ρ3, S3, e3, R3, E3, OutS.later o n3⟩
        | bk e3 => exact fun σ3 E3 => o F3 ρ3 H3 R3 n3 σ3 E3
        | rt d => exact fun u ru => o F3 ρ3 H3 R3 n3 u ru
        | ex c e3 => exact fun σ3 E3 => o F3 ρ3 H3 R3 n3 σ3 E3
theorem ss_while (fuel : Nat) {body : List Stmt} {m : SM} (P : PassesOwn (model X.prog X.w) X.A X.env X.xe) (hc : SB Y X W c rt) (hb : SSs Y X W body m) : SS Y X W (.While c body [] pos) (sWhile fuel rt m) := by
  obtain ⟨tc, c1, c2⟩ := hc.ex
  obtain ⟨tb, b1, b2⟩ := hb.ex
  exact ⟨_, ps_while P c1 b1, ev_while c2 b2⟩

/-! ### comprehensions -/
abbrev W0 : WX := fun _ _ _ _ => False
def lcGo (t : Tg) (rt : Ev → Store → Res Bool) (re : Ev → Store → Res D) (env : Ev) : List D → Store → Res (List D)
  | [], S => .ok [] S
  | d :: ds, S => match t.set env d with
    | none => .stuck
    | some env1 => (rt env1 S).noex.bind fun b S1 => if b = true then (re env1 S1).noex.bind fun v S2 => (lcGo t rt re env ds S2).bind fun l S3 => .ok (v :: l) S3 else lcGo t rt re env ds S1
def rLc (t : Tg) (ri : Ev → Store → Res (List D)) (rt : Ev → Store → Res Bool) (re : Ev → Store → Res D) (vs : List Nat) : Ev → Store → Res D := fun env S => (ri env S).bind fun items S1 => if items.length ≤ 100000 then (lcGo t rt re (wipeE env vs) items S1).bind fun l S2 => .ok (.lst l) S2 else .stuck
def rLcM (t : Tg) (ri : Ev → Store → Res (List D)) (rt : Ev → Store → Res Bool) (re : Ev → Store → Res D) (vs : List Nat) : Ev → Store → Res D := fun env S => (ri env S).bind fun items S1 => if items.length ≤ 100000 then (lcGo t rt re (wipeE env vs) items S1).bind fun l S2 => .ok (.loc S2.length) (S2 ++ [.lst l]) else .stuck
theorem Res.bind_bind {α β γ : Type} (r : Res α) (f : α → Store → Res β) (g : β → Store → Res γ) : (r.bind f).bind g = r.bind fun a S => (f a S).bind g := by
  cases r <;> rfl
/-- the heart: fin says what follows from the finished list -/
theorem ev_lc {wi : TI} {t : Tg} {re : Ev → Store → Res D} {vs : List Nat} {fin : List D → Store → Res D} (hi : EvI K Y W wi ri) (hv : ∀ i ∈ t.slots, i ∈ vs)
    (hfin : ∀ (F0 : Hp) (ρ0 : List Addr) (H0 : Hp) (F : Hp) (ρ : List Addr) (S : Store) (H : Hp) (DA : Addr) (us : List V) (ds : List D) (Q : VK) (ex : Value → Hp → Prop), SR K Y F ρ S H → Nx F0 ρ0 H0 F ρ H → H0 DA = none → H DA = some (.lst us) → F DA = none → DA ∉ ρ → RDs K F ρ us ds → Out K Y F0 ρ0 H0 (fin ds S) (fun d _ F' ρ' H' => ∀ u, RD K F' ρ' u d → Q u H') ex → Q (.ref DA) H) :
    EvE K Y W (tLc wi (canG K t) (canT K Y W0 rt) (canE K Y W0 re) vs) (fun env S => (ri env S).bind fun items S1 => if items.length ≤ 100000 then (lcGo t rt re (wipeE env vs) items S1).bind fin else .stuck) := fun F0 ρ0 S0 H0 σ0 env0 Q R0 E0 h => by
  refine hi F0 ρ0 S0 H0 σ0 env0 _ R0 E0 (h.bind.imp (fun items S1 F1 ρ1 H1 R1 n1 o1 J wk DA hD => ?_) fun _ _ z => z)
  have E1 := E0.nx n1
  by_cases hlen : items.length ≤ 100000
  · rw [if_pos hlen] at o1
    have FD : F1 DA = none := by
      cases e : F1 DA with
      | none => rfl
      | some u => rw [R1.ex DA u e] at hD; cases hD
    have rD : DA ∉ ρ1 := fun m => R1.there DA m hD
    obtain ⟨Rg, ng⟩ := R1.grown (o := .lst []) hD
    refine ⟨fun i m H => i ≤ items.length ∧ m = items.length - i ∧ ∃ F ρ S us ds, Nx F1 ρ1 H1 F ρ H ∧ SR K Y F ρ S H ∧ H DA = some (.lst us) ∧ F DA = none ∧ DA ∉ ρ ∧ RDs K F ρ us ds ∧ us.length ≤ i ∧
        Out K Y F1 ρ1 H1 ((lcGo t rt re (wipeE env0 vs) (items.drop i) S).bind fun l S2 => fin (ds ++ l) S2) (fun d _ F' ρ' H' => ∀ u, RD K F' ρ' u d → Q u H') (fun c H' => W c none σ0 H'),
      ⟨items.length, Nat.zero_le _, rfl, F1, ρ1, S1, [], [], ng, Rg, upd_same, FD, rD, .nil, Nat.le_refl _, by simpa using o1⟩, ?_⟩
    rintro i m H ⟨hil, rfl, F, ρ, S, us, ds, n, R, hH, hF, hρ, ru, hu, o⟩
    have w := wk F ρ S H n.ex n.pre R i
    by_cases hl : i < items.length
    · rw [List.drop_eq_getElem_cons hl] at o
      obtain ⟨go, yl⟩ := w.1 items[i] (List.getElem?_eq_getElem hl)
      refine .inr ⟨go, fun H => i + 1 ≤ items.length ∧ ∃ F ρ S us ds, Nx F1 ρ1 H1 F ρ H ∧ SR K Y F ρ S H ∧ H DA = some (.lst us) ∧ F DA = none ∧ DA ∉ ρ ∧ RDs K F ρ us ds ∧ us.length ≤ i + 1 ∧
        Out K Y F1 ρ1 H1 ((lcGo t rt re (wipeE env0 vs) (items.drop (i + 1)) S).bind fun l S2 => fin (ds ++ l) S2) (fun d _ F' ρ' H' => ∀ u, RD K F' ρ' u d → Q u H') (fun c H' => W c none σ0 H'), fun H' ⟨q1, q2⟩ => ⟨items.length - (i + 1), by omega, q1, rfl, q2⟩, fun x H' y => ?_⟩
      obtain ⟨F', R', n', rx⟩ := yl x H' y
      have keepD : ∀ {F2 : Hp} {ρ2 : List Addr} {H2 F3 : Hp} {ρ3 : List Addr} {H3 : Hp} {us2 : List V}, H2 DA = some (.lst us2) → F2 DA = none → DA ∉ ρ2 → Nx F2 ρ2 H2 F3 ρ3 H3 → H3 DA = some (.lst us2) ∧ F3 DA = none ∧ DA ∉ ρ3 := fun {F2 ρ2 H2 F3 ρ3 H3 us2} q1 q2 q3 nn => by
        refine ⟨nn.fr DA _ q1 q3, ?_, fun m => ?_⟩
        · cases e : F3 DA with
          | none => rfl
          | some u =>
            rcases nn.fh DA (by rw [e]; simp) with z | z | z
            · exact absurd q2 z
            · rw [q1] at z; cases z
            · exact absurd z q3
        · rcases nn.rh DA m with z | z
          · exact q3 z
          · rw [q1] at z; cases z
      obtain ⟨hH', hF', hρ'⟩ := keepD hH hF hρ n'
      have Ew : ER K F' ρ (wipe σ0 vs) (wipeE env0 vs) := ((E1.mono (n.trans n').ex (n.trans n').pre)).wipe vs
      have o : Out K Y F1 ρ1 H1 ((match t.set (wipeE env0 vs) items[i] with
        | none => (.stuck : Res (List D))
        | some env1 => (rt env1 S).noex.bind fun b S1 => if b = true then (re env1 S1).noex.bind fun v S2 => (lcGo t rt re (wipeE env0 vs) (items.drop (i + 1)) S2).bind fun l S3 => .ok (v :: l) S3 else lcGo t rt re (wipeE env0 vs) (items.drop (i + 1)) S1).bind fun l S2 => fin (ds ++ l) S2)
          (fun d _ F' ρ' H' => ∀ u, RD K F' ρ' u d → Q u H') (fun c H' => W c none σ0 H') := o
      cases et : t.set (wipeE env0 vs) items[i] with
      | none => rw [et] at o; exact False.elim o
      | some env1 =>
        rw [et] at o
        refine ⟨F', ρ, wipeE env0 vs, env1, items[i], R'.ex, Ew, rx, et, fun σ2 E2 on => ⟨?_, ?_⟩⟩
        · have on' : Only vs (wipe σ0 vs) σ2 := ⟨on.1, fun j hj => on.2 j fun m => hj (hv j m)⟩
          rw [on'.same, wipe_wipe]
        · dsimp only at o
          rw [Res.bind_bind] at o
          refine ⟨F', ρ, S, env1, R', E2, ?_⟩
          refine Out.noex (ex := fun c H' => W c none σ0 H') ((o.bindB.later (n.trans n')).imp (fun b S2 F2 ρ2 H2 R2 n2 o2 => ?_) fun _ _ z => z)
          obtain ⟨hH2, hF2, hρ2⟩ := keepD hH' hF' hρ' n2
          cases b with
          | true =>
            have o2 : Out K Y F1 ρ1 H1 (((re env1 S2).noex.bind fun v S2 => (lcGo t rt re (wipeE env0 vs) (items.drop (i + 1)) S2).bind fun l S3 => .ok (v :: l) S3).bind fun l S2 => fin (ds ++ l) S2)
              (fun d _ F' ρ' H' => ∀ u, RD K F' ρ' u d → Q u H') (fun c H' => W c none σ0 H') := o2
            rw [Res.bind_bind] at o2
            show canE K Y W0 re σ2 H2 _
            refine ⟨F2, ρ2, S2, env1, R2, E2.nx n2, ?_⟩
            refine Out.noex (ex := fun c H' => W c none σ0 H') ((o2.bindB.later ((n.trans n').trans n2)).imp (fun v S3 F3 ρ3 H3 R3 n3 o3 u ru3 => ?_) fun _ _ z => z)
            obtain ⟨hH3, hF3, hρ3⟩ := keepD hH2 hF2 hρ2 n3
            rw [Res.bind_bind] at o3
            refine ⟨us, hH3, ?_, hl, F3, ρ3, S3, us ++ [u], ds ++ [v], ?_, ?_, upd_same, hF3, hρ3, ?_, by simp; omega, ?_⟩
            · have : (100000 : Nat) < sizeLine := by decide
              omega
            · have nn := ((n.trans n').trans n2).trans n3
              refine ⟨nn.ex, nn.pre, fun a o h hn => ?_, nn.fh, nn.rh, fun a h => ?_⟩
              · have ha : a ≠ DA := fun e => by rw [e, hD] at h; cases h
                rw [upd_ne ha]; exact nn.fr a o h hn
              · by_cases e : a = DA
                · subst e; rw [upd_same]; simp
                · rw [upd_ne e]; exact nn.hn a h
            · refine ⟨fun a u h => ?_, R3.len, R3.nd, fun a h => ?_, fun j a c' h1 h2 => ?_⟩
              · have ha : a ≠ DA := fun e => by rw [e, hF3] at h; cases h
                rw [upd_ne ha]; exact R3.ex a u h
              · by_cases e : a = DA
                · subst e; exact absurd h hρ3
                · rw [upd_ne e]; exact R3.there a h
              · have ha : a ≠ DA := fun e => hρ3 (e ▸ List.mem_of_getElem? h1)
                have k := R3.cell j a c' h1 h2
                cases c' with
                | dead => trivial
                | lst ds =>
                  obtain ⟨k1, xs, k2, k3⟩ := k
                  exact ⟨k1, xs, by rw [upd_ne ha]; exact k2, k3⟩
                | ins c fs =>
                  obtain ⟨k1, dx, vs, k2, k3⟩ := k
                  exact ⟨k1, dx, vs, by rw [upd_ne ha]; exact k2, k3⟩
                | dct kvs =>
                  obtain ⟨k1, k0, xs, k2, k4, k5, k3⟩ := k
                  exact ⟨k1, k0, xs, by rw [upd_ne ha]; exact k2, k4, k5, k3⟩
                | dkf kvs =>
                  obtain ⟨o, xs, k1, k0, k4, k5, k3⟩ := k
                  exact ⟨o, xs, k1, k0, k4, k5, k3⟩
                | exn c => exact ⟨k.1, by rw [upd_ne ha]; exact k.2⟩
                | tdk ks ds =>
                  obtain ⟨k1, xs, k2, k4, k3⟩ := k
                  exact ⟨k1, xs, by rw [upd_ne ha]; exact k2, k4, k3⟩
            · have nn := (n'.trans n2).trans n3
              exact (ru.mono nn.ex nn.pre).snoc ru3
            · have e : ∀ l, ds ++ v :: l = (ds ++ [v]) ++ l := fun l => by simp
              have e2 : (fun (l : List D) (S2 : Store) => fin (ds ++ v :: l) S2) = (fun l S2 => fin ((ds ++ [v]) ++ l) S2) := by
                funext l S2
                rw [e l]
              have o3 : Out K Y F1 ρ1 H1 ((lcGo t rt re (wipeE env0 vs) (items.drop (i + 1)) S3).bind fun l S2 => fin (ds ++ v :: l) S2) (fun d _ F' ρ' H' => ∀ u, RD K F' ρ' u d → Q u H') (fun c H' => W c none σ0 H') := o3
              rw [e2] at o3
              exact o3
          | false =>
            have nn := (n.trans n').trans n2
            exact ⟨hl, F2, ρ2, S2, us, ds, nn, R2, hH2, hF2, hρ2, ru.mono (n'.trans n2).ex (n'.trans n2).pre, by omega, o2⟩
    · have hi : i = items.length := by omega
      subst hi
      rw [List.drop_length] at o
      have o : Out K Y F1 ρ1 H1 (fin (ds ++ []) S) (fun d _ F' ρ' H' => ∀ u, RD K F' ρ' u d → Q u H') (fun c H' => W c none σ0 H') := o
      rw [List.append_nil] at o
      exact .inl ⟨w.2 (Nat.le_refl _), hfin F1 ρ1 H1 F ρ S H DA us ds Q _ R n hD hH hF hρ ru o⟩
  · rw [if_neg hlen] at o1
    exact False.elim o1
end
end L3
set_option Elab.async false
set_option linter.all false
set_option maxRecDepth 100000
set_option maxHeartbeats 2000000
/-! enumerate of a text; zip; enumerate of a list -/
namespace L2
open PySem PySem.Spec PyProof.Rows
/-- enumerate(text): each sign in a new pair -/
def IteS (x : Str) : It :=
  ⟨fun i _ => i < x.cps.size, fun i H v H' => ∃ T c, v = .ref T ∧ H T = none ∧ x.cps[i]? = some c ∧ H' = upd H T (.tup [.int (i : Nat), .str ⟨#[c]⟩]), fun i _ => x.cps.size ≤ i⟩
theorem turn_enumS {P : Program} {w : World} {K : PySem.W.Frag} {elts : List Expr} {kk : Nat} {tpos : Pos} (x : Str) (t : Tok) (e it : Addr) :
    Turn P w K (.Tuple elts kk tpos) (IteS x) [e, it] e (fun i h => (∃ old, IsEnum h e it ((i : Nat) : Int) old) ∧ h.IsStrIter it (strIterType x) x t i ∧ e ≠ it ∧ i ≤ x.cps.size) where
  mem := by simp
  obj := fun i h st b hb => by
    obtain ⟨⟨old, he⟩, ⟨o, ho, hc, hd⟩, _⟩ := st
    have e' : b = e ∨ b = it := by simpa using hb
    rcases e' with z | z
    · rw [z]; exact ⟨_, he, fun v q => nomatch q⟩
    · rw [z]; exact ⟨o, ho, fun v q => by rw [hd] at q; cases q⟩
  keep := fun i h h' st k => let ⟨⟨old, he⟩, ⟨o, ho, r⟩, hne, hle⟩ := st; ⟨⟨old, k e (by simp) _ he⟩, ⟨o, k it (by simp) o ho, r⟩, hne, hle⟩
  item := by
    intro X hP hw hK hc i pins s σ H E I hf st hg
    subst hP hw hK
    obtain ⟨⟨old, he⟩, hit, hne, hle⟩ := st
    have hel : e < s.heap.objs.size := Heap.lt_size he
    have hil : it < s.heap.objs.size := by obtain ⟨_, q, _⟩ := hit; exact Heap.lt_size q
    have go : ∀ ty, ty = strIterType x → Draws X.prog X.w X.A.in1 it [it] x.cps.size (fun i v => ∃ c u, x.cps[i]? = some c ∧ v = .str ⟨#[c]⟩ u) (fun i h => h.IsStrIter it ty x t i) → wpAny (model X.prog X.w) X.A (pyNext (.ref e)) (fun r s1 => ∃ u, r = some u ∧
      wpAny (model X.prog X.w) X.A (letOwnedTupleGo (.Tuple elts kk tpos) (.ref e) u) (fun _ s2 => ∃ v H', Inv X pins σ H' s2 ∧ RelV v u ∧ (IteS x).yld i H v H' ∧ ((∃ old, IsEnum s2.heap e it (((i + 1 : Nat) : Nat) : Int) old) ∧ s2.heap.IsStrIter it (strIterType x) x t (i + 1) ∧ e ≠ it ∧ i + 1 ≤ x.cps.size) ∧ ∀ b ∈ [e, it], H' b = none) E s1) E s := fun ty hty D => by
      subst hty
      refine wpAny_pyNext_enum_itemD D he hit hg hne (by simpa using hne) fun v h' tk hv ho hit' hT hsz hk => ?_
      obtain ⟨c, u, hcx, rfl⟩ := hv
      refine ⟨_, rfl, wpAny_letOwnedTupleGo_enum (s := { s with heap := h', toks := tk + 1 }) ho fun h'' he' sb => ?_⟩
      have hT2 : h''.get? s.heap.objs.size = some { cls := .type "tuple", data := .seq #[.int i tk, .str ⟨#[c]⟩ u] } := (sb.2 _ (Nat.ne_of_gt hel)).trans hT
      have new : ObjOk X.prog X.w (upd H s.heap.objs.size (.tup [.int (i : Nat), .str ⟨#[c]⟩])) h'' s.heap.objs.size (.tup [.int (i : Nat), .str ⟨#[c]⟩]) :=
        ⟨by show 2 ≤ sizeLine; decide, [.int i tk, .str ⟨#[c]⟩ u], .cons ⟨_, rfl⟩ (.cons ⟨_, rfl⟩ .nil), ⟨_, hT2, rfl, _, rfl⟩⟩
      have I1 : Inv X pins σ (upd H s.heap.objs.size (.tup [.int (i : Nat), .str ⟨#[c]⟩])) { s with heap := h'', toks := tk + 1 } :=
        I.turnedNew (ch := [e, it]) (fun b ob hb q => (sb.2 b (fun z => hb (by simp [z]))).trans (hk b ob (fun z => hb (by simp [z])) (fun z => hb (by simp [z])) q)) hf (Nat.le_refl _) new
      refine ⟨.ref s.heap.objs.size, _, I1, rfl, ⟨_, c, rfl, I.hok.fresh (Nat.le_refl _), hcx, rfl⟩, ⟨⟨.str ⟨#[c]⟩ u, ?_⟩, ?_, hne, hg⟩, fun b hb => ?_⟩
      · have e1 : ((i + 1 : Nat) : Int) = (i : Int) + 1 := by omega
        rw [e1]; exact he'
      · obtain ⟨o, q1, q2⟩ := hit'
        exact ⟨o, (sb.2 it (Ne.symm hne)).trans q1, q2⟩
      · have hb' : b < s.heap.objs.size := by
          have e' : b = e ∨ b = it := by simpa using hb
          rcases e' with z | z
          · rw [z]; exact hel
          · rw [z]; exact hil
        rw [upd_ne (Nat.ne_of_lt hb')]
        exact (hf b hb).1
    cases ha : x.cps.all (· < 128)
    · exact go "str_iterator" (by simp [strIterType, ha]) (Draws.strWide (A := X.A.in1) (I.ok.hd hc) it x t)
    · exact go "str_ascii_iterator" (by simp [strIterType, ha]) (Draws.strAscii (A := X.A.in1) (I.ok.hd hc) it x t)
  done := by
    intro X hP hw hK hc i pins s σ H E I hf st hg
    subst hP hw hK
    obtain ⟨⟨old, he⟩, hit, hne, hle⟩ := st
    obtain ⟨f0, f1, f2, f3, f4, f5⟩ := hf it (by simp)
    have ei : i = x.cps.size := Nat.le_antisymm hle hg
    subst ei
    cases ha : x.cps.all (· < 128)
    · have q : "str_iterator" = strIterType x := by simp [strIterType, ha]
      rw [← q] at hit
      exact wpAny_pyNext_enum_endD (Draws.strWide (A := X.A.in1) (I.ok.hd hc) it x t) he hit fun h' eb => ⟨rfl, I.turned (t' := s.toks) (fun b o hb q => eb b o hb q) f0 f1 f3 f4 f5⟩
    · have q : "str_ascii_iterator" = strIterType x := by simp [strIterType, ha]
      rw [← q] at hit
      exact wpAny_pyNext_enum_endD (Draws.strAscii (A := X.A.in1) (I.ok.hd hc) it x t) he hit fun h' eb => ⟨rfl, I.turned (t' := s.toks) (fun b o hb q => eb b o hb q) f0 f1 f3 f4 f5⟩
  self := fun A i s Q E st h => let ⟨⟨_, he⟩, _⟩ := st; wpAny_pyIter_enum he h
def iEnumS (ta : TA) : TI := fun σ H R => ta σ H fun vs H1 => ∃ x, vs = [.str x] ∧ R (IteS x) H1
theorem pi_enumS {X : Cx} {e : Expr} {ta : TA} {p pos tpos : Pos} {elts : List Expr} {kk : Nat} (hg : Gl X "enumerate") (hm : X.mg "enumerate" = none) (ha : PA X [e] ta) (hs : starEach [e] X.env = [(false, eval e X.env)] := by rfl) :
    PI X (.Tuple elts kk tpos) (.Call (.Name "enumerate" p) [e] [] pos) (iEnumS ta) := by
  refine ⟨fun pins s σ H R I h => ?_⟩
  refine Call_ (ld_blt I hg hm boot_enumerate (PyProof.Rows.callWith_type1 (thn (ha.run pos pins s σ H _ I h) fun us s1 ⟨vs, H1, I1, r1, q1⟩ => ?_) hs rfl))
  obtain ⟨x, ex, q⟩ := q1
  subst ex
  cases r1 with
  | cons r rr =>
    cases rr
    obtain ⟨t, rfl⟩ := r
    refine call_enumerate_str fun h' he hit hsz hk => wpAny_pyIter_enum he ?_
    have I2 : Inv X pins σ H1 { s1 with heap := h' } := I1.kept (t' := s1.toks) hk
    refine ⟨s1.heap.objs.size + 1, [s1.heap.objs.size + 1, s1.heap.objs.size], _, _, H1, rfl, I2, turn_enumS x t (s1.heap.objs.size + 1) s1.heap.objs.size, ⟨⟨.none, he⟩, hit, Nat.succ_ne_self _, Nat.zero_le _⟩, fun b hb => ?_, q⟩
    have e' : b = s1.heap.objs.size + 1 ∨ b = s1.heap.objs.size := by simpa using hb
    have hle : s1.heap.objs.size ≤ b := by
      rcases e' with z | z
      · rw [z]; exact Nat.le_add_right _ _
      · rw [z]; exact Nat.le_refl _
    exact I1.fpOk hle (I1.hok.fresh hle)
theorem PI.or {X : Cx} {tg iter : Expr} {wi wi' : TI} (h : PI X tg iter wi) (h' : PI X tg iter wi') : PI X tg iter (fun σ H R => wi σ H R ∨ wi' σ H R) := ⟨fun pins s σ H R I q => q.elim (h.run pins s σ H R I) (h'.run pins s σ H R I)⟩
end L2
namespace L3
open PySem PySem.Spec L2
section
variable {Y : Pc} {X : Cx} {W : WX} {a b c e tg iter : Expr} {es : List Expr} {ra rb rc : Ev → Store → Res D} {rs ri : Ev → Store → Res (List D)} {rt : Ev → Store → Res Bool} {pos : Pos} {K : PySem.W.Frag}
def enumFrom : Nat → List D → List D
  | _, [] => []
  | i, d :: ds => .tup [.int (i : Int), d] :: enumFrom (i + 1) ds
theorem enum_get : ∀ (ds : List D) (k i : Nat) (d : D), (enumFrom k ds)[i]? = some d → ∃ x, ds[i]? = some x ∧ d = .tup [.int ((k + i : Nat) : Int), x]
  | [], _, _, _, h => by simp [enumFrom] at h
  | x :: ds, k, 0, d, h => by
    simp [enumFrom] at h
    exact ⟨x, rfl, by rw [← h]; rfl⟩
  | x :: ds, k, i + 1, d, h => by
    obtain ⟨y, h1, h2⟩ := enum_get ds (k + 1) i d (by simpa [enumFrom] using h)
    exact ⟨y, by simpa using h1, by rw [h2]; congr 3; omega⟩
theorem enum_len : ∀ (ds : List D) (k : Nat), (enumFrom k ds).length = ds.length
  | [], _ => rfl
  | _ :: ds, k => by simp [enumFrom, enum_len ds (k + 1)]
def itemsOf : D → Option (List D)
  | .lst ds => some ds
  | .str s => some (s.map fun c => .str [c])
  | _ => none
/-- enumerate of a list that stands still, of a text -/
def iEnumR (rs : Ev → Store → Res (List D)) : Ev → Store → Res (List D) := fun env S => (rs env S).bind fun ds S1 => match ds with
  | [.lst xs] => .ok (enumFrom 0 xs) S1
  | [.str s] => .ok (enumFrom 0 (s.map fun c => .str [c])) S1
  | _ => .stuck
theorem walks_enumL {F : Hp} {ρ : List Addr} {l : Addr} {xs : List V} {ds : List D} (h : SqL K F l xs) (r : RDs K F ρ xs ds) : WalksJ K Y (Ite K l) F ρ (enumFrom 0 ds) := fun F1 ρ1 S1 H1 e p R i => by
  have q : SqL K H1 l xs := ex_l (e.trans R.ex) h
  refine ⟨fun d hd => ?_, fun hi => ⟨xs, q, by rw [enum_len] at hi; rw [r.length]; exact hi⟩⟩
  obtain ⟨x, hx, rfl⟩ := enum_get _ _ _ _ hd
  obtain ⟨v, hv, rv⟩ := r.get hx
  refine ⟨⟨xs, v, q, hv⟩, fun y H' yl => ?_⟩
  obtain ⟨T, x', rfl, hT, rfl, yl⟩ := yl
  have := yl xs q
  rw [hv] at this; cases this
  obtain ⟨R2, n2, e2⟩ := R.new (o := .tup [.int (i : Nat), v]) hT
  refine ⟨_, R2, n2, .tup (Or.inl (Or.inl e2)) (.cons ?_ (.cons ((rv.mono e p).mono n2.ex n2.pre) .nil))⟩
  have : ((0 + i : Nat) : Int) = (i : Int) := by omega
  rw [this]
  exact .int _
theorem walks_enumS {F : Hp} {ρ : List Addr} (s : List Nat) (hs : OkT s) : WalksJ K Y (IteS (tx s)) F ρ (enumFrom 0 (s.map fun c => .str [c])) := fun F1 ρ1 S1 H1 e p R i => by
  refine ⟨fun d hd => ?_, fun hi => ?_⟩
  · obtain ⟨x, hx, rfl⟩ := enum_get _ _ _ _ hd
    rw [List.getElem?_map] at hx
    cases q : s[i]? with
    | none => rw [q] at hx; cases hx
    | some c =>
      rw [q] at hx; cases hx
      have hl := (List.getElem?_eq_some_iff.mp q).1
      refine ⟨by show i < s.toArray.size; simpa using hl, fun x H' y => ?_⟩
      obtain ⟨T, c', rfl, hT, e1, rfl⟩ := y
      have e1 : s.toArray[i]? = some c' := e1
      simp only [List.getElem?_toArray] at e1
      rw [q] at e1; cases e1
      obtain ⟨R2, n2, e2⟩ := R.new (o := .tup [.int (i : Nat), .str ⟨#[c]⟩]) hT
      refine ⟨_, R2, n2, .tup (Or.inl (Or.inl e2)) (.cons ?_ (.cons (.str [c] (fun c' h => by rw [List.mem_singleton.mp h]; exact hs _ (List.mem_of_getElem? q))) .nil))⟩
      have : ((0 + i : Nat) : Int) = (i : Int) := by omega
      rw [this]
      exact .int _
  · show s.toArray.size ≤ i
    rw [enum_len] at hi
    simpa using hi
theorem si_enum {p tpos : Pos} {elts : List Expr} {kk : Nat} (hm : X.mg "enumerate" = none) (ha : SA Y X W [a] rs) (hg : Gl X "enumerate" := by rfl) (hs : starEach [a] X.env = [(false, eval a X.env)] := by rfl) :
    SI Y X W (.Tuple elts kk tpos) (.Call (.Name "enumerate" p) [a] [] pos) (iEnumR rs) := by
  obtain ⟨ta, a1, a2⟩ := ha.ex
  refine ⟨_, (pi_enum hg hm a1 hs).or (pi_enumS hg hm a1 hs), fun F ρ S H σ env Q R E h => ?_⟩
  have h' := h
  unfold iEnumR at h'
  cases e : rs env S with
  | stuck => rw [e] at h'; exact False.elim h'
  | exc c S1 =>
    refine .inl (a2 F ρ S H σ env _ R E ?_)
    rw [e] at h' ⊢
    exact h'
  | ok ds S1 =>
    rw [e] at h'
    match ds, h', e with
    | [.lst xs], h', e =>
      refine .inl (a2 F ρ S H σ env _ R E ?_)
      rw [e]
      intro F1 ρ1 H1 R1 n1 us ru
      cases ru with
      | cons r1 rr =>
        cases rr
        cases r1 with
        | lst h1 h2 => exact ⟨_, _, rfl, SqL.of (R1.ex _ _ h1), h' F1 ρ1 H1 R1 n1 _ (walks_enumL (SqL.of h1) h2)⟩
    | [.str s], h', e =>
      refine .inr (a2 F ρ S H σ env _ R E ?_)
      rw [e]
      intro F1 ρ1 H1 R1 n1 us ru
      cases ru with
      | cons r1 rr =>
        cases rr
        cases r1 with
        | str _ hs => exact ⟨_, rfl, h' F1 ρ1 H1 R1 n1 _ (walks_enumS s hs)⟩
    | [], h', _ => exact False.elim h'
    | [.non], h', _ => exact False.elim h'
    | [.bl _], h', _ => exact False.elim h'
    | [.int _], h', _ => exact False.elim h'
    | [.tup _], h', _ => exact False.elim h'
    | [.loc _], h', _ => exact False.elim h'
    | [.scr _], h', _ => exact False.elim h'
    | x :: y :: z, h', _ => cases x <;> exact False.elim h'
/-! zip of two lists that stand still -/
def zipD : List D → List D → List D
  | x :: xs, y :: ys => .tup [x, y] :: zipD xs ys
  | _, _ => []
theorem zip_get : ∀ (xs ys : List D) (i : Nat) (d : D), (zipD xs ys)[i]? = some d → ∃ x y, xs[i]? = some x ∧ ys[i]? = some y ∧ d = .tup [x, y]
  | [], _, _, _, h => by simp [zipD] at h
  | _ :: _, [], _, _, h => by simp [zipD] at h
  | x :: xs, y :: ys, 0, d, h => by
    simp [zipD] at h
    exact ⟨x, y, rfl, rfl, h.symm⟩
  | x :: xs, y :: ys, i + 1, d, h => by
    obtain ⟨a, b, h1, h2, h3⟩ := zip_get xs ys i d (by simpa [zipD] using h)
    exact ⟨a, b, by simpa using h1, by simpa using h2, h3⟩
theorem zip_len : ∀ (xs ys : List D), (zipD xs ys).length = min xs.length ys.length
  | [], _ => by simp [zipD]
  | _ :: _, [] => by simp [zipD]
  | _ :: xs, _ :: ys => by simp [zipD, zip_len xs ys]
def iZipR (rs : Ev → Store → Res (List D)) : Ev → Store → Res (List D) := fun env S => (rs env S).bind fun ds S1 => match ds with
  | [.lst xs, .lst ys] => .ok (zipD xs ys) S1
  | _ => .stuck
theorem si_zip {p tpos : Pos} {elts : List Expr} {kk : Nat} (hm : X.mg "zip" = none) (ha : SA Y X W [a, b] rs) (hg : Gl X "zip" := by rfl)
    (hs : starEach [a, b] X.env = (false, eval a X.env) :: starEach [b] X.env := by rfl) (hpl : (backTo pos (starEach [b] X.env)).any (·.1) = false := by rfl) :
    SI Y X W (.Tuple elts kk tpos) (.Call (.Name "zip" p) [a, b] [] pos) (iZipR rs) := by
  obtain ⟨ta, a1, a2⟩ := ha.ex
  refine ⟨_, pi_zip hg hm a1 hs hpl, fun F ρ S H σ env Q R E h => a2.then R E h fun ds us S1 F1 ρ1 H1 R1 n1 E1 ru o1 => ?_⟩
  match ds, ru, o1 with
  | [.lst xs, .lst ys], .cons (.lst h1 h2) (.cons (.lst g1 g2) .nil), o1 =>
    refine ⟨_, _, _, _, rfl, SqL.of (R1.ex _ _ h1), SqL.of (R1.ex _ _ g1), Out.now o1 R1 _ fun F2 ρ2 S2 H2 e p R2 i => ?_⟩
    have q1 : SqL X.K H2 _ _ := SqL.of ((e.trans R2.ex) _ _ h1)
    have q2 : SqL X.K H2 _ _ := SqL.of ((e.trans R2.ex) _ _ g1)
    refine ⟨fun d hd => ?_, fun hi => ⟨_, _, q1, q2, ?_⟩⟩
    · obtain ⟨x, y, hx, hy, rfl⟩ := zip_get _ _ _ _ hd
      obtain ⟨v, hv, rv⟩ := h2.get hx
      obtain ⟨w, hw, rw'⟩ := g2.get hy
      refine ⟨⟨_, _, v, w, q1, q2, hv, hw⟩, fun z H' yl => ?_⟩
      obtain ⟨T, x', y', rfl, hT, rfl, y1, y2⟩ := yl
      have e1 := y1 _ q1
      have e2 := y2 _ q2
      rw [hv] at e1; cases e1
      rw [hw] at e2; cases e2
      obtain ⟨R3, n3, e3⟩ := R2.new (o := .tup [v, w]) hT
      exact ⟨_, R3, n3, .tup (Or.inl (Or.inl e3)) (.cons ((rv.mono e p).mono n3.ex n3.pre) (.cons ((rw'.mono e p).mono n3.ex n3.pre) .nil))⟩
    · rw [zip_len] at hi
      rw [h2.length, g2.length]
      omega

/-! ### comprehensions, put together -/
theorem SR.told {F H : Hp} {ρ : List Addr} {S : Store} (R : SR K Y F ρ S H) {p : Addr} {o : HO} (hp : H p = some o) (fp : F p = none) (pr : p ∉ ρ) : SR K Y (upd F p o) ρ S H := by
  have e1 : Ex F (upd F p o) := Ex.new fp
  refine ⟨fun a u h => ?_, R.len, R.nd, R.there, fun i a c h1 h2 => ?_⟩
  · by_cases e : a = p
    · subst e; rw [upd_same] at h; cases h; exact hp
    · rw [upd_ne e] at h; exact R.ex a u h
  · have ha : a ≠ p := fun e => pr (e ▸ List.mem_of_getElem? h1)
    have k := R.cell i a c h1 h2
    cases c with
    | dead => trivial
    | lst ds =>
      obtain ⟨k1, xs, k2, k3⟩ := k
      exact ⟨by rw [upd_ne ha]; exact k1, xs, k2, k3.mono e1 fun _ _ h => h⟩
    | ins c fs =>
      obtain ⟨k1, dx, vs, k2, k3⟩ := k
      exact ⟨by rw [upd_ne ha]; exact k1, dx, vs, k2, k3.mono e1 fun _ _ h => h⟩
    | dct kvs =>
      obtain ⟨k1, k0, xs, k2, k4, k5, k3⟩ := k
      exact ⟨by rw [upd_ne ha]; exact k1, k0, xs, k2, k4, k5, k3.mono e1 fun _ _ h => h⟩
    | dkf kvs =>
      obtain ⟨o, xs, k1, k0, k4, k5, k3⟩ := k
      exact ⟨o, xs, e1 _ _ k1, k0, k4, k5, k3.mono e1 fun _ _ h => h⟩
    | exn c => exact ⟨by rw [upd_ne ha]; exact k.1, k.2⟩
    | tdk ks ds =>
      obtain ⟨k1, xs, k2, k4, k3⟩ := k
      exact ⟨by rw [upd_ne ha]; exact k1, xs, k2, k4, k3.mono e1 fun _ _ h => h⟩
theorem Nx.told {F0 H0 F H : Hp} {ρ0 ρ : List Addr} (n : Nx F0 ρ0 H0 F ρ H) {p : Addr} {o : HO} (h0 : H0 p = none) (fp : F p = none) : Nx F0 ρ0 H0 (upd F p o) ρ H :=
  ⟨n.ex.trans (Ex.new fp), n.pre, n.fr, fun a h => by
    by_cases e : a = p
    · subst e; exact .inr (.inl h0)
    · rw [upd_ne e] at h; exact n.fh a h, n.rh, n.hn⟩
abbrev XB (X : Cx) (scope : Scope) (s : Shared) (H : Hp) (A : Addr) (cl : List (Str × Addr)) (fp : List Addr) : Cx := X.blk s H scope (compEnvC scope cl A X.env) fp
theorem blk_ok {k : Nat} {scope : Scope} (C : Ok X W k) (s : Shared) (H : Hp) (A : Addr) (cl : List (Str × Addr)) (fp : List Addr) : Ok (XB X scope s H A cl fp) W0 k :=
  ⟨fun σ pins H s e s' I c => by obtain ⟨_, _, _, _, _, _, _, _, _, _, _, _, z⟩ := c; exact z.elim, C.calm, C.room, C.nd, C.gd⟩
theorem ev_yes : EvT K Y W tYes (fun _ S => .ok true S) := fun F ρ S H σ env Q R E h => Out.now h R
def tYesR : Ev → Store → Res Bool := fun _ S => .ok true S
theorem pts_yes : PTs X [] (canT X.K Y W tYesR) := PTs.imp pts_nil fun σ H Q ⟨F, ρ, S, env, R, E, o⟩ => Out.now o R
theorem pts_test (h : SB Y X W c rt) : PTs X [c] (canT X.K Y W rt) := pts_one h.can
theorem fin_lst (F0 : Hp) (ρ0 : List Addr) (H0 : Hp) (F : Hp) (ρ : List Addr) (S : Store) (H : Hp) (DA : Addr) (us : List V) (ds : List D) (Q : VK) (ex : Value → Hp → Prop) (R : SR K Y F ρ S H) (n : Nx F0 ρ0 H0 F ρ H) (hD : H0 DA = none) (hH : H DA = some (.lst us)) (hF : F DA = none) (hρ : DA ∉ ρ) (ru : RDs K F ρ us ds)
    (o : Out K Y F0 ρ0 H0 (Res.ok (D.lst ds) S) (fun d _ F' ρ' H' => ∀ u, RD K F' ρ' u d → Q u H') ex) : Q (.ref DA) H :=
  o _ ρ H (R.told hH hF hρ) (n.told hD hF) _ (.lst upd_same (ru.mono (Ex.new hF) fun _ _ h => h))
theorem fin_loc (F0 : Hp) (ρ0 : List Addr) (H0 : Hp) (F : Hp) (ρ : List Addr) (S : Store) (H : Hp) (DA : Addr) (us : List V) (ds : List D) (Q : VK) (ex : Value → Hp → Prop) (R : SR K Y F ρ S H) (n : Nx F0 ρ0 H0 F ρ H) (hD : H0 DA = none) (hH : H DA = some (.lst us)) (hF : F DA = none) (hρ : DA ∉ ρ) (ru : RDs K F ρ us ds)
    (o : Out K Y F0 ρ0 H0 (Res.ok (D.loc S.length) (S ++ [.lst ds])) (fun d _ F' ρ' H' => ∀ u, RD K F' ρ' u d → Q u H') ex) : Q (.ref DA) H := by
  refine o F (ρ ++ [DA]) H (R.cellNew (by rw [hH]; simp) hF hρ ⟨hF, us, hH, ru.mono (Ex.refl _) (pre_snoc _ _)⟩) ⟨n.ex, fun i a h => pre_snoc ρ DA i a (n.pre i a h), n.fr, n.fh, fun a m => ?_, n.hn⟩ _ (.loc (by rw [← R.len]; simp))
  rcases List.mem_append.mp m with m | m
  · exact n.rh a m
  · simp at m; subst m; exact .inr hD
section
variable {k : Nat} {elt tgt : Expr} {ifs : List Expr} {scope : Scope} {own : List (Str × Nat)} {t : Tg} {re : Ev → Store → Res D}
theorem se_lc (own : List (Str × Nat)) (C : Ok X W k) (hi : SI Y X W tgt iter ri) (ok : blkC X.N X.env.scope scope own = true)
    (hg : ∀ (s : Shared) (H : Hp) (A : Addr) (cl : List (Str × Addr)) (fp : List Addr), STg (XB X scope s H A cl fp) tgt t)
    (ht : ∀ (s : Shared) (H : Hp) (A : Addr) (cl : List (Str × Addr)) (fp : List Addr), Ok (XB X scope s H A cl fp) W0 k → PTs (XB X scope s H A cl fp) ifs (canT X.K Y W0 rt))
    (he : ∀ (s : Shared) (H : Hp) (A : Addr) (cl : List (Str × Addr)) (fp : List Addr), Ok (XB X scope s H A cl fp) W0 k → SE Y (XB X scope s H A cl fp) W0 elt re)
    (hv : ∀ i ∈ t.slots, i ∈ own.map (·.2) := by decide) (hs : ∀ x, foldedSetIterable iter X.env x = pure x := by intro _; rfl) : SE Y X W (.ListComp elt [⟨tgt, iter, ifs, 0⟩] scope pos) (rLc t ri rt re (own.map (·.2))) := by
  obtain ⟨wi, i1, i2⟩ := hi.ex
  exact ⟨_, pe_lc (te := canE X.K Y W0 re) C.calm C.nd i1 (blkOk_by ok) (fun s H A cl fp => (hg s H A cl fp).can) (fun s H A cl fp => ht s H A cl fp (blk_ok C s H A cl fp)) (fun s H A cl fp => (he s H A cl fp (blk_ok C s H A cl fp)).can) hs, ev_lc (fin := fun l S2 => .ok (.lst l) S2) i2 hv fin_lst⟩
theorem se_lcM (own : List (Str × Nat)) (C : Ok X W k) (hi : SI Y X W tgt iter ri) (ok : blkC X.N X.env.scope scope own = true)
    (hg : ∀ (s : Shared) (H : Hp) (A : Addr) (cl : List (Str × Addr)) (fp : List Addr), STg (XB X scope s H A cl fp) tgt t)
    (ht : ∀ (s : Shared) (H : Hp) (A : Addr) (cl : List (Str × Addr)) (fp : List Addr), Ok (XB X scope s H A cl fp) W0 k → PTs (XB X scope s H A cl fp) ifs (canT X.K Y W0 rt))
    (he : ∀ (s : Shared) (H : Hp) (A : Addr) (cl : List (Str × Addr)) (fp : List Addr), Ok (XB X scope s H A cl fp) W0 k → SE Y (XB X scope s H A cl fp) W0 elt re)
    (hv : ∀ i ∈ t.slots, i ∈ own.map (·.2) := by decide) (hs : ∀ x, foldedSetIterable iter X.env x = pure x := by intro _; rfl) : SE Y X W (.ListComp elt [⟨tgt, iter, ifs, 0⟩] scope pos) (rLcM t ri rt re (own.map (·.2))) := by
  obtain ⟨wi, i1, i2⟩ := hi.ex
  exact ⟨_, pe_lc (te := canE X.K Y W0 re) C.calm C.nd i1 (blkOk_by ok) (fun s H A cl fp => (hg s H A cl fp).can) (fun s H A cl fp => ht s H A cl fp (blk_ok C s H A cl fp)) (fun s H A cl fp => (he s H A cl fp (blk_ok C s H A cl fp)).can) hs, ev_lc (fin := fun l S2 => .ok (.loc S2.length) (S2 ++ [.lst l])) i2 hv fin_loc⟩
/-- y = [..] -/
theorem ss_setLc (i : Nat) {y : Str} {py spos : Pos} (own : List (Str × Nat)) (C : Ok X W k) (hi : SI Y X W tgt iter ri) (ok : blkC X.N X.env.scope scope own = true)
    (hg : ∀ (s : Shared) (H : Hp) (A : Addr) (cl : List (Str × Addr)) (fp : List Addr), STg (XB X scope s H A cl fp) tgt t)
    (ht : ∀ (s : Shared) (H : Hp) (A : Addr) (cl : List (Str × Addr)) (fp : List Addr), Ok (XB X scope s H A cl fp) W0 k → PTs (XB X scope s H A cl fp) ifs (canT X.K Y W0 rt))
    (he : ∀ (s : Shared) (H : Hp) (A : Addr) (cl : List (Str × Addr)) (fp : List Addr), Ok (XB X scope s H A cl fp) W0 k → SE Y (XB X scope s H A cl fp) W0 elt re)
    (hy : X.N[i]? = some y := by rfl) (hyl : X.env.scope.names.lookup y = some .local := by rfl) (hsw : swapsWith (.ListComp elt [⟨tgt, iter, ifs, 0⟩] scope pos) (some (.Name y py)) spos.line X.env = pure true := by exact sw_true rfl rfl rfl (by decide +kernel))
    (hv : ∀ i ∈ t.slots, i ∈ own.map (·.2) := by decide) (hs : ∀ x, foldedSetIterable iter X.env x = pure x := by intro _; rfl) : SS Y X W (.Assign [.Name y py] (.ListComp elt [⟨tgt, iter, ifs, 0⟩] scope pos) spos) (sSet i (rLc t ri rt re (own.map (·.2)))) := by
  obtain ⟨wi, i1, i2⟩ := hi.ex
  exact ⟨_, ps_setLc (te := canE X.K Y W0 re) C.calm C.nd hy hyl hsw i1 (blkOk_by ok) (fun s H A cl fp => (hg s H A cl fp).can) (fun s H A cl fp => ht s H A cl fp (blk_ok C s H A cl fp)) (fun s H A cl fp => (he s H A cl fp (blk_ok C s H A cl fp)).can) hs, ev_set (ev_lc (fin := fun l S2 => .ok (.lst l) S2) i2 hv fin_lst)⟩
theorem ss_setLcM (i : Nat) {y : Str} {py spos : Pos} (own : List (Str × Nat)) (C : Ok X W k) (hi : SI Y X W tgt iter ri) (ok : blkC X.N X.env.scope scope own = true)
    (hg : ∀ (s : Shared) (H : Hp) (A : Addr) (cl : List (Str × Addr)) (fp : List Addr), STg (XB X scope s H A cl fp) tgt t)
    (ht : ∀ (s : Shared) (H : Hp) (A : Addr) (cl : List (Str × Addr)) (fp : List Addr), Ok (XB X scope s H A cl fp) W0 k → PTs (XB X scope s H A cl fp) ifs (canT X.K Y W0 rt))
    (he : ∀ (s : Shared) (H : Hp) (A : Addr) (cl : List (Str × Addr)) (fp : List Addr), Ok (XB X scope s H A cl fp) W0 k → SE Y (XB X scope s H A cl fp) W0 elt re)
    (hy : X.N[i]? = some y := by rfl) (hyl : X.env.scope.names.lookup y = some .local := by rfl) (hsw : swapsWith (.ListComp elt [⟨tgt, iter, ifs, 0⟩] scope pos) (some (.Name y py)) spos.line X.env = pure true := by exact sw_true rfl rfl rfl (by decide +kernel))
    (hv : ∀ i ∈ t.slots, i ∈ own.map (·.2) := by decide) (hs : ∀ x, foldedSetIterable iter X.env x = pure x := by intro _; rfl) : SS Y X W (.Assign [.Name y py] (.ListComp elt [⟨tgt, iter, ifs, 0⟩] scope pos) spos) (sSet i (rLcM t ri rt re (own.map (·.2)))) := by
  obtain ⟨wi, i1, i2⟩ := hi.ex
  exact ⟨_, ps_setLc (te := canE X.K Y W0 re) C.calm C.nd hy hyl hsw i1 (blkOk_by ok) (fun s H A cl fp => (hg s H A cl fp).can) (fun s H A cl fp => ht s H A cl fp (blk_ok C s H A cl fp)) (fun s H A cl fp => (he s H A cl fp (blk_ok C s H A cl fp)).can) hs, ev_set (ev_lc (fin := fun l S2 => .ok (.loc S2.length) (S2 ++ [.lst l])) i2 hv fin_loc)⟩
end

/-! ### ghosts: a list of the store is told to stay as it is -/
def fzD (d : D) (S : Store) : Option (D × Store) := match d with
  | .loc i => match S[i]? with
    | some (.lst ds) => some (.lst ds, S.set i .dead)
    | _ => none
  | d => some (d, S)
theorem fz_ok {F H : Hp} {ρ : List Addr} {S S' : Store} {d d' : D} {u : V} (R : SR K Y F ρ S H) (r : RD K F ρ u d) (h : fzD d S = some (d', S')) : ∃ F', SR K Y F' ρ S' H ∧ Nx F ρ H F' ρ H ∧ RD K F' ρ u d' := by
  cases r with
  | loc hi =>
    rename_i i a
    unfold fzD at h
    dsimp only at h
    cases e : S[i]? with
    | none => rw [e] at h; cases h
    | some c =>
      rw [e] at h
      cases c with
      | lst ds => cases h; exact R.freeze hi e
      | _ => cases h
  | non => cases h; exact ⟨F, R, Nx.refl _ _ _, .non⟩
  | bl => cases h; exact ⟨F, R, Nx.refl _ _ _, .bl _⟩
  | int => cases h; exact ⟨F, R, Nx.refl _ _ _, .int _⟩
  | str _ hs => cases h; exact ⟨F, R, Nx.refl _ _ _, .str _ hs⟩
  | lst a b => cases h; exact ⟨F, R, Nx.refl _ _ _, .lst a b⟩
  | scr a => cases h; exact ⟨F, R, Nx.refl _ _ _, .scr a⟩
  | tup a b => cases h; exact ⟨F, R, Nx.refl _ _ _, .tup a b⟩
  | dct a b c => cases h; exact ⟨F, R, Nx.refl _ _ _, .dct a b c⟩
/-- an expression whose list stays as it is from here on -/
def rFz (ra : Ev → Store → Res D) : Ev → Store → Res D := fun env S => (ra env S).bind fun d S1 => liftP (fzD d S1)
theorem ev_fz {te : TE} (h : EvE K Y W te ra) : EvE K Y W te (rFz ra) := fun F ρ S H σ env Q R E o => h.then R E o fun d u S1 F1 ρ1 H1 R1 n1 E1 ru o1 => by
  obtain ⟨z, S3, hz, k⟩ := liftP_out o1
  obtain ⟨F', R', n', r'⟩ := fz_ok R1 ru hz
  exact k F' ρ1 H1 R' n' u r'
theorem se_fz (h : SE Y X W e ra) : SE Y X W e (rFz ra) := by
  obtain ⟨t, h1, h2⟩ := h.ex
  exact ⟨t, h1, ev_fz h2⟩
/-- a name's list stays as it is from here on -/
def sFz (i : Nat) (m : SM) : SM := fun env S => match m env S with
  | some (.nx env1, S1) => match env1[i]? with
    | some (some d) => match fzD d S1 with
      | some (d', S2) => some (.nx (env1.set i (some d')), S2)
      | none => none
    | _ => none
  | r => r
theorem ev_sfz {ts : TS} {m : SM} (i : Nat) (h : EvS K Y W ts m) : EvS K Y W ts (sFz i m) := fun F ρ S H σ env Z R E o => by
  refine h F ρ S H σ env Z R E ?_
  unfold sFz at o
  cases e : m env S with
  | none => rw [e] at o; exact o
  | some p =>
    obtain ⟨fl, S1⟩ := p
    rw [e] at o
    cases fl with
    | nx env1 =>
      dsimp only at o
      intro F1 ρ1 H1 R1 n1 σ1 E1
      cases e1 : env1[i]? with
      | none => rw [e1] at o; exact False.elim o
      | some od =>
        rw [e1] at o
        cases od with
        | none => exact False.elim o
        | some d =>
          dsimp only at o
          obtain ⟨v, hv, rv⟩ := E1.2 i d e1
          cases e2 : fzD d S1 with
          | none => rw [e2] at o; exact False.elim o
          | some p2 =>
            obtain ⟨d', S2⟩ := p2
            rw [e2] at o
            obtain ⟨F', R', n', r'⟩ := fz_ok R1 rv e2
            exact o F' ρ1 H1 R' (n1.trans n') σ1 ((E1.nx n').tell i hv r')
    | rt d => exact o
    | bk env1 => exact o
    | ct env1 => exact o
    | ex c env1 => exact o
theorem ss_sfz {st : Stmt} {m : SM} (i : Nat) (h : SS Y X W st m) : SS Y X W st (sFz i m) := by
  obtain ⟨t, h1, h2⟩ := h.ex
  exact ⟨t, h1, ev_sfz i h2⟩

/-! ### a def, from its body -/
def fnSem (n p : Nat) (body : SM) : FSem := fun S args => match body (args.map some ++ List.replicate (n - p) none) S with
  | some (.nx _, S') => .ok .non S'
  | some (.rt d, S') => .ok d S'
  | some (.ex c _, S') => .exc c S'
  | _ => .stuck
theorem rd_rep {K : PySem.W.Frag} {F : Hp} {ρ : List Addr} {vs : List V} {ds : List D} (r : RDs K F ρ vs ds) (m : Nat) : ER K F ρ (vs.map some ++ List.replicate m none) (ds.map some ++ List.replicate m none) := by
  refine ⟨by simp [r.length], fun i d h => ?_⟩
  by_cases hi : i < ds.length
  · rw [List.getElem?_append_left (by simpa using hi), List.getElem?_map] at h
    rw [List.getElem?_append_left (by simpa [r.length] using hi), List.getElem?_map]
    cases e : ds[i]? with
    | none => rw [e] at h; cases h
    | some x =>
      rw [e] at h; cases h
      obtain ⟨v, h1, h2⟩ := r.get e
      exact ⟨v, by rw [h1]; rfl, h2⟩
  · rw [List.getElem?_append_right (by simp; omega)] at h
    have := List.mem_of_getElem? h
    rw [List.mem_replicate] at this
    exact absurd this.2 (by simp)
end
end L3
set_option Elab.async false
set_option linter.all false
set_option maxRecDepth 100000
set_option maxHeartbeats 2000000
/-! operators -/
namespace L3
open PySem PySem.Spec L2

/-! ### data as the library's data -/
mutual
def D.py : D → PyData
  | .non => .none
  | .bl b => .bool b
  | .int i => .int i
  | .str s => .str (tx s)
  | .lst ds => .list (D.pys ds)
  | .tup ds => .tuple (D.pys ds)
  | .loc _ => .dict []
  | .scr ns => .list (ns.map PyData.int)
  | .dct _ _ => .dict []
def D.pys : List D → List PyData
  | [] => []
  | d :: ds => D.py d :: D.pys ds
end
mutual
def D.flat : D → Bool
  | .loc _ => false
  | .dct _ _ => false
  | .lst ds => D.flats ds
  | .tup ds => D.flats ds
  | _ => true
def D.flats : List D → Bool
  | [] => true
  | d :: ds => D.flat d && D.flats ds
end
section
variable {K : PySem.W.Frag} {F H : Hp} {ρ : List Addr}
theorem dp_ints : ∀ ns : List Int, DpAll K H (ns.map V.int) (ns.map PyData.int)
  | [] => .nil
  | n :: ns => .cons (.int n) (dp_ints ns)
theorem lay_ints : ∀ ns : List Int, PyData.canLayAll0 (ns.map PyData.int) = true
  | [] => rfl
  | n :: ns => by simp [PyData.canLayAll0, PyData.canLay0, lay_ints ns]
mutual
theorem RD.dp (e : Ex F H) : ∀ {d : D} {v : V}, RD K F ρ v d → d.flat = true → Dp K H v d.py ∧ d.py.canLay0 = true
  | .non, _, h, _ => by cases h; exact ⟨.non, rfl⟩
  | .bl _, _, h, _ => by cases h; exact ⟨.bl _, rfl⟩
  | .int _, _, h, _ => by cases h; exact ⟨.int _, rfl⟩
  | .str s, _, h, _ => by
    cases h with
    | str _ h1 =>
      refine ⟨.str _, ?_⟩
      show (tx s).cps.all (fun c => decide (c < 0x110000)) = true
      simp only [tx, List.all_toArray, List.all_eq_true]
      intro c hc
      exact decide_eq_true (h1 c hc)
  | .lst ds, _, h, f => by
    cases h with
    | lst h1 h2 =>
      have q := RDs.dp e h2 f
      exact ⟨.lst (SqL.of (e _ _ h1)) q.1, q.2⟩
  | .tup ds, _, h, f => by
    cases h with
    | tup h1 h2 =>
      have q := RDs.dp e h2 f
      exact ⟨.tup (ex_t e h1) q.1, q.2⟩
  | .loc _, _, _, f => by cases f
  | .dct _ _, _, _, f => by cases f
  | .scr ns, _, h, _ => by
    cases h with
    | scr h1 => exact ⟨.lst (ex_l e h1) (dp_ints ns), lay_ints ns⟩
theorem RDs.dp (e : Ex F H) : ∀ {ds : List D} {vs : List V}, RDs K F ρ vs ds → D.flats ds = true → DpAll K H vs (D.pys ds) ∧ PyData.canLayAll0 (D.pys ds) = true
  | [], _, h, _ => by cases h; exact ⟨.nil, rfl⟩
  | d :: ds, _, h, f => by
    have f : (D.flat d && D.flats ds) = true := f
    rw [Bool.and_eq_true] at f
    cases h with
    | cons h1 h2 =>
      have q1 := RD.dp e h1 f.1
      have q2 := RDs.dp e h2 f.2
      refine ⟨.cons q1.1 q2.1, ?_⟩
      show (PyData.canLay0 (D.py d) && PyData.canLayAll0 (D.pys ds)) = true
      rw [q1.2, q2.2]
      rfl
end
end

/-- a list of the store as the list that it is now -/
def unloc (S : Store) : D → D
  | .loc i => match S[i]? with
    | some (.lst ds) => .lst ds
    | _ => .loc i
  | d => d
section
variable {Y : Pc} {K : PySem.W.Frag} {F H : Hp} {ρ : List Addr} {S : Store}
theorem dp_un {d : D} {v : V} (R : SR K Y F ρ S H) (r : RD K F ρ v d) (f : (unloc S d).flat = true) : Dp K H v (unloc S d).py ∧ (unloc S d).py.canLay0 = true := by
  cases r with
  | loc h1 =>
    rename_i i a
    unfold unloc at f ⊢
    dsimp only at f ⊢
    cases e : S[i]? with
    | none => rw [e] at f; cases f
    | some c =>
      rw [e] at f
      cases c with
      | lst ds =>
        obtain ⟨_, xs, ha, hx⟩ := R.cell i a _ h1 e
        have q := RDs.dp R.ex hx f
        exact ⟨.lst (SqL.of ha) q.1, q.2⟩
      | _ => cases f
  | non => exact RD.dp (ρ := ρ) R.ex .non f
  | bl b => exact RD.dp (ρ := ρ) R.ex (.bl b) f
  | int i => exact RD.dp (ρ := ρ) R.ex (.int i) f
  | str s h => exact RD.dp (ρ := ρ) R.ex (.str s h) f
  | lst a b => exact RD.dp R.ex (.lst a b) f
  | tup a b => exact RD.dp R.ex (.tup a b) f
  | scr a => exact RD.dp (ρ := ρ) R.ex (.scr a) f
  | dct a b c => exact RD.dp (ρ := ρ) R.ex (.dct a b c) f

def eqPre (x y : D) : Bool := x.flat && y.flat && decide (x.py.depth ≤ 60) && decide (y.py.depth ≤ 60)
def eqD : Op2 := fun S x y => if eqPre (unloc S x) (unloc S y) = true then some (.bl (PyData.eqv (unloc S x).py (unloc S y).py)) else none
def neD : Op2 := fun S x y => if eqPre (unloc S x) (unloc S y) = true then some (.bl (!PyData.eqv (unloc S x).py (unloc S y).py)) else none
theorem eqPre_ok {x y : D} (h : eqPre x y = true) : x.flat = true ∧ y.flat = true ∧ x.py.depth ≤ 60 ∧ y.py.depth ≤ 60 := by
  unfold eqPre at h
  simp only [Bool.and_eq_true, decide_eq_true_eq] at h
  exact ⟨h.1.1.1, h.1.1.2, h.1.2, h.2⟩
theorem shaped_of {d : PyData} (h1 : d.canLay0 = true) (h2 : d.depth ≤ 60) : SeqAt.shaped d = true := by
  unfold SeqAt.shaped
  rw [h1]
  simp
  omega
variable {X : Cx}
/-- a scalar answer -/
theorem now_bl {Q : VK} {b : Bool} (R : SR K Y F ρ S H) (k : ∀ F' H' u, SR K Y F' ρ S H' → Nx F ρ H F' ρ H' → RD K F' ρ u (.bl b) → Q u H') : Q (.bl b) H := k F H _ R (Nx.refl _ _ _) (.bl b)
theorem now_int {Q : VK} {i : Int} (R : SR K Y F ρ S H) (k : ∀ F' H' u, SR K Y F' ρ S H' → Nx F ρ H F' ρ H' → RD K F' ρ u (.int i) → Q u H') : Q (.int i) H := k F H _ R (Nx.refl _ _ _) (.int i)
theorem now_str {Q : VK} {s : List Nat} (R : SR K Y F ρ S H) (h : OkT s) (k : ∀ F' H' u, SR K Y F' ρ S H' → Nx F ρ H F' ρ H' → RD K F' ρ u (.str s) → Q u H') : Q (.str (tx s)) H := k F H _ R (Nx.refl _ _ _) (.str s h)
theorem now_lst {Q : VK} {xs : List V} {ds : List D} {p : Addr} (R : SR K Y F ρ S H) (h : RDs K F ρ xs ds) (hp : H p = none) (k : ∀ F' H' u, SR K Y F' ρ S H' → Nx F ρ H F' ρ H' → RD K F' ρ u (.lst ds) → Q u H') : Q (.ref p) (upd H p (.lst xs)) := by
  obtain ⟨R2, n2, e2⟩ := R.new (o := .lst xs) hp
  exact k _ _ _ R2 n2 (.lst e2 (h.mono n2.ex n2.pre))
theorem now_tup {Q : VK} {xs : List V} {ds : List D} {p : Addr} (R : SR K Y F ρ S H) (h : RDs K F ρ xs ds) (hp : H p = none) (k : ∀ F' H' u, SR K Y F' ρ S H' → Nx F ρ H F' ρ H' → RD K F' ρ u (.tup ds) → Q u H') : Q (.ref p) (upd H p (.tup xs)) := by
  obtain ⟨R2, n2, e2⟩ := R.new (o := .tup xs) hp
  exact k _ _ _ R2 n2 (.tup (Or.inl (Or.inl e2)) (h.mono n2.ex n2.pre))

theorem sop_eq {k : Nat} {W : WX} (C : Ok X W k) : SOp Y X (compareOp .Eq) eqD := ⟨_, op_eqD C.room.units, fun F ρ S H x y dx dy d Q R rx ry e k => by
  unfold eqD at e
  by_cases h : eqPre (unloc S dx) (unloc S dy) = true
  · rw [if_pos h] at e
    cases e
    obtain ⟨f1, f2, d1, d2⟩ := eqPre_ok h
    obtain ⟨p1, l1⟩ := dp_un R rx f1
    obtain ⟨p2, l2⟩ := dp_un R ry f2
    exact ⟨_, _, p1, p2, shaped_of l1 d1, shaped_of l2 d2, now_bl R k⟩
  · rw [if_neg h] at e; cases e⟩
theorem sop_ne {k : Nat} {W : WX} (C : Ok X W k) : SOp Y X (compareOp .NotEq) neD := ⟨_, op_neD C.room.units, fun F ρ S H x y dx dy d Q R rx ry e k => by
  unfold neD at e
  by_cases h : eqPre (unloc S dx) (unloc S dy) = true
  · rw [if_pos h] at e
    cases e
    obtain ⟨f1, f2, d1, d2⟩ := eqPre_ok h
    obtain ⟨p1, l1⟩ := dp_un R rx f1
    obtain ⟨p2, l2⟩ := dp_un R ry f2
    exact ⟨_, _, p1, p2, shaped_of l1 d1, shaped_of l2 d2, now_bl R k⟩
  · rw [if_neg h] at e; cases e⟩

/-! ### arithmetic -/
theorem OkT.app {s t : List Nat} (a : OkT s) (b : OkT t) : OkT (s ++ t) := fun c h => (List.mem_append.mp h).elim (a c) (b c)
theorem tx_app (s t : List Nat) : tx s ++ tx t = tx (s ++ t) := Str.ext' (by show s.toArray ++ t.toArray = (s ++ t).toArray; simp)
theorem tx_len (s : List Nat) : (tx s).length = s.length := by simp [Str.length]
def addD : Op2 := fun _ x y => match x, y with
  | .int i, .int j => some (.int (i + j))
  | .str s, .str t => if s.length + t.length ≤ 100000 then some (.str (s ++ t)) else none
  | .lst xs, .lst ys => if xs.length + ys.length ≤ 100000 then some (.lst (xs ++ ys)) else none
  | .tup xs, .tup ys => if xs.length + ys.length ≤ 100000 then some (.tup (xs ++ ys)) else none
  | _, _ => none
theorem sop_add : SOp Y X (binaryOp .Add) addD := ⟨_, op_add.or (op_add_str.or (op_cat.or op_catA)), fun F ρ S H x y dx dy d Q R rx ry e k => by
  cases rx <;> cases ry <;> try (cases e; done)
  · cases e
    exact .inl ⟨_, _, rfl, rfl, now_int R k⟩
  · rename_i s hs t ht
    have e : (if s.length + t.length ≤ 100000 then some (D.str (s ++ t)) else none) = some d := e
    by_cases h : s.length + t.length ≤ 100000
    · rw [if_pos h] at e; cases e
      refine .inr (.inl ⟨_, _, rfl, rfl, by rw [tx_len, tx_len]; exact small _ h, ?_⟩)
      rw [tx_app]
      exact now_str R (hs.app ht) k
    · rw [if_neg h] at e; cases e
  · rename_i a xs ds h1 h2 b ys es g1 g2
    have e : (if ds.length + es.length ≤ 100000 then some (D.lst (ds ++ es)) else none) = some d := e
    by_cases h : ds.length + es.length ≤ 100000
    · rw [if_pos h] at e; cases e
      refine .inr (.inr (.inl ⟨_, _, _, _, rfl, rfl, R.ex _ _ h1, R.ex _ _ g1, by rw [h2.length, g2.length]; exact small _ h, fun p hp => now_lst R (h2.append g2) hp k⟩))
    · rw [if_neg h] at e; cases e
  · rename_i a xs ds h1 h2 b ys es g1 g2
    have e : (if ds.length + es.length ≤ 100000 then some (D.tup (ds ++ es)) else none) = some d := e
    by_cases h : ds.length + es.length ≤ 100000
    · rw [if_pos h] at e; cases e
      refine .inr (.inr (.inr ⟨_, _, _, _, rfl, rfl, ex_t R.ex h1, ex_t R.ex g1, by rw [h2.length, g2.length]; exact small _ h, fun z => ?_, fun z z2 => ?_, fun _ _ p hp => now_tup R (h2.append g2) hp k⟩))
      · subst z
        cases h2
        exact k F H _ R (Nx.refl _ _ _) (.tup g1 g2)
      · subst z2
        cases g2
        rw [List.append_nil] at k
        exact k F H _ R (Nx.refl _ _ _) (.tup h1 h2)
    · rw [if_neg h] at e; cases e⟩
def subD : Op2 := fun _ x y => match x, y with
  | .int i, .int j => some (.int (i - j))
  | _, _ => none
theorem sop_sub : SOp Y X (binaryOp .Sub) subD := ⟨_, op_sub, fun F ρ S H x y dx dy d Q R rx ry e k => by
  cases rx <;> cases ry <;> try (cases e; done)
  cases e
  exact ⟨_, _, rfl, rfl, now_int R k⟩⟩
def fdivD : Op2 := fun _ x y => match x, y with
  | .int i, .int j => if 0 < j ∧ j < 1073741824 then some (.int (i / j)) else none
  | _, _ => none
theorem sop_fdiv : SOp Y X (binaryOp .FloorDiv) fdivD := ⟨_, op_fdiv, fun F ρ S H x y dx dy d Q R rx ry e k => by
  cases rx <;> cases ry <;> try (cases e; done)
  rename_i i j
  have e : (if 0 < j ∧ j < 1073741824 then some (D.int (i / j)) else none) = some d := e
  by_cases h : 0 < j ∧ j < 1073741824
  · rw [if_pos h] at e; cases e
    exact ⟨_, _, rfl, rfl, h, now_int R k⟩
  · rw [if_neg h] at e; cases e⟩
def modD : Op2 := fun _ x y => match x, y with
  | .int i, .int j => if 0 < j then some (.int (i % j)) else none
  | _, _ => none
theorem sop_mod : SOp Y X (binaryOp .Mod) modD := ⟨_, op_mod, fun F ρ S H x y dx dy d Q R rx ry e k => by
  cases rx <;> cases ry <;> try (cases e; done)
  rename_i i j
  have e : (if 0 < j then some (D.int (i % j)) else none) = some d := e
  by_cases h : 0 < j
  · rw [if_pos h] at e; cases e
    exact ⟨_, _, rfl, rfl, h, now_int R k⟩
  · rw [if_neg h] at e; cases e⟩
def powD : Op2 := fun _ x y => match x, y with
  | .int i, .int j => if 0 ≤ j ∧ j ≤ 1000 ∧ i.natAbs < 2 ^ 64 then some (.int (i ^ j.toNat)) else none
  | _, _ => none
theorem sop_pow : SOp Y X (binaryOp .Pow) powD := ⟨_, op_pow, fun F ρ S H x y dx dy d Q R rx ry e k => by
  cases rx <;> cases ry <;> try (cases e; done)
  rename_i i j
  have e : (if 0 ≤ j ∧ j ≤ 1000 ∧ i.natAbs < 2 ^ 64 then some (D.int (i ^ j.toNat)) else none) = some d := e
  by_cases h : 0 ≤ j ∧ j ≤ 1000 ∧ i.natAbs < 2 ^ 64
  · rw [if_pos h] at e; cases e
    exact ⟨_, _, rfl, rfl, ⟨h.1, by omega, h.2.2⟩, now_int R k⟩
  · rw [if_neg h] at e; cases e⟩
def repL {α : Type} (n : Nat) (xs : List α) : List α := (List.replicate n xs).flatten
def mulD : Op2 := fun _ x y => match x, y with
  | .int i, .int j => if i.natAbs < 2 ^ 64 ∨ j.natAbs < 2 ^ 64 then some (.int (i * j)) else none
  | .lst xs, .int k => if 0 ≤ k ∧ k ≤ 1000 ∧ xs.length ≤ 100 then some (.lst (repL k.toNat xs)) else none
  | _, _ => none
theorem sop_mul : SOp Y X (binaryOp .Mult) mulD := ⟨_, op_mul.or op_rep, fun F ρ S H x y dx dy d Q R rx ry e k => by
  cases rx <;> cases ry <;> try (cases e; done)
  · rename_i i j
    have e : (if i.natAbs < 2 ^ 64 ∨ j.natAbs < 2 ^ 64 then some (D.int (i * j)) else none) = some d := e
    by_cases h : i.natAbs < 2 ^ 64 ∨ j.natAbs < 2 ^ 64
    · rw [if_pos h] at e; cases e
      refine .inl ⟨_, _, rfl, rfl, ?_, now_int R k⟩
      rcases h with h | h
      · exact .inl ⟨by omega, by omega⟩
      · exact .inr ⟨by omega, by omega⟩
    · rw [if_neg h] at e; cases e
  · rename_i a xs ds h1 h2 kk
    have e : (if 0 ≤ kk ∧ kk ≤ 1000 ∧ ds.length ≤ 100 then some (D.lst (repL kk.toNat ds)) else none) = some d := e
    by_cases h : 0 ≤ kk ∧ kk ≤ 1000 ∧ ds.length ≤ 100
    · rw [if_pos h] at e; cases e
      refine .inr ⟨_, _, _, rfl, rfl, R.ex _ _ h1, by omega, by omega, ?_, fun p hp => now_lst R (h2.rep kk.toNat) hp k⟩
      rw [h2.length]
      have : ds.length * kk.toNat ≤ 100 * 1000 := Nat.mul_le_mul h.2.2 (by omega)
      exact small _ (by omega)
    · rw [if_neg h] at e; cases e⟩
def negD : Op1 := fun _ x => match x with
  | .int i => some (.int (-i))
  | _ => none
theorem sop_neg : Op1Ok K Y negD (rU fun i => .int (-i)) := fun F ρ S H x dx d Q R rx e k => by
  cases rx <;> try (cases e; done)
  cases e
  exact ⟨_, rfl, now_int R k⟩
theorem se_neg {W : WX} {a : Expr} {pos : Pos} {ra : Ev → Store → Res D} (ha : SE Y X W a ra) : SE Y X W (.UnaryOp .USub a pos) (r1 negD ra) := se_un un_neg sop_neg ha

/-! ### order -/
def lt2 (a b : List Nat) : Bool := decide (a < b)
def ltD : Op2 := fun _ x y => match x, y with
  | .int i, .int j => some (.bl (decide (i < j)))
  | .str s, .str t => some (.bl (lt2 s t))
  | _, _ => none
def leD : Op2 := fun _ x y => match x, y with
  | .int i, .int j => some (.bl (decide (i ≤ j)))
  | .str s, .str t => some (.bl (!lt2 t s))
  | _, _ => none
def gtD : Op2 := fun _ x y => match x, y with
  | .int i, .int j => some (.bl (decide (j < i)))
  | .str s, .str t => some (.bl (lt2 t s))
  | _, _ => none
def geD : Op2 := fun _ x y => match x, y with
  | .int i, .int j => some (.bl (decide (j ≤ i)))
  | .str s, .str t => some (.bl (!lt2 s t))
  | _, _ => none
theorem sop_lt : SOp Y X (compareOp .Lt) ltD := ⟨_, op_lt.or op_lt_str, fun F ρ S H x y dx dy d Q R rx ry e k => by
  cases rx <;> cases ry <;> try (cases e; done)
  · cases e; exact .inl ⟨_, _, rfl, rfl, now_bl R k⟩
  · cases e; exact .inr ⟨_, _, rfl, rfl, now_bl R k⟩⟩
theorem sop_le : SOp Y X (compareOp .LtE) leD := ⟨_, op_le.or op_le_str, fun F ρ S H x y dx dy d Q R rx ry e k => by
  cases rx <;> cases ry <;> try (cases e; done)
  · cases e; exact .inl ⟨_, _, rfl, rfl, now_bl R k⟩
  · cases e; exact .inr ⟨_, _, rfl, rfl, now_bl R k⟩⟩
theorem sop_gt : SOp Y X (compareOp .Gt) gtD := ⟨_, op_gt.or op_gt_str, fun F ρ S H x y dx dy d Q R rx ry e k => by
  cases rx <;> cases ry <;> try (cases e; done)
  · cases e; exact .inl ⟨_, _, rfl, rfl, now_bl R k⟩
  · cases e; exact .inr ⟨_, _, rfl, rfl, now_bl R k⟩⟩
theorem sop_ge : SOp Y X (compareOp .GtE) geD := ⟨_, op_ge.or op_ge_str, fun F ρ S H x y dx dy d Q R rx ry e k => by
  cases rx <;> cases ry <;> try (cases e; done)
  · cases e; exact .inl ⟨_, _, rfl, rfl, now_bl R k⟩
  · cases e; exact .inr ⟨_, _, rfl, rfl, now_bl R k⟩⟩
/-- tuples of whole numbers -/
def intsOf : List D → Option (List Int)
  | [] => some []
  | .int i :: ds => (intsOf ds).map (i :: ·)
  | _ :: _ => none
theorem ints_rd {F : Hp} {ρ : List Addr} : ∀ {ds : List D} {xs : List V} {ns : List Int}, RDs K F ρ xs ds → intsOf ds = some ns → xs = ns.map V.int
  | [], _, _, h, e => by cases h; cases e; rfl
  | d :: ds, _, ns, h, e => by
    cases h with
    | cons h1 h2 =>
      cases h1 with
      | int i =>
        have e : (intsOf ds).map (i :: ·) = some ns := e
        cases e2 : intsOf ds with
        | none => rw [e2] at e; cases e
        | some ms =>
          rw [e2] at e
          cases e
          simp [ints_rd h2 e2]
      | _ => cases e
def ltTD : Op2 := fun _ x y => match x, y with
  | .tup xs, .tup ys => match intsOf xs, intsOf ys with
    | some ns, some ms => some (.bl (HT.lexLt ns ms))
    | _, _ => none
  | _, _ => none
theorem sop_ltT {k : Nat} {W : WX} (C : Ok X W k) : SOp Y X (compareOp .Lt) ltTD := ⟨_, op_ltT C.room.units0, fun F ρ S H x y dx dy d Q R rx ry e k => by
  cases rx <;> cases ry <;> try (cases e; done)
  rename_i a xs ds h1 h2 b ys es g1 g2
  have e : (match intsOf ds, intsOf es with
    | some ns, some ms => some (D.bl (HT.lexLt ns ms))
    | _, _ => none) = some d := e
  cases e1 : intsOf ds with
  | none => rw [e1] at e; cases e
  | some ns =>
    cases e2 : intsOf es with
    | none => rw [e1, e2] at e; cases e
    | some ms =>
      rw [e1, e2] at e; cases e
      have q1 := ints_rd h2 e1
      have q2 := ints_rd g2 e2
      subst q1; subst q2
      exact ⟨_, _, ns, ms, rfl, rfl, ex_t R.ex h1, ex_t R.ex g1, now_bl R k⟩⟩

/-! ### is, in -/
def isD : Op2 := fun _ x y => match x, y with
  | .bl a, .bl b => some (.bl (decide (a = b)))
  | .non, .non => some (.bl true)
  | .bl _, .non => some (.bl false)
  | .int _, .non => some (.bl false)
  | .str _, .non => some (.bl false)
  | .lst _, .non => some (.bl false)
  | .tup _, .non => some (.bl false)
  | .loc _, .non => some (.bl false)
  | _, _ => none
def isnD : Op2 := fun _ x y => match x, y with
  | .bl a, .bl b => some (.bl (!decide (a = b)))
  | .non, .non => some (.bl false)
  | .bl _, .non => some (.bl true)
  | .int _, .non => some (.bl true)
  | .str _, .non => some (.bl true)
  | .lst _, .non => some (.bl true)
  | .tup _, .non => some (.bl true)
  | .loc _, .non => some (.bl true)
  | _, _ => none
theorem sop_is : SOp Y X (compareOp .Is) isD := ⟨_, op_isBl.or op_isN, fun F ρ S H x y dx dy d Q R rx ry e k => by
  cases rx <;> cases ry <;> first
    | (cases e; done)
    | (cases e; exact .inl ⟨_, _, rfl, rfl, now_bl R k⟩)
    | (cases e; exact .inr ⟨rfl, now_bl R k⟩)⟩
theorem sop_isn : SOp Y X (compareOp .IsNot) isnD := ⟨_, op_notBl.or op_notN, fun F ρ S H x y dx dy d Q R rx ry e k => by
  cases rx <;> cases ry <;> first
    | (cases e; done)
    | (cases e; exact .inl ⟨_, _, rfl, rfl, now_bl R k⟩)
    | (cases e; exact .inr ⟨rfl, now_bl R k⟩)⟩
def inD : Op2 := fun S x y => match x, y with
  | .str [c], .str s => some (.bl (decide (c ∈ s)))
  | _, _ => none
theorem sop_inS : SOp Y X (compareOp .In) inD := ⟨_, op_in_sign, fun F ρ S H x y dx dy d Q R rx ry e k => by
  cases rx <;> cases ry <;> try (simp [inD] at e; done)
  rename_i t ht s hs
  match t, e, ht with
  | [c], e, ht =>
    cases e
    exact ⟨c, tx s, rfl, rfl, now_bl R k⟩
  | [], e, _ => simp [inD] at e
  | _ :: _ :: _, e, _ => simp [inD] at e⟩
end
end L3
set_option Elab.async false
set_option linter.all false
set_option maxRecDepth 100000
set_option maxHeartbeats 2000000
/-! subscripts, slices, built-ins, methods, stores into lists -/
namespace L2
open PySem PySem.Spec PyProof.Rows
section
variable {X : Cx}
theorem get_list : PGet X (rIxL X.K) := by
  intro pins s σ H x y v u Q I rx ry h
  obtain ⟨p, xs, i, z, rfl, rfl, hq, he, q⟩ := h
  cases rx
  obtain ⟨t, rfl⟩ := ry
  obtain ⟨its, r, pl, hz⟩ := I.list hq
  obtain ⟨j, h1, h2, h3, h4, h5⟩ := atI_get he
  obtain ⟨w, ew, rw'⟩ := r.get h2
  have hl := r.length
  have hn := line63
  have fin : EP X pins σ Q w s := ⟨z, H, I, rw', q⟩
  by_cases h0 : 0 ≤ i
  · have hj : i.toNat = j := by
      rw [seqIndex_of h0 h5] at h1
      exact Option.some.inj h1
    exact wpAny_getItem_list pl.isList h0 (by omega) (by rw [hj]; simpa using ew) fin
  · have hj : (i + (its.toArray.size : Int)).toNat = j := by
      rw [seqIndex_neg (by omega) h4] at h1
      rw [List.size_toArray, ← hl]
      exact Option.some.inj h1
    exact wpAny_getItem_list_neg pl.isList (by omega) (by rw [List.size_toArray] <;> omega) (by omega) (by rw [hj]; simpa using ew) fin
theorem pip_of {op : Operator} {r : R2} (h : OpR X (inplaceOp op) r) : PIp X op r := fun pins s σ H x y v u Q I rx ry q => h pins s σ H x y v u Q I rx ry q
end
end L2
namespace L3
open PySem PySem.Spec L2
section
variable {Y : Pc} {X : Cx} {W : WX} {a b c e : Expr} {es : List Expr} {ra rb rc : Ev → Store → Res D} {rs : Ev → Store → Res (List D)} {pos : Pos} {K : PySem.W.Frag} {F H : Hp} {ρ : List Addr} {S : Store}
theorem RDs.at {xs : List V} {ds : List D} {i : Int} {d : D} (r : RDs K F ρ xs ds) (h : atI ds i = some d) : ∃ v, atI xs i = some v ∧ RD K F ρ v d := by
  unfold atI at h ⊢
  rw [r.length]
  cases e : ixN ds.length i with
  | none => rw [e] at h; cases h
  | some j =>
    rw [e] at h
    obtain ⟨v, h1, h2⟩ := r.get (show ds[j]? = some d from h)
    exact ⟨v, h1, h2⟩
/-- the items of a list, standing or in the store -/
def seqD (S : Store) : D → Option (List D)
  | .lst ds => some ds
  | .loc i => match S[i]? with
    | some (.lst ds) => some ds
    | _ => none
  | _ => none
theorem seq_rd {x : V} {d : D} {ds : List D} (R : SR K Y F ρ S H) (r : RD K F ρ x d) (h : seqD S d = some ds) : ∃ (a : Addr) (xs : List V), x = .ref a ∧ H a = some (.lst xs) ∧ RDs K F ρ xs ds := by
  cases r with
  | lst h1 h2 => cases h; exact ⟨_, _, rfl, R.ex _ _ h1, h2⟩
  | loc h1 =>
    rename_i i p
    unfold seqD at h
    dsimp only at h
    cases e : S[i]? with
    | none => rw [e] at h; cases h
    | some c =>
      rw [e] at h
      cases c with
      | lst ds' =>
        cases h
        obtain ⟨_, xs, q1, q2⟩ := R.cell i p _ h1 e
        exact ⟨p, xs, rfl, q1, q2⟩
      | _ => cases h
  | _ => cases h
def ixD : Op2 := fun S x y => match y with
  | .int i => match x with
    | .tup ds => atI ds i
    | .str s => if s.length ≤ 100000 then (atI s i).map fun c => .str [c] else none
    | x => (seqD S x).bind fun ds => atI ds i
  | _ => none
theorem atI_mem {α : Type} {xs : List α} {i : Int} {x : α} (h : atI xs i = some x) : x ∈ xs := by
  unfold atI at h
  cases e : ixN xs.length i with
  | none => rw [e] at h; cases h
  | some j => rw [e] at h; exact List.mem_of_getElem? h
theorem ixD_list {x : V} {dx d : D} {i : Int} {Q : VK} (R : SR K Y F ρ S H) (rx : RD K F ρ x dx) (e : ((seqD S dx).bind fun ds => atI ds i) = some d) (k : ∀ F' H' u, SR K Y F' ρ S H' → Nx F ρ H F' ρ H' → RD K F' ρ u d → Q u H') : rIxL K x (.int i) H Q := by
  cases e1 : seqD S dx with
  | none => rw [e1] at e; cases e
  | some ds =>
    rw [e1] at e
    obtain ⟨p, xs, rfl, hp, hx⟩ := seq_rd R rx e1
    obtain ⟨v, h1, h2⟩ := hx.at e
    exact ⟨p, xs, i, v, rfl, rfl, SqL.of hp, h1, k F H v R (Nx.refl _ _ _) h2⟩
theorem six : SIx Y X ixD := ⟨_, ix_seq, fun F ρ S H x y dx dy d Q R rx ry e k => by
  cases ry with
  | int i =>
    cases rx with
    | tup h1 h2 =>
      obtain ⟨v, q1, q2⟩ := h2.at e
      exact .inr (.inl ⟨_, _, _, v, rfl, rfl, ex_t R.ex h1, q1, k F H v R (Nx.refl _ _ _) q2⟩)
    | str s hs =>
      have e : (if s.length ≤ 100000 then (atI s i).map fun c => D.str [c] else none) = some d := e
      by_cases h : s.length ≤ 100000
      · rw [if_pos h] at e
        cases e1 : atI s i with
        | none => rw [e1] at e; cases e
        | some c =>
          rw [e1] at e; cases e
          refine .inr (.inr ⟨tx s, i, c, rfl, rfl, by rw [tx_len]; exact small _ h, e1, ?_⟩)
          exact now_str R (fun c' hc => by rw [List.mem_singleton.mp hc]; exact hs _ (atI_mem e1)) k
      · rw [if_neg h] at e; cases e
    | lst h1 h2 => exact .inl (ixD_list R (.lst h1 h2) e k)
    | loc h1 => exact .inl (ixD_list R (.loc h1) e k)
    | _ => cases e
  | _ => cases e⟩

/-! slices -/
def slD : OpSl := fun S x lo hi => match x with
  | .str s => if s.length ≤ 100000 then some (.str ((s.drop (HT.sIx s.length 0 lo)).take (HT.sIx s.length s.length hi - HT.sIx s.length 0 lo))) else none
  | .tup ds => some (.tup ((ds.drop (HT.sIx ds.length 0 lo)).take (HT.sIx ds.length ds.length hi - HT.sIx ds.length 0 lo)))
  | x => (seqD S x).bind fun ds => some (.lst ((ds.drop (HT.sIx ds.length 0 lo)).take (HT.sIx ds.length ds.length hi - HT.sIx ds.length 0 lo)))
theorem cutS_tx (s : List Nat) (lo hi : Option Int) : cutS (tx s) lo hi = tx ((s.drop (HT.sIx s.length 0 lo)).take (HT.sIx s.length s.length hi - HT.sIx s.length 0 lo)) := by
  unfold cutS
  rw [tx_len]
theorem sl_list_ok {x : V} {dx d : D} {lo hi : Option Int} {Q : VK} (R : SR K Y F ρ S H) (rx : RD K F ρ x dx) (e : ((seqD S dx).bind fun ds => some (D.lst ((ds.drop (HT.sIx ds.length 0 lo)).take (HT.sIx ds.length ds.length hi - HT.sIx ds.length 0 lo)))) = some d)
    (k : ∀ F' H' u, SR K Y F' ρ S H' → Nx F ρ H F' ρ H' → RD K F' ρ u d → Q u H') : rSlL K x lo hi H Q := by
  cases e1 : seqD S dx with
  | none => rw [e1] at e; cases e
  | some ds =>
    rw [e1] at e; cases e
    obtain ⟨p, xs, rfl, hp, hx⟩ := seq_rd R rx e1
    refine ⟨p, xs, rfl, SqL.of hp, fun q hq => ?_⟩
    refine now_lst R ?_ hq k
    unfold cutV
    rw [hx.length]
    exact (hx.drop _).take _
theorem ssl : SSl Y X slD := ⟨_, sl_str.or (sl_tupA.or sl_list), fun F ρ S H x dx d lo hi Q R rx e k => by
  cases rx with
  | str s hs =>
    have e : (if s.length ≤ 100000 then some (D.str ((s.drop (HT.sIx s.length 0 lo)).take (HT.sIx s.length s.length hi - HT.sIx s.length 0 lo))) else none) = some d := e
    by_cases h : s.length ≤ 100000
    · rw [if_pos h] at e; cases e
      refine .inl ⟨tx s, rfl, by rw [tx_len]; exact small _ h, ?_⟩
      rw [cutS_tx]
      exact now_str R (fun c hc => hs c (List.mem_of_mem_drop (List.mem_of_mem_take hc))) k
    · rw [if_neg h] at e; cases e
  | tup h1 h2 =>
    rename_i p xs ds
    cases e
    have r2 : RDs X.K F ρ (cutV xs lo hi) ((ds.drop (HT.sIx ds.length 0 lo)).take (HT.sIx ds.length ds.length hi - HT.sIx ds.length 0 lo)) := by
      unfold cutV
      rw [h2.length]
      exact (h2.drop _).take _
    refine .inr (.inl ⟨p, xs, rfl, ex_t R.ex h1, fun q => ?_, fun _ q hq => now_tup R r2 hq k⟩)
    have e2 : cutV xs lo hi = xs := by
      unfold cutV
      rw [q.1, q.2]
      simp
    rw [e2] at r2
    exact k F H _ R (Nx.refl _ _ _) (.tup h1 r2)
  | lst h1 h2 => exact .inr (.inr (sl_list_ok R (.lst h1 h2) e k))
  | loc h1 => exact .inr (.inr (sl_list_ok R (.loc h1) e k))
  | _ => cases e⟩

/-! ### built-ins -/
def lenD : OpN := fun S xs => match xs with
  | [.str s] => if s.length ≤ 100000 then some (.int s.length) else none
  | [.tup ds] => some (.int ds.length)
  | [.scr ns] => some (.int ns.length)
  | [x] => (seqD S x).bind fun ds => some (.int ds.length)
  | _ => none
theorem scall_len : SCall Y X (.builtin "len") lenD := ⟨_, call_len, fun F ρ S H xs ds d Q R rx e k => by
  match ds, rx, e with
  | [.str s], .cons (.str _ hs) .nil, e =>
    have e : (if s.length ≤ 100000 then some (D.int s.length) else none) = some d := e
    by_cases h : s.length ≤ 100000
    · rw [if_pos h] at e; cases e
      exact ⟨_, s.length, rfl, ⟨by rw [tx_len]; exact small _ h, (tx_len s).symm⟩, now_int R k⟩
    · rw [if_neg h] at e; cases e
  | [.tup ds], .cons (.tup h1 h2) .nil, e =>
    cases e
    exact ⟨_, ds.length, rfl, Or.inr ⟨_, ex_t R.ex h1, h2.length.symm⟩, now_int R k⟩
  | [.scr ns], .cons (.scr h1) .nil, e =>
    cases e
    exact ⟨_, ns.length, rfl, Or.inl ⟨_, ex_l R.ex h1, by simp⟩, now_int R k⟩
  | [.lst ds], .cons (.lst h1 h2) .nil, e =>
    cases e
    exact ⟨_, ds.length, rfl, Or.inl ⟨_, SqL.of (R.ex _ _ h1), h2.length.symm⟩, now_int R k⟩
  | [.loc i], .cons r .nil, e =>
    have e : ((seqD S (.loc i)).bind fun ds => some (D.int ds.length)) = some d := e
    cases e1 : seqD S (.loc i) with
    | none => rw [e1] at e; cases e
    | some ds =>
      rw [e1] at e; cases e
      obtain ⟨p, xs, rfl, hp, hx⟩ := seq_rd R r e1
      exact ⟨_, ds.length, rfl, Or.inl ⟨_, SqL.of hp, hx.length.symm⟩, now_int R k⟩
  | [.non], _, e => cases e
  | [.dct _ _], _, e => cases e
  | [.bl _], _, e => cases e
  | [.int _], _, e => cases e⟩
def ordD : OpN := fun _ xs => match xs with
  | [.str [c]] => some (.int c)
  | _ => none
theorem scall_ord : SCall Y X (.builtin "ord") ordD := ⟨_, call_ord, fun F ρ S H xs ds d Q R rx e k => by
  match ds, rx, e with
  | [.str [c]], .cons r .nil, e =>
    cases r with
    | str _ hs =>
      cases e
      exact ⟨tx [c], rfl, rfl, now_int R k⟩⟩
/-- int(x) of an int, a bool, a text of figures -/
def digV (s : List Nat) : Nat := s.foldl (fun acc c => acc * 10 + (c - 48)) 0
def figs (s : List Nat) : Bool := !s.isEmpty && s.all fun c => decide (48 ≤ c ∧ c ≤ 57)
def intD : OpN := fun _ xs => match xs with
  | [.int i] => some (.int i)
  | [.bl k] => some (.int (if k then 1 else 0))
  | [.str s] => if figs s = true ∧ s.length ≤ 640 then some (.int (digV s)) else none
  | _ => none
theorem intText_figs {s : List Nat} (h : figs s = true) (hl : s.length ≤ 640) : PySem.intText? (tx s) = some ((digV s : Nat) : Int) := by
  unfold figs at h
  simp only [Bool.and_eq_true, Bool.not_eq_true', List.all_eq_true, decide_eq_true_eq] at h
  exact PySem.intText_digits (x := tx s) (fun c hc => h.2 c hc) (fun e => by
    have e : s = [] := e
    subst e
    exact absurd h.1 (by decide)) (by rw [tx_len]; omega)
theorem scall_int : SCall Y X (.type "int") intD := ⟨_, call_int1.or call_int_str, fun F ρ S H xs ds d Q R rx e k => by
  match ds, rx, e with
  | [.int i], .cons (.int _) .nil, e =>
    cases e
    exact .inl (.inl ⟨i, rfl, now_int R k⟩)
  | [.bl b], .cons (.bl _) .nil, e =>
    cases e
    exact .inl (.inr ⟨b, rfl, now_int R k⟩)
  | [.str s], .cons (.str _ hs) .nil, e =>
    have e : (if figs s = true ∧ s.length ≤ 640 then some (D.int (digV s)) else none) = some d := e
    by_cases h : figs s = true ∧ s.length ≤ 640
    · rw [if_pos h] at e; cases e
      exact .inr ⟨tx s, _, rfl, intText_figs h.1 h.2, by rw [tx_len]; exact h.2, now_int R k⟩
    · rw [if_neg h] at e; cases e⟩
def listD : OpN := fun S xs => match xs with
  | [.tup ds] => some (.lst ds)
  | [.scr ns] => some (.lst (ns.map .int))
  | [x] => (seqD S x).map .lst
  | _ => none
theorem rd_ints : ∀ ns : List Int, RDs K F ρ (ns.map V.int) (ns.map D.int)
  | [] => .nil
  | n :: ns => .cons (.int n) (rd_ints ns)
theorem scall_list : SCall Y X (.type "list") listD := ⟨_, call_list_of, fun F ρ S H xs ds d Q R rx e k => by
  match ds, rx, e with
  | [.tup ds], .cons (.tup h1 h2) .nil, e =>
    cases e
    exact ⟨_, _, rfl, Or.inr (ex_t R.ex h1), fun l hl => now_lst R h2 hl k⟩
  | [.scr ns], .cons (.scr h1) .nil, e =>
    cases e
    exact ⟨_, _, rfl, Or.inl (ex_l R.ex h1), fun l hl => now_lst R (rd_ints ns) hl k⟩
  | [.lst ds], .cons (.lst h1 h2) .nil, e =>
    cases e
    exact ⟨_, _, rfl, Or.inl (SqL.of (R.ex _ _ h1)), fun l hl => now_lst R h2 hl k⟩
  | [.loc i], .cons r .nil, e =>
    have e : (seqD S (.loc i)).map D.lst = some d := e
    cases e1 : seqD S (.loc i) with
    | none => rw [e1] at e; cases e
    | some ds =>
      rw [e1] at e; cases e
      obtain ⟨p, xs, rfl, hp, hx⟩ := seq_rd R r e1
      exact ⟨_, _, rfl, Or.inl (SqL.of hp), fun l hl => now_lst R hx hl k⟩
  | [.non], _, e => cases e
  | [.dct _ _], _, e => cases e
  | [.bl _], _, e => cases e
  | [.int _], _, e => cases e
  | [.str _], _, e => cases e⟩
def tupleD : OpN := fun S xs => match xs with
  | [.tup ds] => some (.tup ds)
  | [x] => (seqD S x).map .tup
  | _ => none
theorem scall_tuple : SCall Y X (.type "tuple") tupleD := ⟨_, call_tuple_of, fun F ρ S H xs ds d Q R rx e k => by
  match ds, rx, e with
  | [.tup ds], .cons (.tup h1 h2) .nil, e =>
    cases e
    exact ⟨_, _, rfl, Or.inr ⟨ex_t R.ex h1, k F H _ R (Nx.refl _ _ _) (.tup h1 h2)⟩⟩
  | [.lst ds], .cons (.lst h1 h2) .nil, e =>
    cases e
    exact ⟨_, _, rfl, Or.inl ⟨SqL.of (R.ex _ _ h1), fun l hl => now_tup R h2 hl k⟩⟩
  | [.loc i], .cons r .nil, e =>
    have e : (seqD S (.loc i)).map D.tup = some d := e
    cases e1 : seqD S (.loc i) with
    | none => rw [e1] at e; cases e
    | some ds =>
      rw [e1] at e; cases e
      obtain ⟨p, xs, rfl, hp, hx⟩ := seq_rd R r e1
      exact ⟨_, _, rfl, Or.inl ⟨SqL.of hp, fun l hl => now_tup R hx hl k⟩⟩
  | [.non], _, e => cases e
  | [.dct _ _], _, e => cases e
  | [.bl _], _, e => cases e
  | [.int _], _, e => cases e
  | [.str _], _, e => cases e
  | [.scr _], _, e => cases e⟩
def blsOf : List D → Option (List Bool)
  | [] => some []
  | .bl i :: ds => (blsOf ds).map (i :: ·)
  | _ :: _ => none
theorem bls_rd : ∀ {ds : List D} {xs : List V} {ns : List Bool}, RDs K F ρ xs ds → blsOf ds = some ns → xs = ns.map V.bl
  | [], _, _, h, e => by cases h; cases e; rfl
  | d :: ds, _, ns, h, e => by
    cases h with
    | cons h1 h2 =>
      cases h1 with
      | bl i =>
        have e : (blsOf ds).map (i :: ·) = some ns := e
        cases e2 : blsOf ds with
        | none => rw [e2] at e; cases e
        | some ms =>
          rw [e2] at e
          cases e
          simp [bls_rd h2 e2]
      | _ => cases e
def allD : OpN := fun S xs => match xs with
  | [.lst ds] => (blsOf ds).map fun bs => .bl (bs.all id)
  | _ => none
theorem scall_all {k : Nat} (C : Ok X W k) : SCall Y X (.builtin "all") allD := ⟨_, cr_all C.calm, fun F ρ S H xs ds d Q R rx e k => by
  match ds, rx, e with
  | [.lst ds], .cons (.lst h1 h2) .nil, e =>
    have e : (blsOf ds).map (fun bs => D.bl (bs.all id)) = some d := e
    cases e1 : blsOf ds with
    | none => rw [e1] at e; cases e
    | some bs =>
      rw [e1] at e; cases e
      have q := bls_rd h2 e1
      subst q
      exact ⟨_, bs, rfl, SqL.of (R.ex _ _ h1), now_bl R k⟩⟩
def min2D : OpN := fun _ xs => match xs with
  | [.int i, .int j] => some (.int (if j < i then j else i))
  | _ => none
theorem scall_min2 {k : Nat} (C : Ok X W k) : SCall Y X (.builtin "min") min2D := ⟨_, call_min2 C.calm, fun F ρ S H xs ds d Q R rx e k => by
  match ds, rx, e with
  | [.int i, .int j], .cons (.int _) (.cons (.int _) .nil), e =>
    cases e
    exact ⟨i, j, rfl, now_int R k⟩⟩
def sortedSD : OpN := fun _ xs => match xs with
  | _ => none

/-! ### methods of texts -/
def tyStr : Store → D → Bool := fun _ x => match x with
  | .str _ => true
  | _ => false
theorem tyStr_ok : TyOk K Y "str" tyStr := fun F ρ S H x dx R rx h => by
  cases rx <;> first | (cases h; done) | rfl
def asc (s : List Nat) : Bool := s.all fun c => decide (c < 128)
theorem asc_tx {s : List Nat} (h : asc s = true) : ∀ c ∈ (tx s).cps.toList, c < 128 := fun c hc => of_decide_eq_true (List.all_eq_true.mp h c hc)
def loA (c : Nat) : Nat := if 65 ≤ c ∧ c ≤ 90 then c + 32 else c
def upA (c : Nat) : Nat := if 97 ≤ c ∧ c ≤ 122 then c - 32 else c
theorem lo1_A : ∀ c, c < 128 → PyProof.Rows.lo1 c = loA c := by decide +kernel
theorem up1_A : ∀ c, c < 128 → PyProof.Rows.up1 c = upA c := by decide +kernel
theorem map_eq_of {s : List Nat} {f g : Nat → Nat} (h : ∀ c ∈ s, f c = g c) : s.map f = s.map g := List.map_congr_left h
theorem lower_tx {s : List Nat} (h : asc s = true) : Txt.lower (tx s) = tx (s.map loA) := by
  rw [PyProof.Rows.lower_ascii (asc_tx h)]
  refine Str.ext' ?_
  show s.toArray.map _ = (s.map loA).toArray
  rw [List.map_toArray]
  refine congrArg List.toArray ?_
  exact map_eq_of fun c hc => lo1_A c (asc_tx h c hc)
theorem upper_tx {s : List Nat} (h : asc s = true) : Txt.upper (tx s) = tx (s.map upA) := by
  rw [PyProof.Rows.upper_ascii (asc_tx h)]
  refine Str.ext' ?_
  show s.toArray.map _ = (s.map upA).toArray
  rw [List.map_toArray]
  refine congrArg List.toArray ?_
  exact map_eq_of fun c hc => up1_A c (asc_tx h c hc)
def lowerD : OpM := fun S x xs => match x, xs with
  | .str s, [] => if asc s = true ∧ s.length ≤ 100000 then some (.str (s.map loA), S) else none
  | _, _ => none
def upperD : OpM := fun S x xs => match x, xs with
  | .str s, [] => if asc s = true ∧ s.length ≤ 100000 then some (.str (s.map upA), S) else none
  | _, _ => none
theorem okT_asc {s : List Nat} (h : ∀ c ∈ s, c < 1000) : OkT s := fun c hc => Nat.lt_trans (h c hc) (by decide)
theorem smt_lower : SMt Y X "str" "str.lower" tyStr lowerD := ⟨⟨_, mt_lower, fun F ρ S S' H x dx d xs ds Q R rx rxs e k => by
  cases rx <;> cases rxs <;> try (simp [lowerD] at e; done)
  rename_i s hs
  have e : (if asc s = true ∧ s.length ≤ 100000 then some (D.str (s.map loA), S) else none) = some (d, S') := e
  by_cases h : asc s = true ∧ s.length ≤ 100000
  · rw [if_pos h] at e; cases e
    refine ⟨tx s, rfl, rfl, by rw [tx_len]; omega, ?_⟩
    rw [lower_tx h.1]
    refine now_str R (okT_asc fun c hc => ?_) k
    obtain ⟨c', h1, rfl⟩ := List.mem_map.mp hc
    have := asc_tx h.1 c' h1
    unfold loA
    split <;> omega
  · rw [if_neg h] at e; cases e⟩, tyStr_ok⟩
theorem smt_upper : SMt Y X "str" "str.upper" tyStr upperD := ⟨⟨_, mt_upper, fun F ρ S S' H x dx d xs ds Q R rx rxs e k => by
  cases rx <;> cases rxs <;> try (simp [upperD] at e; done)
  rename_i s hs
  have e : (if asc s = true ∧ s.length ≤ 100000 then some (D.str (s.map upA), S) else none) = some (d, S') := e
  by_cases h : asc s = true ∧ s.length ≤ 100000
  · rw [if_pos h] at e; cases e
    refine ⟨tx s, rfl, rfl, by rw [tx_len]; omega, ?_⟩
    rw [upper_tx h.1]
    refine now_str R (okT_asc fun c hc => ?_) k
    obtain ⟨c', h1, rfl⟩ := List.mem_map.mp hc
    have := asc_tx h.1 c' h1
    unfold upA
    split <;> omega
  · rw [if_neg h] at e; cases e⟩, tyStr_ok⟩
def isDig (c : Nat) : Bool := decide (48 ≤ c ∧ c ≤ 57)
def isUp (c : Nat) : Bool := decide (65 ≤ c ∧ c ≤ 90)
def isLo (c : Nat) : Bool := decide (97 ≤ c ∧ c ≤ 122)
def isdigitD : OpM := fun S x xs => match x, xs with
  | .str s, [] => if asc s = true then some (.bl (!s.isEmpty && s.all isDig), S) else none
  | _, _ => none
def isalphaD : OpM := fun S x xs => match x, xs with
  | .str s, [] => if asc s = true then some (.bl (!s.isEmpty && s.all fun c => isUp c || isLo c), S) else none
  | _, _ => none
def isupperD : OpM := fun S x xs => match x, xs with
  | .str s, [] => if asc s = true then some (.bl (s.any isUp && !s.any isLo), S) else none
  | _, _ => none
theorem dig_A : ∀ c, c < 128 → Unicode.isDigit c = isDig c := by decide +kernel
theorem alpha_A : ∀ c, c < 128 → Unicode.isAlpha c = (isUp c || isLo c) := by decide +kernel
theorem up_A : ∀ c, c < 128 → Unicode.isUpper c = isUp c := by decide +kernel
theorem lo_A : ∀ c, c < 128 → (Unicode.isLower c || Unicode.isTitle c) = isLo c := by decide +kernel
theorem all_eq_of {s : List Nat} {f g : Nat → Bool} (h : ∀ c ∈ s, f c = g c) : s.all f = s.all g := by
  induction s with
  | nil => rfl
  | cons c s ih => simp only [List.all_cons, h c List.mem_cons_self, ih fun c hc => h c (List.mem_cons_of_mem _ hc)]
theorem any_eq_of {s : List Nat} {f g : Nat → Bool} (h : ∀ c ∈ s, f c = g c) : s.any f = s.any g := by
  induction s with
  | nil => rfl
  | cons c s ih => simp only [List.any_cons, h c List.mem_cons_self, ih fun c hc => h c (List.mem_cons_of_mem _ hc)]
theorem ne_len (s : List Nat) : decide ((tx s).length > 0) = !s.isEmpty := by
  rw [tx_len]
  cases s <;> simp
theorem smt_isdigit : SMt Y X "str" "str.isdigit" tyStr isdigitD := ⟨⟨_, mt_isdigit, fun F ρ S S' H x dx d xs ds Q R rx rxs e k => by
  cases rx <;> cases rxs <;> try (simp [isdigitD] at e; done)
  rename_i s hs
  have e : (if asc s = true then some (D.bl (!s.isEmpty && s.all isDig), S) else none) = some (d, S') := e
  by_cases h : asc s = true
  · rw [if_pos h] at e; cases e
    refine ⟨tx s, rfl, rfl, trivial, ?_⟩
    have q : Txt.isdigit (tx s) = (!s.isEmpty && s.all isDig) := by
      unfold Txt.isdigit
      rw [ne_len, ← all_eq_of fun c hc => dig_A c (asc_tx h c hc)]
      simp
    rw [q]
    exact now_bl R k
  · rw [if_neg h] at e; cases e⟩, tyStr_ok⟩
theorem smt_isalpha : SMt Y X "str" "str.isalpha" tyStr isalphaD := ⟨⟨_, mt_isalpha, fun F ρ S S' H x dx d xs ds Q R rx rxs e k => by
  cases rx <;> cases rxs <;> try (simp [isalphaD] at e; done)
  rename_i s hs
  have e : (if asc s = true then some (D.bl (!s.isEmpty && s.all fun c => isUp c || isLo c), S) else none) = some (d, S') := e
  by_cases h : asc s = true
  · rw [if_pos h] at e; cases e
    refine ⟨tx s, rfl, rfl, trivial, ?_⟩
    have q : Txt.isalpha (tx s) = (!s.isEmpty && s.all fun c => isUp c || isLo c) := by
      unfold Txt.isalpha
      rw [ne_len, ← all_eq_of fun c hc => alpha_A c (asc_tx h c hc)]
      simp
    rw [q]
    exact now_bl R k
  · rw [if_neg h] at e; cases e⟩, tyStr_ok⟩
theorem smt_isupper : SMt Y X "str" "str.isupper" tyStr isupperD := ⟨⟨_, mt_isupper, fun F ρ S S' H x dx d xs ds Q R rx rxs e k => by
  cases rx <;> cases rxs <;> try (simp [isupperD] at e; done)
  rename_i s hs
  have e : (if asc s = true then some (D.bl (s.any isUp && !s.any isLo), S) else none) = some (d, S') := e
  by_cases h : asc s = true
  · rw [if_pos h] at e; cases e
    refine ⟨tx s, rfl, rfl, trivial, ?_⟩
    have q : Txt.isupper (tx s) = (s.any isUp && !s.any isLo) := by
      unfold Txt.isupper
      rw [← any_eq_of fun c hc => up_A c (asc_tx h c hc), ← any_eq_of fun c hc => lo_A c (asc_tx h c hc)]
      simp
    rw [q]
    exact now_bl R k
  · rw [if_neg h] at e; cases e⟩, tyStr_ok⟩

/-! ### lists that are written -/
def tyList : Store → D → Bool := fun S x => (seqD S x).isSome
theorem tyList_ok : TyOk K Y "list" tyList := fun F ρ S H x dx R rx h => by
  unfold tyList at h
  cases e : seqD S dx with
  | none => rw [e] at h; cases h
  | some ds =>
    obtain ⟨p, xs, rfl, hp, hx⟩ := seq_rd R rx e
    exact .inl ⟨rfl, xs, SqL.of hp⟩
/-- a list of the store -/
theorem cell_rd {i : Nat} {x : V} {ds : List D} (R : SR K Y F ρ S H) (r : RD K F ρ x (.loc i)) (h : S[i]? = some (.lst ds)) : ∃ (a : Addr) (xs : List V), x = .ref a ∧ ρ[i]? = some a ∧ F a = none ∧ H a = some (.lst xs) ∧ RDs K F ρ xs ds := by
  cases r with
  | loc h1 =>
    obtain ⟨q0, xs, q1, q2⟩ := R.cell i _ _ h1 h
    exact ⟨_, xs, rfl, h1, q0, q1, q2⟩
theorem SR.wlst {i : Nat} {a : Addr} {xs : List V} {ds : List D} (R : SR K Y F ρ S H) (hi : ρ[i]? = some a) (fa : F a = none) (r : RDs K F ρ xs ds) : SR K Y F ρ (S.set i (.lst ds)) (upd H a (.lst xs)) ∧ Nx F ρ H F ρ (upd H a (.lst xs)) :=
  R.write hi fa ⟨fa, xs, upd_same, r⟩
theorem now_non {S' : Store} {H' : Hp} {Q : VK} (R : SR K Y F ρ S' H' ∧ Nx F ρ H F ρ H') (k : ∀ F' H' u, SR K Y F' ρ S' H' → Nx F ρ H F' ρ H' → RD K F' ρ u .non → Q u H') : Q .non H' := k F H' _ R.1 R.2 .non
def appendD : OpM := fun S x xs => match x, xs with
  | .loc i, [d] => match S[i]? with
    | some (.lst ds) => if ds.length < 100000 then some (.non, S.set i (.lst (ds ++ [d]))) else none
    | _ => none
  | _, _ => none
theorem smt_append : SMt Y X "list" "list.append" tyList appendD := ⟨⟨_, mt_append, fun F ρ S S' H x dx d xs ds Q R rx rxs e k => by
  match dx, ds, rxs, rx, e with
  | .loc i, [y], .cons ry .nil, rx, e =>
    have e : (match S[i]? with
      | some (.lst ds) => if ds.length < 100000 then some (D.non, S.set i (.lst (ds ++ [y]))) else none
      | _ => none) = some (d, S') := e
    cases e1 : S[i]? with
    | none => rw [e1] at e; cases e
    | some c =>
      rw [e1] at e
      cases c with
      | lst ds =>
        dsimp only at e
        obtain ⟨a, vs, rfl, hi, fa, ha, hx⟩ := cell_rd R rx e1
        by_cases h : ds.length < 100000
        · rw [if_pos h] at e; cases e
          refine ⟨a, vs, _, rfl, rfl, ha, Nat.lt_of_lt_of_le (by rw [hx.length]; exact h) (small 100000 (Nat.le_refl _)), now_non (R.wlst hi fa (hx.snoc ry)) k⟩
        · rw [if_neg h] at e; cases e
      | _ => cases e⟩, tyList_ok⟩
def insertD : OpM := fun S x xs => match x, xs with
  | .loc i, [.int j, d] => match S[i]? with
    | some (.lst ds) => if ds.length < 100000 ∧ 0 ≤ j ∧ j < 100000 then some (.non, S.set i (.lst (ds.take j.toNat ++ [d] ++ ds.drop j.toNat))) else none
    | _ => none
  | _, _ => none
theorem smt_insert : SMt Y X "list" "list.insert" tyList insertD := ⟨⟨_, mt_insert, fun F ρ S S' H x dx d xs ds Q R rx rxs e k => by
  match dx, ds, rxs, rx, e with
  | .loc i, [.int j, y], .cons (.int _) (.cons ry .nil), rx, e =>
    have e : (match S[i]? with
      | some (.lst ds) => if ds.length < 100000 ∧ 0 ≤ j ∧ j < 100000 then some (D.non, S.set i (.lst (ds.take j.toNat ++ [y] ++ ds.drop j.toNat))) else none
      | _ => none) = some (d, S') := e
    cases e1 : S[i]? with
    | none => rw [e1] at e; cases e
    | some c =>
      rw [e1] at e
      cases c with
      | lst ds =>
        dsimp only at e
        obtain ⟨a, vs, rfl, hi, fa, ha, hx⟩ := cell_rd R rx e1
        by_cases h : ds.length < 100000 ∧ 0 ≤ j ∧ j < 100000
        · rw [if_pos h] at e; cases e
          refine ⟨a, vs, j, _, rfl, rfl, ha, Nat.lt_of_lt_of_le (by rw [hx.length]; exact h.1) (small 100000 (Nat.le_refl _)), h.2.1, by omega, now_non (R.wlst hi fa (((hx.take _).snoc ry).append (hx.drop _))) k⟩
        · rw [if_neg h] at e; cases e
      | _ => cases e⟩, tyList_ok⟩
/-- o[i] = v -/
abbrev OpSet := Store → D → D → D → Option Store
def SetOk (K : PySem.W.Frag) (Y : Pc) (g : OpSet) (r : TSet) : Prop := ∀ (F : Hp) (ρ : List Addr) (S S' : Store) (H : Hp) (o i v : V) (dO dI dV : D) (Q : Hp → Prop), SR K Y F ρ S H → RD K F ρ o dO → RD K F ρ i dI → RD K F ρ v dV → g S dO dI dV = some S' →
  (∀ F' H', SR K Y F' ρ S' H' → Nx F ρ H F' ρ H' → Q H') → r o i v H Q
structure SSet (Y : Pc) (X : Cx) (g : OpSet) : Prop where
  ex : ∃ r, PSet X r ∧ SetOk X.K Y g r
def setD : OpSet := fun S o i v => match o, i with
  | .loc j, .int k => match S[j]? with
    | some (.lst ds) => (ixN ds.length k).map fun m => S.set j (.lst (ds.set m v))
    | _ => none
  | _, _ => none
theorem sset_list : SSet Y X setD := ⟨_, set_list, fun F ρ S S' H o i v dO dI dV Q R ro ri rv e k => by
  match dO, dI, ri, ro, e with
  | .loc j, .int m, .int _, ro, e =>
    have e : (match S[j]? with
      | some (.lst ds) => (ixN ds.length m).map fun m => S.set j (.lst (ds.set m dV))
      | _ => none) = some S' := e
    cases e1 : S[j]? with
    | none => rw [e1] at e; cases e
    | some c =>
      rw [e1] at e
      cases c with
      | lst ds =>
        dsimp only at e
        obtain ⟨a, vs, rfl, hi, fa, ha, hx⟩ := cell_rd R ro e1
        cases e2 : ixN ds.length m with
        | none => rw [e2] at e; cases e
        | some q =>
          rw [e2] at e; cases e
          obtain ⟨R2, n2⟩ := R.wlst hi fa (hx.set q rv)
          exact ⟨a, vs, m, q, rfl, rfl, ha, by rw [hx.length]; exact e2, k F _ R2 n2⟩
      | _ => cases e⟩
def sSetIx (g : OpSet) (re ro ri : Ev → Store → Res D) : SM := fun env S => (re env S).st env fun v S1 => (ro env S1).st env fun o S2 => (ri env S2).st env fun i S3 => match g S3 o i v with
  | some S4 => some (.nx env, S4)
  | none => none
theorem ss_setix {g : OpSet} {o i : Expr} {tpos : Pos} {re ro ri : Ev → Store → Res D} (hg : SSet Y X g) (he : SE Y X W e re) (ho : SE Y X W o ro) (hi : SE Y X W i ri)
    (ha : ∀ v, assign (.Subscript o i tpos) X.env v = (do
      let ov ← holding [v] (eval o X.env)
      let iv ← holding [v, ov] (eval i X.env)
      standAt tpos
      holding [v, ov, iv] (setItem ov iv v)
      release [v, ov, iv] []) := by intro _; rfl)
    (hs : swapsWithSole [.Subscript o i tpos] e pos.line X.env = pure false := by rfl) (hw : swappedStores [.Subscript o i tpos] e X.env = pure none := by rfl)
    (h1 : (assignEach [.Subscript o i tpos] X.env).map (·.2) = [assign (.Subscript o i tpos) X.env] := by rfl) : SS Y X W (.Assign [.Subscript o i tpos] e pos) (sSetIx g re ro ri) := by
  obtain ⟨r, g1, g2⟩ := hg.ex
  obtain ⟨te, e1, e2⟩ := he.ex
  obtain ⟨to, o1, o2⟩ := ho.ex
  obtain ⟨ti, i1, i2⟩ := hi.ex
  refine ⟨_, ps_asg e1 (pg_sub o1 i1 g1 ha) hs hw h1, fun F ρ S H σ env Z R E h => e2.thenS R E h fun d u S1 F1 ρ1 H1 R1 n1 E1 ru q1 => ?_⟩
  refine o2.thenS R1 E1 q1 fun d2 u2 S2 F2 ρ2 H2 R2 n2 E2 ru2 q2 => i2.thenS R2 E2 q2 fun d3 u3 S3 F3 ρ3 H3 R3 n3 E3 ru3 q3 => ?_
  cases e4 : g S3 d2 d3 d with
  | none => rw [e4] at q3; exact False.elim q3
  | some S4 =>
    rw [e4] at q3
    exact g2 F3 ρ3 S3 S4 H3 u2 u3 u d2 d3 d _ R3 (ru2.mono n3.ex n3.pre) ru3 ((ru.mono n2.ex n2.pre).mono n3.ex n3.pre) e4 fun F4 H4 R4 n4 => q3 F4 ρ3 H4 R4 n4 σ (E3.nx n4)
/-- o[i] op= e -/
def sAugIx (gg : Op2) (gp : Op2) (gs : OpSet) (ro ri re : Ev → Store → Res D) : SM := fun env S => (ro env S).st env fun o S1 => (ri env S1).st env fun i S2 => (lift (gg S2 o i) S2).st env fun x S3 => (re env S3).st env fun y S4 => (lift (gp S4 x y) S4).st env fun z S5 => match gs S5 o i z with
  | some S6 => some (.nx env, S6)
  | none => none
structure SGet (Y : Pc) (X : Cx) (g : Op2) : Prop where
  ex : ∃ r, PGet X r ∧ OpOk X.K Y g r
structure SIp (Y : Pc) (X : Cx) (op : Operator) (g : Op2) : Prop where
  ex : ∃ r, PIp X op r ∧ OpOk X.K Y g r
def getLD : Op2 := fun S x y => match y with
  | .int i => (seqD S x).bind fun ds => atI ds i
  | _ => none
theorem sget_list : SGet Y X getLD := ⟨_, get_list, fun F ρ S H x y dx dy d Q R rx ry e k => by
  cases ry with
  | int i => exact ixD_list R rx e k
  | _ => cases e⟩
def iaddD : Op2 := fun _ x y => match x, y with
  | .int i, .int j => some (.int (i + j))
  | .str s, .str t => if s.length + t.length ≤ 100000 then some (.str (s ++ t)) else none
  | _, _ => none
theorem sip_add : SIp Y X .Add iaddD := ⟨_, pip_of (iop_add.or iop_add_str), fun F ρ S H x y dx dy d Q R rx ry e k => by
  cases rx <;> cases ry <;> try (cases e; done)
  · cases e
    exact .inl ⟨_, _, rfl, rfl, now_int R k⟩
  · rename_i s hs t ht
    have e : (if s.length + t.length ≤ 100000 then some (D.str (s ++ t)) else none) = some d := e
    by_cases h : s.length + t.length ≤ 100000
    · rw [if_pos h] at e; cases e
      refine .inr ⟨_, _, rfl, rfl, by rw [tx_len, tx_len]; exact small _ h, ?_⟩
      rw [tx_app]
      exact now_str R (hs.app ht) k
    · rw [if_neg h] at e; cases e⟩
theorem sip_sub : SIp Y X .Sub subD := ⟨_, pip_of iop_sub, fun F ρ S H x y dx dy d Q R rx ry e k => by
  cases rx <;> cases ry <;> try (cases e; done)
  cases e
  exact ⟨_, _, rfl, rfl, now_int R k⟩⟩
def imulD : Op2 := fun _ x y => match x, y with
  | .int i, .int j => if i.natAbs < 2 ^ 64 ∨ j.natAbs < 2 ^ 64 then some (.int (i * j)) else none
  | _, _ => none
theorem sip_mul : SIp Y X .Mult imulD := ⟨_, pip_of iop_mul, fun F ρ S H x y dx dy d Q R rx ry e k => by
  cases rx <;> cases ry <;> try (cases e; done)
  rename_i i j
  have e : (if i.natAbs < 2 ^ 64 ∨ j.natAbs < 2 ^ 64 then some (D.int (i * j)) else none) = some d := e
  by_cases h : i.natAbs < 2 ^ 64 ∨ j.natAbs < 2 ^ 64
  · rw [if_pos h] at e; cases e
    refine ⟨_, _, rfl, rfl, ?_, now_int R k⟩
    rcases h with h | h
    · exact .inl ⟨by omega, by omega⟩
    · exact .inr ⟨by omega, by omega⟩
  · rw [if_neg h] at e; cases e⟩
theorem lift_st {α : Type} {o : Option α} {env : Ev} {f : α → Store → Option (Flow × Store)} {P : Flow → Store → Hp → List Addr → Hp → Prop} (h : OutS K Y F ρ H ((lift o S).st env f) P) : ∃ a, o = some a ∧ OutS K Y F ρ H (f a S) P := by
  cases o with
  | none => exact False.elim h
  | some a => exact ⟨a, rfl, h⟩
theorem ss_augix {gg gp : Op2} {gs : OpSet} {op : Operator} {o i : Expr} {tpos : Pos} {re ro ri : Ev → Store → Res D} (hg : SGet Y X gg) (hp : SIp Y X op gp) (hs : SSet Y X gs) (ho : SE Y X W o ro) (hi : SE Y X W i ri) (he : SE Y X W e re)
    (ha : ∀ ov iv new, augStore i ov iv new = (do holding [new, ov, iv] (setItem ov iv new); release [new, ov, iv] []; pure .next) := by intros; rfl) : SS Y X W (.AugAssign (.Subscript o i tpos) op e pos) (sAugIx gg gp gs ro ri re) := by
  obtain ⟨rg, g1, g2⟩ := hg.ex
  obtain ⟨rp, p1, p2⟩ := hp.ex
  obtain ⟨rs, s1, s2⟩ := hs.ex
  obtain ⟨te, e1, e2⟩ := he.ex
  obtain ⟨to, o1, o2⟩ := ho.ex
  obtain ⟨ti, i1, i2⟩ := hi.ex
  refine ⟨_, ps_augS o1 i1 g1 e1 p1 s1 ha, fun F ρ S H σ env Z R E h => o2.thenS R E h fun d u S1 F1 ρ1 H1 R1 n1 E1 ru q1 => ?_⟩
  refine i2.thenS R1 E1 q1 fun d2 u2 S2 F2 ρ2 H2 R2 n2 E2 ru2 q2 => ?_
  have ru' := ru.mono n2.ex n2.pre
  obtain ⟨x, hx, q3⟩ := lift_st q2
  refine g2 F2 ρ2 S2 H2 u u2 d d2 x _ R2 ru' ru2 hx fun F3 H3 u3 R3 n3 ru3 => ?_
  refine e2.thenS R3 (E2.nx n3) (q3.later n3) fun d4 u4 S4 F4 ρ4 H4 R4 n4 E4 ru4 q4 => ?_
  obtain ⟨z, hz, q5⟩ := lift_st q4
  have m3 := n3.trans n4
  refine p2 F4 ρ4 S4 H4 u3 u4 x d4 z _ R4 (ru3.mono n4.ex n4.pre) ru4 hz fun F5 H5 u5 R5 n5 ru5 => ?_
  have q5 := q5.later n5
  have m4 := m3.trans n5
  cases e6 : gs S4 d d2 z with
  | none => rw [e6] at q5; exact False.elim q5
  | some S6 =>
    rw [e6] at q5
    exact s2 F5 ρ4 S4 S6 H5 u u2 u5 d d2 z _ R5 (ru'.mono m4.ex m4.pre) (ru2.mono m4.ex m4.pre) ru5 e6 fun F6 H6 R6 n6 => q5 F6 ρ4 H6 R6 n6 σ ((E4.nx n5).nx n6)
/-- x op= e -/
def sAug (i : Nat) (gp : Op2) (re : Ev → Store → Res D) : SM := fun env S => (rVar i env S).st env fun x S0 => (re env S0).st env fun y S1 => (lift (gp S1 x y) S1).st env fun z S2 => some (.nx (env.set i (some z)), S2)
theorem ss_aug (i : Nat) {x : Str} {op : Operator} {gp : Op2} {pos' : Pos} {re : Ev → Store → Res D} (hp : SIp Y X op gp) (he : SE Y X W e re) (hN : X.N.Nodup) (hi : X.N[i]? = some x := by rfl) (hx : Loc X.env.scope x := by first | exact Or.inl rfl | exact Or.inr rfl) (hf : X.fn x = true ∨ X.env.scope.names.lookup x = some .local := by first | exact .inl rfl | exact .inr rfl) :
    SS Y X W (.AugAssign (.Name x pos') op e pos) (sAug i gp re) := by
  obtain ⟨rp, p1, p2⟩ := hp.ex
  obtain ⟨te, e1, e2⟩ := he.ex
  refine ⟨_, ps_aug hN hi hx e1 p1 hf, fun F ρ S H σ env Z R E h => ?_⟩
  unfold sAug rVar at h
  cases q : env[i]? with
  | none => rw [q] at h; exact False.elim h
  | some o =>
    cases o with
    | none => rw [q] at h; exact False.elim h
    | some d =>
      rw [q] at h
      obtain ⟨v, hv, rv⟩ := E.2 i d q
      refine ⟨v, hv, e2.thenS R E (Z := Z) h fun d2 u2 S2 F2 ρ2 H2 R2 n2 E2 ru2 q2 => ?_⟩
      obtain ⟨z, hz, q3⟩ := lift_st q2
      exact p2 F2 ρ2 S2 H2 v u2 d d2 z _ R2 (rv.mono n2.ex n2.pre) ru2 hz fun F3 H3 u3 R3 n3 ru3 => q3 F3 ρ2 H3 R3 n3 _ ((E2.nx n3).set i ru3)
end
end L3
set_option Elab.async false
set_option linter.all false
set_option maxRecDepth 100000
set_option maxHeartbeats 2000000
/-! in, raise, defs by their data -/
namespace L3
open PySem PySem.Spec L2
section
variable {Y : Pc} {X : Cx} {W : WX} {a b c e : Expr} {es : List Expr} {ra rb rc : Ev → Store → Res D} {rs : Ev → Store → Res (List D)} {pos : Pos} {K : PySem.W.Frag} {F H : Hp} {ρ : List Addr} {S : Store}
/-- flat things -/
def D.flt : D → Bool
  | .non => true
  | .bl _ => true
  | .int _ => true
  | .str _ => true
  | _ => false
theorem flt_V {v : V} {d : D} (r : RD K F ρ v d) (h : d.flt = true) : flatV v = true := by
  cases r <;> first | rfl | cases h
theorem flt_all : ∀ {ds : List D} {xs : List V}, RDs K F ρ xs ds → ds.all D.flt = true → xs.all flatV = true
  | [], _, h, _ => by cases h; rfl
  | d :: ds, _, h, f => by
    rw [List.all_cons, Bool.and_eq_true] at f
    cases h with
    | cons h1 h2 => rw [List.all_cons, flt_V h1 f.1, flt_all h2 f.2]; rfl
theorem eqv_V {v w : V} {d d' : D} (r : RD K F ρ v d) (r' : RD K F ρ w d') (h : d.flt = true) (h' : d'.flt = true) : eqV v w = PyData.eqv d.py d'.py := by
  cases r <;> cases r' <;> first | (cases h; done) | (cases h'; done) | skip
  all_goals simp [eqV, D.py, PyData.eqv]
theorem in_V {x : V} {dx : D} (r : RD K F ρ x dx) (f : dx.flt = true) : ∀ {ds : List D} {xs : List V}, RDs K F ρ xs ds → ds.all D.flt = true → inV x xs = ds.any fun z => PyData.eqv z.py dx.py
  | [], _, h, _ => by cases h; rfl
  | d :: ds, _, h, g => by
    rw [List.all_cons, Bool.and_eq_true] at g
    cases h with
    | cons h1 h2 =>
      have ih := in_V r f h2 g.2
      unfold inV at ih ⊢
      rw [List.any_cons, List.any_cons, ih, eqv_V h1 r g.1 f]
theorem py_any (ds : List D) (dx : D) : ((D.pys ds).any fun z => PyData.eqv z dx.py) = ds.any fun z => PyData.eqv z.py dx.py := by
  induction ds with
  | nil => rfl
  | cons d ds ih => show (PyData.eqv d.py dx.py || _) = _; rw [List.any_cons, ih]
def inB (x : D) (ds : List D) : Bool := ds.any fun z => PyData.eqv z.py x.py
/-- x in y; none where it is not told -/
def memD (S : Store) (x y : D) : Option Bool := match y with
  | .str s => match x with
    | .str [c] => some (decide (c ∈ s))
    | _ => none
  | .tup ds => if x.flt && ds.all D.flt then some (inB x ds) else none
  | y => (seqD S y).bind fun ds => if eqPre x (.lst ds) then some (inB x ds) else none
def inD2 : Op2 := fun S x y => (memD S x y).map fun b => .bl b
def ninD2 : Op2 := fun S x y => (memD S x y).map fun b => .bl (!b)
theorem dps_of : ∀ {ds : List D} {xs : List V}, Ex F H → RDs K F ρ xs ds → D.flats ds = true → DpAll K H xs (D.pys ds) ∧ PyData.canLayAll0 (D.pys ds) = true := fun e r f => RDs.dp e r f
theorem memD_list {x y : V} {dx dy : D} {b : Bool} {Q : VK} (R : SR K Y F ρ S H) (rx : RD K F ρ x dx) (ry : RD K F ρ y dy) (e : ((seqD S dy).bind fun ds => if eqPre dx (.lst ds) = true then some (inB dx ds) else none) = some b) :
    ∃ d ds, Dp K H x d ∧ Dp K H y (.list ds) ∧ SeqAt.shaped d = true ∧ SeqAt.shaped (.list ds) = true ∧ (ds.any fun z => PyData.eqv z d) = b := by
  cases e1 : seqD S dy with
  | none => rw [e1] at e; cases e
  | some ds =>
    rw [e1] at e
    have e : (if eqPre dx (.lst ds) = true then some (inB dx ds) else none) = some b := e
    by_cases h : eqPre dx (.lst ds) = true
    · rw [if_pos h] at e; cases e
      obtain ⟨f1, f2, d1, d2⟩ := eqPre_ok h
      obtain ⟨p, xs, rfl, hp, hx⟩ := seq_rd R ry e1
      obtain ⟨p1, l1⟩ := RD.dp R.ex rx f1
      obtain ⟨p2, l2⟩ := RDs.dp R.ex hx f2
      exact ⟨dx.py, D.pys ds, p1, .lst (SqL.of hp) p2, shaped_of l1 d1, shaped_of (d := .list (D.pys ds)) l2 d2, py_any ds dx⟩
    · rw [if_neg h] at e; cases e
theorem memD_of {S : Store} {x y d : D} {f : Bool → D} (e : (memD S x y).map f = some d) : ∃ b, memD S x y = some b ∧ d = f b := by
  cases h : memD S x y with
  | none => rw [h] at e; cases e
  | some b => rw [h] at e; cases e; exact ⟨b, rfl, rfl⟩
theorem room65 {k : Nat} {A : Around} (r : Room (k + 1) A) : A.units + 65 < cLine := by
  have := (r.in1).units
  have e : A.in1.units = A.units + 1 := rfl
  omega
theorem sop_in {k : Nat} (C : Ok X W (k + 1)) : SOp Y X (compareOp .In) inD2 := ⟨_, op_in_sign.or (op_in_seq.or (op_inD (room65 C.room))), fun F ρ S H x y dx dy d Q R rx ry e k => by
  obtain ⟨b, e', rfl⟩ := memD_of e
  clear e
  have e := e'
  clear e'
  unfold memD at e
  cases ry with
  | str s hs =>
    cases rx <;> try (cases e; done)
    rename_i t ht
    match t, e, ht with
    | [c], e, ht =>
      cases e
      exact .inl ⟨c, tx s, rfl, rfl, now_bl R k⟩
  | tup h1 h2 =>
    rename_i p xs ds
    have e : (if (dx.flt && ds.all D.flt) = true then some (inB dx ds) else none) = some b := e
    by_cases h : (dx.flt && ds.all D.flt) = true
    · rw [if_pos h] at e; cases e
      rw [Bool.and_eq_true] at h
      refine .inr (.inl ⟨p, xs, rfl, Or.inr (ex_t R.ex h1), flt_V rx h.1, flt_all h2 h.2, ?_⟩)
      show Q (.bl (inV x xs)) H
      rw [in_V rx h.1 h2 h.2]
      exact now_bl R k
    · rw [if_neg h] at e; cases e
  | lst h1 h2 =>
    obtain ⟨d, ds, q1, q2, q3, q4, q5⟩ := memD_list (Q := Q) R rx (.lst h1 h2) e
    exact .inr (.inr ⟨d, ds, q1, q2, q3, q4, by rw [q5]; exact now_bl R k⟩)
  | loc h1 =>
    obtain ⟨d, ds, q1, q2, q3, q4, q5⟩ := memD_list (Q := Q) R rx (.loc h1) e
    exact .inr (.inr ⟨d, ds, q1, q2, q3, q4, by rw [q5]; exact now_bl R k⟩)
  | _ => cases e⟩
theorem sop_nin {k : Nat} (C : Ok X W (k + 1)) : SOp Y X (compareOp .NotIn) ninD2 := ⟨_, op_notIn_sign.or (op_notIn_seq.or (op_notInD (room65 C.room))), fun F ρ S H x y dx dy d Q R rx ry e k => by
  obtain ⟨b, e', rfl⟩ := memD_of e
  clear e
  have e := e'
  clear e'
  unfold memD at e
  cases ry with
  | str s hs =>
    cases rx <;> try (cases e; done)
    rename_i t ht
    match t, e, ht with
    | [c], e, ht =>
      cases e
      exact .inl ⟨c, tx s, rfl, rfl, now_bl R k⟩
  | tup h1 h2 =>
    rename_i p xs ds
    have e : (if (dx.flt && ds.all D.flt) = true then some (inB dx ds) else none) = some b := e
    by_cases h : (dx.flt && ds.all D.flt) = true
    · rw [if_pos h] at e; cases e
      rw [Bool.and_eq_true] at h
      refine .inr (.inl ⟨p, xs, rfl, Or.inr (ex_t R.ex h1), flt_V rx h.1, flt_all h2 h.2, ?_⟩)
      show Q (.bl (!inV x xs)) H
      rw [in_V rx h.1 h2 h.2]
      exact now_bl R k
    · rw [if_neg h] at e; cases e
  | lst h1 h2 =>
    obtain ⟨d, ds, q1, q2, q3, q4, q5⟩ := memD_list (Q := Q) R rx (.lst h1 h2) e
    exact .inr (.inr ⟨d, ds, q1, q2, q3, q4, by rw [q5]; exact now_bl R k⟩)
  | loc h1 =>
    obtain ⟨d, ds, q1, q2, q3, q4, q5⟩ := memD_list (Q := Q) R rx (.loc h1) e
    exact .inr (.inr ⟨d, ds, q1, q2, q3, q4, by rw [q5]; exact now_bl R k⟩)
  | _ => cases e⟩

/-! tests of chains -/
theorem sb_chain {op op' : CmpOp} {g g' : Op2} (ho : SOp Y X (compareOp op) g) (ho' : SOp Y X (compareOp op') g') (ha : SE Y X W a ra) (hb : SE Y X W b rb) (hc : SE Y X W c rc)
    (hm : lastMarks [op, op'] [b, c] = false := by with_unfolding_all rfl) : SB Y X W (.Compare a [op, op'] [b, c] pos) (tOf (rChain g g' ra rb rc)) := by
  have hE := (se_chain ho ho' ha hb hc hm (pos := pos))
  obtain ⟨r, h1, h2⟩ := ho.ex
  obtain ⟨r', h1', h2'⟩ := ho'.ex
  obtain ⟨ta, a1, a2⟩ := ha.ex
  obtain ⟨tb, b1, b2⟩ := hb.ex
  obtain ⟨tc, c1, c2⟩ := hc.ex
  refine ⟨_, pt_chain h1 h1' a1 b1 c1 hm, fun F ρ S H σ env Q R E h => ?_⟩
  have h : Out X.K Y F ρ H ((rChain g g' ra rb rc env S).bind fun x S1 => match x with
    | .bl b => .ok b S1
    | _ => .stuck) (fun b _ _ _ H' => Q b H') (fun c H' => W c none σ H') := h
  unfold rChain at h
  rw [Res.bind_bind] at h
  refine a2.then R E h fun d u S1 F1 ρ1 H1 R1 n1 E1 ru o1 => ?_
  rw [Res.bind_bind] at o1
  refine b2.then R1 E1 o1 fun d' u' S2 F2 ρ2 H2 R2 n2 E2 ru' o2 => ?_
  rw [Res.bind_bind] at o2
  have o2 := o2.bind
  obtain ⟨z, hz, k⟩ := lift_out o2
  refine h2 F2 ρ2 S2 H2 u u' d d' z _ R2 (ru.mono n2.ex n2.pre) ru' hz fun F' H' w R' n' r' => ?_
  have o3 := k F' ρ2 H' R' n'
  cases r' with
  | bl kk =>
    refine ⟨kk, rfl, ?_⟩
    cases kk with
    | true =>
      have o3 : Out X.K Y F' ρ2 H' (((rc env S2).bind fun w S4 => lift (g' S4 d' w) S4).bind fun x S1 => match x with
        | .bl b => .ok b S1
        | _ => .stuck) (fun b _ _ _ H' => Q b H') (fun c H' => W c none σ H') := o3
      rw [Res.bind_bind] at o3
      refine c2.then R' (E2.nx n') o3 fun d3 u3 S4 F4 ρ4 H4 R4 n4 E4 ru3 o4 => ?_
      have o4 := o4.bind
      obtain ⟨z, hz, k⟩ := lift_out o4
      refine h2' F4 ρ4 S4 H4 u' u3 d' d3 z _ R4 ((ru'.mono n'.ex n'.pre).mono n4.ex n4.pre) ru3 hz fun F' H' u R' n' r' => ?_
      have o5 := k F' ρ4 H' R' n'
      cases r' with
      | bl b => exact ⟨b, rfl, Out.now o5 R'⟩
      | _ => exact False.elim o5
    | false => exact ⟨false, rfl, Out.now o3 R'⟩
  | _ => exact False.elim o3

/-! list(x) that will be written -/
def rListM (ra : Ev → Store → Res D) : Ev → Store → Res D := fun env S => (ra env S).bind fun d S1 => match listD S1 [d] with
  | some (.lst ds) => .ok (.loc S1.length) (S1 ++ [.lst ds])
  | _ => .stuck
theorem list_rd {x : V} {d : D} {ds : List D} (R : SR K Y F ρ S H) (r : RD K F ρ x d) (h : listD S [d] = some (.lst ds)) : ∃ (p : Addr) (ys : List V), x = .ref p ∧ (SqL K H p ys ∨ SqT K H p ys) ∧ RDs K F ρ ys ds := by
  unfold listD at h
  cases r with
  | tup h1 h2 => cases h; exact ⟨_, _, rfl, Or.inr (ex_t R.ex h1), h2⟩
  | scr h1 => cases h; exact ⟨_, _, rfl, Or.inl (ex_l R.ex h1), rd_ints _⟩
  | lst h1 h2 => cases h; exact ⟨_, _, rfl, Or.inl (SqL.of (R.ex _ _ h1)), h2⟩
  | loc h1 =>
    rename_i i a
    have h : (seqD S (.loc i)).map D.lst = some (.lst ds) := h
    cases e1 : seqD S (.loc i) with
    | none => rw [e1] at h; cases h
    | some ds =>
      rw [e1] at h; cases h
      obtain ⟨p, xs, e, hp, hx⟩ := seq_rd R (.loc h1) e1
      exact ⟨p, xs, e, Or.inl (SqL.of hp), hx⟩
  | _ => cases h
theorem se_listM {x : Str} {p : Pos} (hx : x = "list" := by rfl) (hm : X.mg "list" = none) (ha : SE Y X W a ra) (hg : Gl X "list" := by rfl)
    (he : starEach [a] X.env = (false, eval a X.env) :: starEach [] X.env := by rfl) (hpl : (backTo pos (starEach [] X.env)).any (·.1) = false := by rfl) : SE Y X W (.Call (.Name "list" p) [a] [] pos) (rListM ra) := by
  obtain ⟨ta, a1, a2⟩ := ha.ex
  refine ⟨_, pe_callTy call_list_of hg hm (by decide +kernel) (pa_cons a1 pa_nil (by rw [he])) (by decide) (by decide) he hpl, fun F ρ S H σ env Q R E h => a2.then R E h fun d u S1 F1 ρ1 H1 R1 n1 E1 ru o1 => ?_⟩
  cases e1 : listD S1 [d] with
  | none => rw [e1] at o1; exact False.elim o1
  | some z =>
    rw [e1] at o1
    cases z with
    | lst ds =>
      obtain ⟨p, ys, rfl, q, hy⟩ := list_rd R1 ru e1
      refine ⟨p, ys, rfl, q, fun l hl => ?_⟩
      have fp : F1 l = none := by
        cases e : F1 l with
        | none => rfl
        | some u => rw [R1.ex l u e] at hl; cases hl
      obtain ⟨R2, n2, e2⟩ := R1.alloc (o := .lst ys) (cc := .lst ds) hl ⟨fp, ys, upd_same, hy.mono (Ex.refl _) (pre_snoc _ _)⟩
      exact o1 _ _ _ R2 n2 _ (.loc e2)
    | _ => exact False.elim o1

/-! ### raise X('..') -/
/-- an own class of exceptions -/
structure ExcD (K : PySem.W.Frag) (mg : Str → Option Value) (x : Str) (C : Addr) : Prop where
  exc : PySem.W.excIn K C He.veBase "ValueError.__new__" = true
  g : mg x = some (.ref C)
  kp : PySem.W.keepIn K (.ref C) = true
  sb : PySem.W.subIn K (.ref C) (.type "BaseException") = some true
  ty : PySem.W.typeIn K (.ref C) = some (.type "type")
def sRaise (c : Nat) : SM := fun env S => some (.ex c env, S)
theorem ss_raise {x m : Str} {j : Nat} {p p2 pos2 : Pos} (i : Nat) (hc : X.calm = true) (tk : Takes X W) (e : ExcD X.K X.mg x (Y.xc i)) (hg : Gl X x := by rfl) (hdb : (x == ("__debug__" : Str)) = false := by decide) :
    SS Y X W (.Raise (some (.Call (.Name x p) [.Constant (.str m) j p2] [] pos)) none pos2) (sRaise i) :=
  ⟨_, ps_raise hc tk (pmk_own PySem.F.excBase_ValueError e.exc e.g e.kp (raises_own e.sb e.ty) hg hdb), fun F ρ S H σ env Z R E h => OutS.now h R σ E⟩

/-! ### a def -/
structure DefOk (P : Program) (w : World) (K : PySem.W.Frag) (mg : Str → Option Value) (base : Heap) (Y : Pc) (x : Str) (n lvl : Nat) (m : FSem) : Prop where
  ex : ∃ f fd ps, GnOk P w K mg base (L2.CX P w) lvl f fd ps (spOf K Y m n) ∧ mg x = some (.ref f) ∧ PySem.W.keepIn K (.ref f) = true ∧ Binds K fd ps []
theorem se_def {k lvl n : Nat} {m : FSem} {x : Str} {p : Pos} (C : Ok X W k) (h : DefOk X.prog X.w X.K X.mg X.base Y x n lvl m) (hj : lvl ≤ k) (ha : SA Y X W (e :: es) rs) (hl : Len n rs) (hg : Gl X x := by rfl)
    (hdb : (x == ("__debug__" : Str)) = false := by decide) (he : starEach (e :: es) X.env = (false, eval e X.env) :: starEach es X.env := by rfl) (hpl : (backTo pos (starEach es X.env)).any (·.1) = false := by rfl) :
    SE Y X W (.Call (.Name x p) (e :: es) [] pos) (rCall m rs) := by
  obtain ⟨f, fd, ps, h1, h2, h3, h4⟩ := h.ex
  exact se_call C h1 hj h2 h3 h4 ha hl hg hdb he hpl
theorem se_def0 {k lvl : Nat} {m : FSem} {x : Str} {p : Pos} (C : Ok X W k) (h : DefOk X.prog X.w X.K X.mg X.base Y x 0 lvl m) (hj : lvl ≤ k) (hg : Gl X x := by rfl)
    (hdb : (x == ("__debug__" : Str)) = false := by decide) : SE Y X W (.Call (.Name x p) [] [] pos) (rCall m rNil) := by
  obtain ⟨f, fd, ps, h1, h2, h3, h4⟩ := h.ex
  exact se_call0 C h1 hj h2 h3 h4 hg hdb
theorem fnokD {P : Program} {w : World} {mg : Str → Option Value} {base : Heap} {x qual : Str} {params : Arguments} {bd : List Stmt} {scope : Scope} {f : Addr} {fd : FuncData} {N ps : List Str} {k : Nat} (n p : Nat) {body : SM} (Fu : FunD K x qual params bd scope [] [] f fd) (S : FnScope N ps scope)
    (hn : N.length = n) (hp : ps.length = p)
    (hb : ∀ (X : Cx) (W : WX) (cdv : Value) (A : Around) (outer : List Env) (s : Shared) (H : Hp) (E : XK), X = cxOf (L2.CX P w) P w K mg base N qual scope f cdv A outer s H E → Ok X W k → PassesOwn (model X.prog X.w) X.A X.env X.xe → Takes X W → SSs Y X W bd body) :
    GnOk P w K mg base (L2.CX P w) (k + 1) f fd ps (spOf K Y (fnSem n p body) p) := by
  refine gn_of Fu S (fun vs H Q E h => by rw [hp]; exact h.1) fun cdv A outer s H vs Q E gd hr hsp => ?_
  obtain ⟨hl, F, ρ, St, ds, R, rd, o⟩ := hsp
  have tk : Takes (cxOf (L2.CX P w) P w K mg base N qual scope f cdv A outer s H E) (fun cls d _ H => E cls d H) := takes_of rfl rfl rfl rfl
  obtain ⟨t, h1, h2⟩ := (hb _ _ cdv A outer s H E rfl ⟨fun σ => passAt tk σ, rfl, hr, S.nd, gd⟩ (passes_of rfl) tk).ex
  refine ⟨t, h1, h2 F ρ St H (L2.start N vs) (ds.map some ++ List.replicate (n - p) none) _ R (by
    have := rd_rep rd (n - p)
    unfold L2.start
    rw [hn, hl]
    exact this) ?_⟩
  unfold fnSem at o
  cases e : body (ds.map some ++ List.replicate (n - p) none) St with
  | none => rw [e] at o; exact False.elim o
  | some q =>
    obtain ⟨fl, S'⟩ := q
    rw [e] at o
    cases fl with
    | nx env => exact fun F' ρ' H' R' n' σ' E' => o F' ρ' H' R' n' _ .non
    | rt d => exact o
    | bk env => exact False.elim o
    | ct env => exact False.elim o
    | ex c env => exact fun F' ρ' H' R' n' σ' E' => o F' ρ' H' R' n'
theorem defok {P : Program} {w : World} {mg : Str → Option Value} {base : Heap} {x : Str} {params : Arguments} {bd : List Stmt} {scope : Scope} {f : Addr} {fd : FuncData} {N ps : List Str} {k : Nat} (n p : Nat) {body : SM} (Fu : FunD K x x params bd scope [] [] f fd) (hm : mg x = some (.ref f)) (S : FnScope N ps scope)
    (hn : N.length = n) (hp : ps.length = p)
    (hbi : ∀ (kV doc pm : Value) (an : Option Addr) (cdv ct : Value) (us : List Value), us.length = ps.length → bindArgs (PySem.W.fnOf x x params bd scope .none kV doc pm an cdv ct) ⟨us, []⟩ = pure (ps.zip us))
    (hb : ∀ (X : Cx) (W : WX) (cdv : Value) (A : Around) (outer : List Env) (s : Shared) (H : Hp) (E : XK), X = cxOf (L2.CX P w) P w K mg base N x scope f cdv A outer s H E → Ok X W k → PassesOwn (model X.prog X.w) X.A X.env X.xe → Takes X W → SSs Y X W bd body) :
    DefOk P w K mg base Y x p (k + 1) (fnSem n p body) := ⟨f, fd, ps, fnokD n p Fu S hn hp hb, hm, Fu.kp, Fu.bindsN hbi⟩
end
end L3
set_option Elab.async false
set_option linter.all false
set_option maxRecDepth 100000
set_option maxHeartbeats 2000000
/-! the order of nested data; isinstance -/
namespace LtD
open PySem PySem.SeqAt
mutual
def ltv : PyData → PyData → Option Bool
  | .int i, .int j => some (decide (i < j))
  | .str s, .str t => some (decide (s.cps.toList < t.cps.toList))
  | .list xs, .list ys => ltvs xs ys
  | .tuple xs, .tuple ys => ltvs xs ys
  | _, _ => none
def ltvs : List PyData → List PyData → Option Bool
  | [], [] => some false
  | [], _ :: _ => some true
  | _ :: _, [] => some false
  | x :: xs, y :: ys => match ltvs xs ys with
    | none => none
    | some r => if PyData.eqv x y = true then some r else ltv x y
end
theorem ltvs_at : ∀ (xs ys : List PyData) (k : Bool), ltvs xs ys = some k → ∀ (j : Nat) (x y : PyData), xs[j]? = some x → ys[j]? = some y → PyData.eqv x y = false → ∃ r, ltv x y = some r
  | [], _, _, _, _, _, _, h, _, _ => by simp at h
  | _ :: _, [], _, _, _, _, _, _, h, _ => by simp at h
  | x :: xs, y :: ys, k, h, j, a, b, h1, h2, he => by
    unfold ltvs at h
    cases e : ltvs xs ys with
    | none => rw [e] at h; cases h
    | some r =>
      rw [e] at h
      cases j with
      | zero =>
        simp at h1 h2
        subst h1; subst h2
        have h : (if PyData.eqv x y = true then some r else ltv x y) = some k := h
        rw [if_neg (by rw [he]; simp)] at h
        exact ⟨k, h⟩
      | succ j => exact ltvs_at xs ys r e j a b (by simpa using h1) (by simpa using h2) he
/-- the library's search and ours -/
theorem first_shift {e r : Nat → Bool} {f : Bool} : ∀ (l : List Nat), firstLt e r f (l.map (· + 1)) = firstLt (fun j => e (j + 1)) (fun j => r (j + 1)) f l
  | [] => rfl
  | j :: l => by simp only [List.map_cons, firstLt, first_shift l]
theorem range_succ' (n : Nat) : List.range (n + 1) = 0 :: (List.range n).map (· + 1) := by
  rw [List.range_succ_eq_map]
def rAt (xs ys : List PyData) (j : Nat) : Bool := match xs[j]?, ys[j]? with
  | some x, some y => (ltv x y).getD false
  | _, _ => false
theorem first_eq : ∀ (xs ys : List PyData) (k : Bool), ltvs xs ys = some k → firstLt (pairEq xs ys) (rAt xs ys) (decide (xs.length < ys.length)) (List.range (min xs.length ys.length)) = k
  | [], [], k, h => by cases h; rfl
  | [], y :: ys, k, h => by cases h; simp [firstLt]
  | x :: xs, [], k, h => by cases h; simp [firstLt]
  | x :: xs, y :: ys, k, h => by
    unfold ltvs at h
    cases e : ltvs xs ys with
    | none => rw [e] at h; cases h
    | some r =>
      rw [e] at h
      have h : (if PyData.eqv x y = true then some r else ltv x y) = some k := h
      have ih := first_eq xs ys r e
      have hm : min (x :: xs).length (y :: ys).length = min xs.length ys.length + 1 := by simp only [List.length_cons]; omega
      rw [hm, range_succ']
      have p0 : pairEq (x :: xs) (y :: ys) 0 = PyData.eqv x y := rfl
      have ps : (fun j => pairEq (x :: xs) (y :: ys) (j + 1)) = pairEq xs ys := rfl
      have rs : (fun j => rAt (x :: xs) (y :: ys) (j + 1)) = rAt xs ys := by
        funext j
        simp [rAt]
      have ds : decide ((x :: xs).length < (y :: ys).length) = decide (xs.length < ys.length) := by simp
      by_cases hxy : PyData.eqv x y = true
      · rw [if_pos hxy] at h; cases h
        rw [firstLt_yes (by rw [p0]; exact hxy), first_shift, ps, rs, ds]
        exact ih
      · rw [if_neg hxy] at h
        rw [firstLt_no (by rw [p0]; simpa using hxy)]
        simp [rAt, h]
theorem rall_get {h : Heap} : ∀ {xs : List PyData} {vs : List Value} {as : List Addr} {j : Nat}, ReadsAll h vs xs as → j < vs.length → ∃ x v bs, xs[j]? = some x ∧ vs[j]? = some v ∧ Reads h v x bs
  | [], _, _, _, r, hl => by cases r; exact absurd hl (Nat.not_lt_zero _)
  | x :: xs, _, _, j, r, hl => by
    cases r with
    | cons r1 r2 =>
      cases j with
      | zero => exact ⟨x, _, _, rfl, rfl, r1⟩
      | succ j =>
        obtain ⟨y, v, bs, h1, h2, h3⟩ := rall_get (j := j) r2 (by simpa using hl)
        exact ⟨y, v, bs, by simpa using h1, by simpa using h2, h3⟩
theorem depth_mem : ∀ {xs : List PyData} {j : Nat} {x : PyData}, xs[j]? = some x → x.depth ≤ PyData.depthAll xs
  | [], _, _, h => by simp at h
  | y :: ys, 0, x, h => by
    simp at h; subst h
    simp only [PyData.depthAll]; omega
  | y :: ys, j + 1, x, h => by
    have := depth_mem (xs := ys) (j := j) (x := x) (by simpa using h)
    simp only [PyData.depthAll]; omega
theorem lay_mem : ∀ {xs : List PyData} {j : Nat} {x : PyData}, PyData.canLayAll0 xs = true → xs[j]? = some x → x.canLay0 = true
  | [], _, _, _, h => by simp at h
  | y :: ys, 0, x, q, h => by
    simp at h; subst h
    simp only [PyData.canLayAll0, Bool.and_eq_true] at q
    exact q.1
  | y :: ys, j + 1, x, q, h => by
    simp only [PyData.canLayAll0, Bool.and_eq_true] at q
    exact lay_mem (xs := ys) (j := j) q.2 (by simpa using h)
theorem rcLt_reads : ∀ (n : Nat) (da db : PyData) (A : Around) (s : Shared) (a b : Value) (as bs : List Addr) (k : Bool), da.depth ≤ n → Reads s.heap a da as → Reads s.heap b db bs → da.canLay0 = true → db.canLay0 = true →
    A.units + n < cLine → ltv da db = some k → RcLt A s a b k := by
  intro n
  induction n with
  | zero =>
    intro da db A s a b as bs k hd ra rb la lb hu h
    cases da <;> cases db <;> first | (simp [ltv] at h; done) | skip
    · cases ra; cases rb
      simp [ltv] at h; subst h
      exact fun prog w E Q q => PyProof.Rows.lt_int q
    · cases ra; cases rb
      simp only [ltv, Option.some.injEq] at h; subst h
      exact fun prog w E Q q => PyProof.Rows.lt_str q
    · simp [PyData.depth] at hd
    · simp [PyData.depth] at hd
  | succ n ih =>
    intro da db A s a b as bs k hd ra rb la lb hu h
    have main : ∀ (xs ys : List PyData) (vs ws : Array Value) (as bs : List Addr), PyData.depthAll xs ≤ n → ReadsAll s.heap vs.toList xs as → ReadsAll s.heap ws.toList ys bs → PyData.canLayAll0 xs = true → PyData.canLayAll0 ys = true → ltvs xs ys = some k →
        (∀ j (h1 : j < vs.size) (h2 : j < ws.size), EqAt A.in1 s vs[j] ws[j] (pairEq xs ys j)) ∧ (∀ j (h1 : j < vs.size) (h2 : j < ws.size), pairEq xs ys j = false → RcLt A.in1 s vs[j] ws[j] (rAt xs ys j)) ∧
        firstLt (pairEq xs ys) (rAt xs ys) (decide (vs.size < ws.size)) (List.range (min vs.size ws.size)) = k := by
      intro xs ys vs ws as bs hdn r1 r2 l1 l2 hk
      have n1 : vs.size = xs.length := by have := SeqAt.ReadsAll.length xs vs.toList as r1; simpa using this
      have n2 : ws.size = ys.length := by have := SeqAt.ReadsAll.length ys ws.toList bs r2; simpa using this
      have hin : A.in1.units = A.units + 1 := rfl
      refine ⟨fun j h1 h2 => ?_, fun j h1 h2 he => ?_, by rw [n1, n2]; exact first_eq xs ys k hk⟩
      · have := eqAt_readsAll xs ys A.in1 s vs.toList ws.toList _ _ r1 r2 l1 l2 (by rw [hin]; omega) j (by simpa using h1) (by simpa using h2)
        simpa using this
      · obtain ⟨x, v, b1, e1, e2, e3⟩ := rall_get (j := j) r1 (by simpa using h1)
        obtain ⟨y, w, b2, g1, g2, g3⟩ := rall_get (j := j) r2 (by simpa using h2)
        have ev : vs[j] = v := by
          have : vs.toList[j]? = some vs[j] := by simp [h1]
          rw [this] at e2; exact Option.some.inj e2
        have ew : ws[j] = w := by
          have : ws.toList[j]? = some ws[j] := by simp [h2]
          rw [this] at g2; exact Option.some.inj g2
        rw [ev, ew]
        have hxy : PyData.eqv x y = false := by
          have : pairEq xs ys j = PyData.eqv x y := by
            have hp : ∀ (xs ys : List PyData) (j : Nat) (x y : PyData), xs[j]? = some x → ys[j]? = some y → pairEq xs ys j = PyData.eqv x y := by
              intro xs
              induction xs with
              | nil => intro ys j x y h; simp at h
              | cons a xs ih2 =>
                intro ys j x y h1 h2
                cases ys with
                | nil => simp at h2
                | cons b ys =>
                  cases j with
                  | zero => simp at h1 h2; subst h1; subst h2; rfl
                  | succ j => exact ih2 ys j x y (by simpa using h1) (by simpa using h2)
            exact hp xs ys j x y e1 g1
          rw [← this]; exact he
        obtain ⟨r, hr⟩ := ltvs_at xs ys k hk j x y e1 g1 hxy
        have er : rAt xs ys j = r := by simp [rAt, e1, g1, hr]
        rw [er]
        exact ih x y A.in1 s v w b1 b2 r (Nat.le_trans (depth_mem e1) hdn) e3 g3 (lay_mem l1 e1) (lay_mem l2 g1) (by rw [hin]; omega) hr
    cases da <;> cases db <;> first | (simp [ltv] at h; done) | skip
    · cases ra; cases rb
      simp [ltv] at h; subst h
      exact fun prog w E Q q => PyProof.Rows.lt_int q
    · cases ra; cases rb
      simp only [ltv, Option.some.injEq] at h; subst h
      exact fun prog w E Q q => PyProof.Rows.lt_str q
    · rename_i xs ys
      have hk : ltvs xs ys = some k := by simpa [ltv] using h
      cases ra with
      | list h1 h2 h3 h4 =>
        cases rb with
        | list g1 g2 g3 g4 =>
          obtain ⟨m1, m2, m3⟩ := main xs ys _ _ _ _ (by simp [PyData.depth] at hd; omega) h4 g4 la lb hk
          rw [← m3]
          exact RcLt.lists ⟨_, h1, h2, _, h3⟩ ⟨_, g1, g2, _, g3⟩ (by omega) m1 m2
    · rename_i xs ys
      have hk : ltvs xs ys = some k := by simpa [ltv] using h
      cases ra with
      | tuple h1 h2 h3 h4 =>
        cases rb with
        | tuple g1 g2 g3 g4 =>
          obtain ⟨m1, m2, m3⟩ := main xs ys _ _ _ _ (by simp [PyData.depth] at hd; omega) h4 g4 la lb hk
          rw [← m3]
          exact RcLt.tuples ⟨_, h1, h2, _, h3⟩ ⟨_, g1, g2, _, g3⟩ (by omega) m1 m2
end LtD

namespace L3
open PySem PySem.Spec L2
section
variable {Y : Pc} {X : Cx} {W : WX} {a b c e : Expr} {ra rb rc : Ev → Store → Res D} {pos : Pos} {K : PySem.W.Frag} {F H : Hp} {ρ : List Addr} {S : Store}
def rLtD (K : PySem.W.Frag) : R2 := fun x y H Q => ∃ d e k, Dp K H x d ∧ Dp K H y e ∧ d.canLay0 = true ∧ e.canLay0 = true ∧ d.depth ≤ 60 ∧ LtD.ltv d e = some k ∧ Q (.bl k) H
theorem op_ltD (hu : X.A.units + 64 < cLine) : OpR X (compareOp .Lt) (rLtD X.K) := by
  intro pins s σ H x y v u Q I rx ry h
  obtain ⟨d, e, k, hd, he, ld, le, dd, hk, q⟩ := h
  obtain ⟨as, r1⟩ := Dp.reads I d x v hd rx
  obtain ⟨bs, r2⟩ := Dp.reads I e y u he ry
  exact LtD.rcLt_reads 60 d e X.A s v u as bs k dd r1 r2 ld le (by omega) hk X.prog X.w X.xe _ ⟨.bl k, H, I, rfl, q⟩
def ltDD : Op2 := fun S x y => match x, y with
  | .int i, .int j => some (.bl (decide (i < j)))
  | .str s, .str t => some (.bl (lt2 s t))
  | _, _ => if eqPre (unloc S x) (unloc S y) = true then (LtD.ltv (unloc S x).py (unloc S y).py).map fun k => .bl k else none
theorem ltDD_deep {x y : V} {dx dy d : D} {Q : VK} (R : SR K Y F ρ S H) (rx : RD K F ρ x dx) (ry : RD K F ρ y dy) (e : (if eqPre (unloc S dx) (unloc S dy) = true then (LtD.ltv (unloc S dx).py (unloc S dy).py).map fun k => D.bl k else none) = some d)
    (k : ∀ F' H' u, SR K Y F' ρ S H' → Nx F ρ H F' ρ H' → RD K F' ρ u d → Q u H') : rLtD K x y H Q := by
  by_cases h : eqPre (unloc S dx) (unloc S dy) = true
  · rw [if_pos h] at e
    obtain ⟨f1, f2, d1, d2⟩ := eqPre_ok h
    obtain ⟨p1, l1⟩ := dp_un R rx f1
    obtain ⟨p2, l2⟩ := dp_un R ry f2
    cases e1 : LtD.ltv (unloc S dx).py (unloc S dy).py with
    | none => rw [e1] at e; cases e
    | some b =>
      rw [e1] at e; cases e
      exact ⟨_, _, b, p1, p2, l1, l2, d1, e1, now_bl R k⟩
  · rw [if_neg h] at e; cases e
theorem sop_ltA {k : Nat} (C : Ok X W k) : SOp Y X (compareOp .Lt) ltDD := ⟨_, op_lt.or (op_lt_str.or (op_ltD C.room.units)), fun F ρ S H x y dx dy d Q R rx ry e k => by
  cases rx with
  | int i =>
    cases ry with
    | int j => cases e; exact .inl ⟨_, _, rfl, rfl, now_bl R k⟩
    | non => exact .inr (.inr (ltDD_deep R (.int i) .non e k))
    | bl b => exact .inr (.inr (ltDD_deep R (.int i) (.bl b) e k))
    | str s hs => exact .inr (.inr (ltDD_deep R (.int i) (.str s hs) e k))
    | lst h1 h2 => exact .inr (.inr (ltDD_deep R (.int i) (.lst h1 h2) e k))
    | tup h1 h2 => exact .inr (.inr (ltDD_deep R (.int i) (.tup h1 h2) e k))
    | loc h1 => exact .inr (.inr (ltDD_deep R (.int i) (.loc h1) e k))
    | scr h1 => exact .inr (.inr (ltDD_deep R (.int i) (.scr h1) e k))
    | dct a b c => exact .inr (.inr (ltDD_deep R (.int i) (.dct a b c) e k))
  | str s hs =>
    cases ry with
    | str t ht => cases e; exact .inr (.inl ⟨_, _, rfl, rfl, now_bl R k⟩)
    | non => exact .inr (.inr (ltDD_deep R (.str s hs) .non e k))
    | bl b => exact .inr (.inr (ltDD_deep R (.str s hs) (.bl b) e k))
    | int j => exact .inr (.inr (ltDD_deep R (.str s hs) (.int j) e k))
    | lst h1 h2 => exact .inr (.inr (ltDD_deep R (.str s hs) (.lst h1 h2) e k))
    | tup h1 h2 => exact .inr (.inr (ltDD_deep R (.str s hs) (.tup h1 h2) e k))
    | loc h1 => exact .inr (.inr (ltDD_deep R (.str s hs) (.loc h1) e k))
    | scr h1 => exact .inr (.inr (ltDD_deep R (.str s hs) (.scr h1) e k))
    | dct a b c => exact .inr (.inr (ltDD_deep R (.str s hs) (.dct a b c) e k))
  | non => exact .inr (.inr (ltDD_deep R .non ry e k))
  | bl b => exact .inr (.inr (ltDD_deep R (.bl b) ry e k))
  | lst h1 h2 => exact .inr (.inr (ltDD_deep R (.lst h1 h2) ry e k))
  | tup h1 h2 => exact .inr (.inr (ltDD_deep R (.tup h1 h2) ry e k))
  | loc h1 => exact .inr (.inr (ltDD_deep R (.loc h1) ry e k))
  | dct a b c => exact .inr (.inr (ltDD_deep R (.dct a b c) ry e k))
  | scr h1 => exact .inr (.inr (ltDD_deep R (.scr h1) ry e k))⟩

/-! ### isinstance(x, T), T one of int, bool, str, tuple, list -/
inductive Tn where
  | int | bool | str | tuple | list
  deriving DecidableEq
def Tn.s : Tn → String
  | .int => "int" | .bool => "bool" | .str => "str" | .tuple => "tuple" | .list => "list"
def tnD (S : Store) : D → Option (Option Tn)
  | .non => some none
  | .bl _ => some (some .bool)
  | .int _ => some (some .int)
  | .str _ => some (some .str)
  | .lst _ => some (some .list)
  | .tup _ => some (some .tuple)
  | .loc i => match S[i]? with
    | some (.lst _) => some (some .list)
    | _ => none
  | .scr _ => none
  | .dct _ _ => none
def isT (o : Option Tn) (t : Tn) : Bool := match o with
  | none => false
  | some u => decide (u = t) || (decide (u = .bool) && decide (t = .int))
def isiD (t : Tn) : Op1 := fun S x => (tnD S x).map fun o => .bl (isT o t)
theorem kit_tab : ∀ (u t : Tn), kitB u.s t.s = some (isT (some u) t) := by
  intro u t
  cases u <;> cases t <;> decide +kernel
theorem kit_non : ∀ (t : Tn), kitB "NoneType" t.s = some (isT none t) := by
  intro t
  cases t <;> decide +kernel
theorem ty_of {x : V} {d : D} {o : Option Tn} (R : SR K Y F ρ S H) (r : RD K F ρ x d) (h : tnD S d = some o) : ∃ t : String, TyX K H x (.type t) ∧ ∀ u : Tn, kitB t u.s = some (isT o u) := by
  cases r with
  | non => cases h; exact ⟨_, .base .non, kit_non⟩
  | bl b => cases h; exact ⟨_, .base (.bl b), kit_tab .bool⟩
  | int i => cases h; exact ⟨_, .base (.int i), kit_tab .int⟩
  | str s hs => cases h; exact ⟨_, .base (.str _), kit_tab .str⟩
  | lst h1 h2 => cases h; exact ⟨_, .base (.lst (R.ex _ _ h1)), kit_tab .list⟩
  | tup h1 h2 =>
    cases h
    rcases h1 with (h1 | ⟨o, h1⟩) | ⟨o, its, n, h1, h3, _⟩
    · exact ⟨_, .base (.tup (R.ex _ _ h1)), kit_tab .tuple⟩
    · exact ⟨_, .fTuple (R.ex _ _ h1), kit_tab .tuple⟩
    · exact ⟨_, .kTuple h1 h3, kit_tab .tuple⟩
  | loc h1 =>
    rename_i i p
    unfold tnD at h
    dsimp only at h
    cases e : S[i]? with
    | none => rw [e] at h; cases h
    | some c =>
      rw [e] at h
      cases c with
      | lst ds =>
        cases h
        obtain ⟨_, xs, q1, _⟩ := R.cell i p _ h1 e
        exact ⟨_, .base (.lst q1), kit_tab .list⟩
      | _ => cases h
  | scr h1 => cases h
  | dct a b c => cases h
theorem boot_tn : ∀ t : Tn, bootBuiltins (Str.ofString t.s) = some (.type t.s) := by
  intro t
  cases t <;> decide +kernel
theorem se_isi {x T : Str} {p p2 : Pos} (t : Tn) (hT : T = Str.ofString t.s := by rfl) (hx : x = "isinstance" := by rfl) (hm : X.mg "isinstance" = none) (hmT : X.mg T = none) (ha : SE Y X W a ra) (hg : Gl X x := by rfl) (hgT : Gl X T := by rfl)
    (hn : T ≠ "__name__" := by decide) (hd : (T == ("__debug__" : Str)) = false := by decide) (he : starEach [a, .Name T p2] X.env = (false, eval a X.env) :: starEach [.Name T p2] X.env := by rfl) (he2 : starEach [.Name T p2] X.env = (false, eval (.Name T p2) X.env) :: starEach [] X.env := by rfl)
    (hpl : (backTo pos (starEach [.Name T p2] X.env)).any (·.1) = false := by rfl) : SE Y X W (.Call (.Name x p) [a, .Name T p2] [] pos) (r1 (isiD t) ra) := by
  subst hx
  obtain ⟨ta, a1, a2⟩ := ha.ex
  have pT : PE X (.Name T p2) (tC (.ty t.s)) := pe_bltn hgT hmT (by rw [hT]; exact boot_tn t) rfl hn hd
  refine ⟨_, pe_callB call_isi hg hm (by decide +kernel) (pa_cons a1 (pa_cons pT pa_nil he2) he) (by decide) (by decide) he hpl, fun F ρ S H σ env Q R E h => a2.then R E h fun d u S1 F1 ρ1 H1 R1 n1 E1 ru o1 => ?_⟩
  obtain ⟨z, hz, k⟩ := lift_out o1
  unfold isiD at hz
  cases e : tnD S1 d with
  | none => rw [e] at hz; cases hz
  | some o =>
    rw [e] at hz; cases hz
    obtain ⟨s, h1, h2⟩ := ty_of R1 ru e
    exact ⟨u, .ty t.s, .type s, .type t.s, isT o t, rfl, .ty _, h1, kit_ty (h2 t), now_bl R1 fun F' H' u R' n' r' => k F' ρ1 H' R' n' u r'⟩
end
end L3
set_option Elab.async false
set_option linter.all false
set_option maxRecDepth 100000
set_option maxHeartbeats 2000000
/-! the module's constants -/
namespace L3
open PySem PySem.Spec L2
section
variable {Y : Pc} {X : Cx} {W : WX} {pos : Pos} {K : PySem.W.Frag} {F H : Hp} {ρ : List Addr}
theorem okT_of {l : List Nat} (ho : l.all (fun c => decide (c < 1114112)) = true) : OkT l := fun c hc => of_decide_eq_true (List.all_eq_true.mp ho c hc)
theorem se_gstr {x z : Str} {l : List Nat} (h : ∃ t, X.mg x = some (.str z t)) (hz : z.cps.toList = l := by decide +kernel) (ho : l.all (fun c => decide (c < 1114112)) = true := by decide +kernel) (hg : Gl X x := by rfl) (hd : (x == ("__debug__" : Str)) = false := by decide) : SE Y X W (.Name x pos) (rC (.str l)) := by
  obtain ⟨t, h⟩ := h
  refine se_glob hg h (v := .str z) ⟨t, rfl⟩ (fun F ρ => ?_) hd
  rw [tx_of hz]
  exact .str l (okT_of ho)
theorem se_gint {x : Str} {i : Int} (h : ∃ t, X.mg x = some (.int i t)) (hg : Gl X x := by rfl) (hd : (x == ("__debug__" : Str)) = false := by decide) : SE Y X W (.Name x pos) (rC (.int i)) := by
  obtain ⟨t, h⟩ := h
  exact se_glob hg h (v := .int i) ⟨t, rfl⟩ (fun F ρ => .int i) hd
theorem rds_strs : ∀ (ls : List (List Nat)), ls.all (fun l => l.all (fun c => decide (c < 1114112))) = true → RDs K F ρ (ls.map fun l => .str (tx l)) (ls.map .str)
  | [], _ => .nil
  | l :: ls, h => by
    rw [List.all_cons, Bool.and_eq_true] at h
    exact .cons (.str l (okT_of h.1)) (rds_strs ls h.2)
theorem se_gtup {x : Str} {ls : List (List Nat)} (h : ∃ a, X.mg x = some (.ref a) ∧ ∀ H, SqT X.K H a (ls.map fun l => .str (tx l))) (ho : ls.all (fun l => l.all (fun c => decide (c < 1114112))) = true := by decide +kernel) (hg : Gl X x := by rfl) (hd : (x == ("__debug__" : Str)) = false := by decide) : SE Y X W (.Name x pos) (rC (.tup (ls.map .str))) := by
  obtain ⟨a, h1, h2⟩ := h
  exact se_glob hg h1 (v := .ref a) rfl (fun F ρ => .tup (h2 F) (rds_strs ls ho)) hd
end
end L3
namespace L2
open PySem PySem.Spec PyProof.Rows
theorem vals_signs : ∀ (l : List Nat) (us : List Value), l.length = us.length → (∀ (i : Nat) (v : Value), us[i]? = some v → ∃ c u, l[i]? = some c ∧ v = .str ⟨#[c]⟩ u) → Vals (l.map fun c => V.str ⟨#[c]⟩) us
  | [], [], _, _ => .nil
  | [], _ :: _, h, _ => by simp at h
  | _ :: _, [], h, _ => by simp at h
  | c :: l, u :: us, h, k => by
    obtain ⟨c', t, e1, e2⟩ := k 0 u rfl
    simp at e1
    subst e1
    exact .cons ⟨t, e2⟩ (vals_signs l us (by simpa using h) fun i v e => by
      obtain ⟨c2, t2, h1, h2⟩ := k (i + 1) v (by simpa using e)
      exact ⟨c2, t2, by simpa using h1, h2⟩)
theorem call_list_S {X : Cx} (hc : X.calm = true) : CallR X (.type "list") (fun xs H Q => ∃ x, xs = [.str x] ∧ x.length ≤ sizeLine ∧ ∀ l, H l = none → Q (.ref l) (upd H l (.lst (x.cps.toList.map fun c => .str ⟨#[c]⟩)))) := by
  intro pins s σ H xs us Q I r h
  obtain ⟨x, rfl, hz, q⟩ := h
  obtain ⟨u, rfl, rx⟩ := vals1 r
  obtain ⟨t, rfl⟩ := rx
  have hz' : x.cps.size ≤ sizeLine := hz
  refine call_list_str (I.ok.hd hc) x t (fun h' tk acc c' kp e hi => ?_) hz'
  obtain ⟨hs, hv⟩ := hi
  refine ⟨.ref s.heap.objs.size, _, I.laid (t' := tk) kp (Nat.le_refl _) (show ObjOk X.prog X.w _ h' _ (.lst (x.cps.toList.map fun c => .str ⟨#[c]⟩)) from ⟨by simpa using hz', acc.toList, c', ?_, by simpa using e⟩), rfl, q _ (I.hok.fresh (Nat.le_refl _))⟩
  refine vals_signs _ _ (by simpa using hs.symm) fun i v hiv => ?_
  obtain ⟨c, u, h1, h2⟩ := hv i v (by simpa using hiv)
  exact ⟨c, u, by simpa using h1, h2⟩
end L2
namespace L3
open PySem PySem.Spec L2
section
variable {Y : Pc} {X : Cx} {W : WX} {pos : Pos} {K : PySem.W.Frag} {F H : Hp} {ρ : List Addr}
def listSD : OpN := fun _ xs => match xs with
  | [.str s] => if s.length ≤ 100000 then some (.lst (s.map fun c => .str [c])) else none
  | _ => none
theorem rds_signs : ∀ (s : List Nat), OkT s → RDs K F ρ (s.map fun c => V.str ⟨#[c]⟩) (s.map fun c => D.str [c])
  | [], _ => .nil
  | c :: s, h => .cons (.str [c] fun c' hc => by rw [List.mem_singleton.mp hc]; exact h c List.mem_cons_self) (rds_signs s fun c' hc => h c' (List.mem_cons_of_mem _ hc))
theorem scall_listS {k : Nat} (C : Ok X W k) : SCall Y X (.type "list") listSD := ⟨_, call_list_S C.calm, fun F ρ S H xs ds d Q R rx e k => by
  match ds, rx, e with
  | [.str s], .cons (.str _ hs) .nil, e =>
    have e : (if s.length ≤ 100000 then some (D.lst (s.map fun c => D.str [c])) else none) = some d := e
    by_cases h : s.length ≤ 100000
    · rw [if_pos h] at e; cases e
      exact ⟨_, rfl, by rw [tx_len]; exact small _ h, fun l hl => now_lst R (rds_signs s hs) hl k⟩
    · rw [if_neg h] at e; cases e⟩
def listA : OpN := fun S xs => (listD S xs).or (listSD S xs)
theorem scall_listA {k : Nat} (C : Ok X W k) : SCall Y X (.type "list") listA := scall_list.or (scall_listS C)
/-- sep.join(list or tuple of texts) -/
def strsOf : List D → Option (List (List Nat))
  | [] => some []
  | .str s :: ds => (strsOf ds).map (s :: ·)
  | _ :: _ => none
theorem strs_rd : ∀ {ds : List D} {xs : List V} {ls : List (List Nat)}, RDs K F ρ xs ds → strsOf ds = some ls → xs = (ls.map tx).map V.str ∧ ∀ l ∈ ls, OkT l
  | [], _, _, h, e => by cases h; cases e; exact ⟨rfl, fun _ h => by simp at h⟩
  | d :: ds, _, ls, h, e => by
    cases h with
    | cons h1 h2 =>
      cases h1 with
      | str s hs =>
        have e : (strsOf ds).map (s :: ·) = some ls := e
        cases e2 : strsOf ds with
        | none => rw [e2] at e; cases e
        | some ms =>
          rw [e2] at e
          cases e
          obtain ⟨q1, q2⟩ := strs_rd h2 e2
          exact ⟨by simp [q1], fun l hl => by
            rcases List.mem_cons.mp hl with z | z
            · rw [z]; exact hs
            · exact q2 l z⟩
      | _ => cases e
theorem okT_join {sep : List Nat} (hs : OkT sep) : ∀ (ls : List (List Nat)), (∀ l ∈ ls, OkT l) → OkT (TL.joinL sep ls)
  | [], _ => fun c h => by simp [TL.joinL] at h
  | [x], h => h x (by simp)
  | x :: y :: r, h => (h x (by simp)).app (hs.app (okT_join hs (y :: r) fun l hl => h l (List.mem_cons_of_mem _ hl)))
theorem tx_join (sep : List Nat) (ls : List (List Nat)) : Txt.join (tx sep) (ls.map tx) = tx (TL.joinL sep ls) := by
  rw [TL.join_eq]
  refine TL.ext_tl ?_
  rw [TL.tl_join, List.map_map]
  show TL.joinL sep (ls.map ((fun x : Str => x.cps.toList) ∘ tx)) = TL.joinL sep ls
  congr 1
  exact List.map_id _
def joinD : OpM := fun S x xs => match x, xs with
  | .str s, [.lst ds] => match strsOf ds with
    | some ls => if (ls.map List.length).sum + ls.length * s.length ≤ 100000 then some (.str (TL.joinL s ls), S) else none
    | none => none
  | _, _ => none
theorem smt_join : SMt Y X "str" "str.join" tyStr joinD := ⟨⟨_, mt_join, fun F ρ S S' H x dx d xs ds Q R rx rxs e k => by
  match dx, ds, rxs, rx, e with
  | .str s, [.lst ds], .cons (.lst h1 h2) .nil, .str _ hs, e =>
    have e : (match strsOf ds with
      | some ls => if (ls.map List.length).sum + ls.length * s.length ≤ 100000 then some (D.str (TL.joinL s ls), S) else none
      | none => none) = some (d, S') := e
    cases e1 : strsOf ds with
    | none => rw [e1] at e; cases e
    | some ls =>
      rw [e1] at e
      dsimp only at e
      by_cases h : (ls.map List.length).sum + ls.length * s.length ≤ 100000
      · rw [if_pos h] at e; cases e
        obtain ⟨q1, q2⟩ := strs_rd h2 e1
        subst q1
        have hlen : ((ls.map tx).map (·.length)).sum + (ls.map tx).length * (tx s).length ≤ 16777216 := by
          rw [List.map_map]
          have : ((fun x : Str => x.length) ∘ tx) = List.length := by funext l; exact tx_len l
          rw [this, List.length_map, tx_len]
          omega
        refine ⟨tx s, _, ls.map tx, rfl, rfl, .inl (SqL.of (R.ex _ _ h1)), hlen, ?_⟩
        rw [tx_join]
        exact now_str R (okT_join hs ls q2) k
      · rw [if_neg h] at e; cases e⟩, tyStr_ok⟩
end
end L3
set_option Elab.async false
set_option linter.all false
set_option maxRecDepth 100000
set_option maxHeartbeats 2000000
/-! whatever is walked -/
namespace L3
open PySem PySem.Spec L2
section
variable {Y : Pc} {X : Cx} {W : WX} {a tg iter : Expr} {ra : Ev → Store → Res D} {pos : Pos} {K : PySem.W.Frag} {F H : Hp} {ρ : List Addr}
def iAny (ra : Ev → Store → Res D) : Ev → Store → Res (List D) := fun env S => (ra env S).bind fun d S1 => match d with
  | .lst ds => .ok ds S1
  | .tup ds => .ok ds S1
  | .str s => .ok (s.map fun c => .str [c]) S1
  | _ => .stuck
theorem walks_str (s : List Nat) (hs : OkT s) : WalksJ K Y (Its (tx s)) F ρ (s.map fun c => .str [c]) := fun F2 ρ2 S2 H2 e p R2 i => by
  refine ⟨fun d hd => ?_, fun hi => ?_⟩
  · rw [List.getElem?_map] at hd
    cases q : s[i]? with
    | none => rw [q] at hd; cases hd
    | some c =>
      rw [q] at hd; cases hd
      have hl := (List.getElem?_eq_some_iff.mp q).1
      refine ⟨by show i < s.toArray.size; simpa using hl, fun x H' y => ?_⟩
      obtain ⟨rfl, c', e1, rfl⟩ := y
      have e1 : s.toArray[i]? = some c' := e1
      simp only [List.getElem?_toArray] at e1
      rw [q] at e1; cases e1
      exact ⟨F2, R2, Nx.refl _ _ _, .str [c] (fun c' h => by rw [List.mem_singleton.mp h]; exact hs _ (List.mem_of_getElem? q))⟩
  · show s.toArray.size ≤ i
    simpa using hi
theorem si_any (ha : SE Y X W iter ra) : SI Y X W tg iter (iAny ra) := by
  obtain ⟨ta, a1, a2⟩ := ha.ex
  refine ⟨_, (pi_list a1).or ((pi_tup a1).or (pi_str a1)), fun F ρ S H σ env Q R E h => ?_⟩
  have h' := h
  unfold iAny at h'
  cases e : ra env S with
  | stuck => rw [e] at h'; exact False.elim h'
  | exc c S1 =>
    refine .inl (a2 F ρ S H σ env _ R E ?_)
    rw [e] at h' ⊢
    exact h'
  | ok d S1 =>
    rw [e] at h'
    cases d with
    | lst ds =>
      refine .inl (a2 F ρ S H σ env _ R E ?_)
      rw [e]
      intro F1 ρ1 H1 R1 n1 u ru
      cases ru with
      | lst h1 h2 => exact ⟨_, rfl, ⟨_, SqL.of (R1.ex _ _ h1)⟩, h' F1 ρ1 H1 R1 n1 _ (walks_list (SqL.of h1) h2)⟩
    | tup ds =>
      refine .inr (.inl (a2 F ρ S H σ env _ R E ?_))
      rw [e]
      intro F1 ρ1 H1 R1 n1 u ru
      cases ru with
      | tup h1 h2 => exact ⟨_, rfl, ⟨_, ex_t R1.ex h1⟩, h' F1 ρ1 H1 R1 n1 _ (walks_tup h1 h2)⟩
    | str s =>
      refine .inr (.inr (a2 F ρ S H σ env _ R E ?_))
      rw [e]
      intro F1 ρ1 H1 R1 n1 u ru
      cases ru with
      | str _ hs => exact ⟨_, rfl, h' F1 ρ1 H1 R1 n1 _ (walks_str s hs)⟩
    | _ => exact False.elim h'
end
end L3
set_option Elab.async false
set_option linter.all false
set_option maxRecDepth 100000
set_option maxHeartbeats 2000000
/-! the end: a hook of facts with one more test; the law's promise -/
namespace He
open PySem PySem.Spec PyProof.Rows L2
abbrev AlEx : Type := AlD × Bool
def obsEx (n : Nat) (fa : List Fa) (fn : List DefD) (ex : PySem.W.Frag → Bool) (g : Addr → Option Obj) : AlEx := (obsD fa fn (frG g (asD g n)), ex (frG g (asD g n)))
def hookEx (n : Nat) (fa : List Fa) (fn : List DefD) (ex : PySem.W.Frag → Bool) : PySem.W.Hook where
  α := AlEx
  obs := fun s => obsEx n fa fn ex s.heap.get?
  val := fun _ => (valD fn, true)
  says := fun _ h => ∃ K : PySem.W.Frag, K.In h ∧ SaysD fa fn K ∧ ex K = true
  of := fun _ _ e => ⟨_, frG_in, congrArg (fun z : AlEx => z.1) e, congrArg (fun z : AlEx => z.2) e⟩
  keeps := fun _ _ _ ⟨K, hK, c⟩ k => ⟨K, PySem.W.Frag.In.keeps hK k, c⟩
theorem obsEx_eq {n : Nat} {fa : List Fa} {fn : List DefD} {ex : PySem.W.Frag → Bool} {g : Addr → Option Obj} {s : Shared} (h : ∀ a, g a = s.heap.get? a) : obsEx n fa fn ex g = (hookEx n fa fn ex).obs s := by
  have e : g = s.heap.get? := funext h
  rw [e] <;> rfl
end He
namespace L3
open PySem PySem.Spec L2
theorem fn0 {P : Program} {w : World} {K : PySem.W.Frag} {mg : Str → Option Value} {base : Heap} {k : Nat} {f : Addr} {fd : FuncData} {ps : List Str} {sp : Sp} (F : GnOk P w K mg base (L2.CX P w) k f fd ps sp) :
    GnOk P w K mg base CX0 k f fd ps (fun vs H Q _ => sp vs H Q E0) := ⟨fun vs H Q E h => F.len vs H Q E0 h, fun A outer s H args us vs Q E gd hr he hb hv hs => codeAny_mono (F.go A outer s H args us vs Q E0 gd hr he hb hv hs) fun r s' q => by
  cases r with
  | error e =>
    obtain ⟨_, _, _, _, _, _, _, _, _, _, _, _, z⟩ := q
    exact z
  | ok fl => cases fl <;> exact q⟩
theorem law_sp {K : PySem.W.Frag} {Y : Pc} {m : FSem} {H : Hp} {a : Addr} {ns : List Int} (hS : SqL K H a (ns.map V.int)) (h : ∃ S, m [] [.scr ns] = .ok (.bl true) S) : spOf K Y m 1 [.ref a] H (fun v _ => v = .bl true) E0 := by
  obtain ⟨S, e⟩ := h
  refine ⟨rfl, H, [], [], [.scr ns], ⟨Ex.refl H, rfl, List.nodup_nil, fun _ h => by simp at h, fun i a c h => by simp at h⟩, .cons (.scr hS) .nil, ?_⟩
  rw [e]
  intro F' ρ' H' R n u ru
  cases ru
  rfl
end L3
set_option Elab.async false
set_option linter.all false
set_option maxRecDepth 100000
set_option maxHeartbeats 2000000
/-! the law's end, over a promise that holds where no display is under way -/
namespace L2
open PySem PySem.Spec PyProof.Rows
section
variable {P : Program} {w : World} {K : PySem.W.Frag} {s : Shared} {a : Addr} {vs : List Value} {ns : List Int}
/-- the script's list is all that is told, unless it is the module's own -/
def scrO (vs : List Value) (ns : List Int) : HO := .frz { cls := .type "list", data := .seq vs.toArray } (.lst (ns.map V.int))
def scrH (K : PySem.W.Frag) (a : Addr) (vs : List Value) (ns : List Int) : Hp := fun b => if b = a ∧ (K.lookup a).isNone = true then some (scrO vs ns) else none
theorem scrH_inv {b : Addr} {u : HO} (e : scrH K a vs ns b = some u) : b = a ∧ (K.lookup a).isNone = true ∧ u = scrO vs ns := by
  unfold scrH at e
  split at e
  · rename_i q; cases e; exact ⟨q.1, q.2, rfl⟩
  · cases e
theorem scrH_only : Only (scrH K a vs ns) := fun b => by
  cases e : scrH K a vs ns b with
  | none => exact .inl rfl
  | some u => rw [(scrH_inv e).2.2]; exact .inr ⟨_, _, rfl⟩
theorem scrH_sq (kin : K.In s.heap) (ha : s.heap.get? a = some { cls := .type "list", data := .seq vs.toArray }) (rel : Vals (ns.map V.int) vs) (hl : ns.length ≤ sizeLine) : SqL K (scrH K a vs ns) a (ns.map V.int) := by
  cases e : K.lookup a with
  | none => exact .inl (.inr ⟨_, if_pos ⟨rfl, by rw [e]; rfl⟩⟩)
  | some o =>
    have q := (kin a o e).symm.trans ha
    injection q with q
    subst q
    have z := rel.length
    rw [List.length_map] at z
    exact .inr ⟨_, _, _, e, rfl, rfl, rfl, by rw [List.size_toArray, ← z]; exact hl, by simpa using rel⟩
theorem scrH_ok (ha : s.heap.get? a = some { cls := .type "list", data := .seq vs.toArray }) (rel : Vals (ns.map V.int) vs) (hl : ns.length ≤ sizeLine) : HOk P w (scrH K a vs ns) s.heap := fun b u e => by
  obtain ⟨q1, _, q2⟩ := scrH_inv e
  subst q1; subst q2
  exact ⟨ha, by rw [List.length_map]; exact hl, vs, 0, rel, ha⟩
theorem law_gn {mg mb : Str → Option Value} {cx : CXT} {k : Nat} {fa : Addr} {fd : FuncData} {x : Str} {sp : Sp} (kin : K.In s.heap) (n1 : s.heap.Ns mainGlobals mg) (n2 : s.heap.Ns builtinsNs mb) (n3 : ∀ y : Str, y ≠ "__name__" → mb y = bootBuiltins y) (lim : s.heap.NoLimit) (gens : s.gens = #[])
    (ha : s.heap.get? a = some { cls := .type "list", data := .seq vs.toArray }) (ia : IntsAre vs ns) (hl : ns.length ≤ sizeLine) (room : Room k callerA) (G : ∀ base : Heap, K.In base → base.Ns mainGlobals mg → GnOk P w K mg base cx k fa fd [x] sp)
    (bnd : ∀ (s : Shared) (u : Value), BindsTo s fd ⟨[u], []⟩ [(x, u)]) (hsp : ∀ H : Hp, Only H → SqL K H a (ns.map V.int) → sp [.ref a] H (fun v _ => v = .bl true) fun _ _ _ => False) (hcx : ∀ H e s', cx [] H s (fun _ _ _ => False) e s' → False) :
    codeAny (model P w) callerA (.call (.ref fa) ⟨[.ref a], []⟩) (fun r s' => r = .ok (.ret (.bool true)) ∧ OldK s.heap s'.heap ∧ s'.os = s.os ∧ AllBare s'.gens) s := by
  have rel := vals_ints ia
  generalize eH : scrH K a vs ns = H
  have only : Only H := eH ▸ scrH_only
  have ok : HOk P w H s.heap := eH ▸ scrH_ok ha rel hl
  have inv : ∀ {b : Addr} {u : HO}, H b = some u → b = a ∧ K.lookup a = none := fun {b u} e => by
    subst eH
    exact ⟨(scrH_inv e).1, Option.isNone_iff_eq_none.mp (scrH_inv e).2.1⟩
  have sql : SqL K H a (ns.map V.int) := eH ▸ scrH_sq kin ha rel hl
  -- a dict is not told
  have dict : ∀ {b : Addr} {o : Obj} {es : Array DictEntry} {ep : Nat}, s.heap.get? b = some o → o.data = .dict es ep → H b = none := fun {b o es ep} e d => by
    cases q : H b with
    | none => rfl
    | some u =>
      rw [(inv q).1, ha] at e
      injection e with e
      rw [← e] at d
      exact nomatch d
  have names : ∀ {b : Addr} {m : Str → Option Value}, s.heap.Ns b m → (hidT s.heap H).Ns b m := by
    rintro b m ⟨o, es, ep, e, d, r⟩
    exact ⟨o, es, ep, hidT_get e (dict e d), d, r⟩
  have kin' : K.In (hidT s.heap H) := fun b o e => by
    refine hidT_get (kin b o e) ?_
    cases q : H b with
    | none => rfl
    | some u =>
      obtain ⟨z1, z2⟩ := inv q
      rw [z1, z2] at e
      cases e
  have lim' : (hidT s.heap H).NoLimit := by
    obtain ⟨m, z1, z2⟩ := lim
    exact ⟨m, names z1, z2⟩
  have e0 : Env0 P w K mg (hidT s.heap H) callerA [] s H :=
    ⟨rfl, ⟨kin', names n1, ⟨mb, names n2, n3⟩, lim'⟩, fun _ _ q => of_hidT q, Nat.le_of_eq (hidT_size _ _), trivial, fun b z => absurd (show b ∈ ([] : List Addr) from z) List.not_mem_nil, ok, .of_eq gens⟩
  have c := (G _ kin' (names n1)).go callerA [] s H ⟨[.ref a], []⟩ [.ref a] [.ref a] _ _ rfl room e0 (bnd s (.ref a)) (.cons rfl .nil) (hsp H only sql)
  apply codeAny_mono c
  rintro (er | fl) s2 res
  · exact (hcx H er s2 res).elim
  · cases fl with
    | ret u =>
      obtain ⟨v, H2, z1, z2, un, ok2, rv, z3⟩ := res
      have z3 : v = .bl true := z3
      subst z3
      have rv : u = Value.bool true := rv
      subst rv
      refine ⟨rfl, OldK.of_keep fun b o e => ?_, z1, z2⟩
      cases q : H b with
      | none => exact un.keep b o e q (fun z => absurd (show b ∈ ([] : List Addr) from z) List.not_mem_nil) List.not_mem_nil
      | some v =>
        rcases only b with z | ⟨ob, ys, z⟩
        · rw [q] at z; cases z
        · have p1 := (ok b _ z).1
          have p2 := (ok2 b _ (un.frzs b ob _ z)).1
          exact p2.trans (p1.symm.trans e)
    | _ => cases res
end
theorem walk_gn {l : PySem.W.OpenLaw} {n k : Nat} {q : Program} {loose : List Str} {XP : (Str → Option Value) → Heap → Prop} {YP : World → Heap → Prop} {d : DefRec} {cx : CXT} {x : Str} (hn : l.most = some n) (hn2 : n ≤ sizeLine) (hd : d.params.defaults = []) (room : Room k callerA)
    (F : ∀ (w : World) (mg : Str → Option Value) (fa : Addr) (h : Heap), YP w h → h.Ns mainGlobals mg → mg d.name = some (.ref fa) →
      ∃ (K : PySem.W.Frag) (fd : FuncData) (sp : Sp), K.In h ∧ (∀ (s : Shared) (u : Value), BindsTo s fd ⟨[u], []⟩ [(x, u)]) ∧
        (∀ (H : Hp) (a : Addr) (ns : List Int), ns.length ≤ n → Only H → SqL K H a (ns.map V.int) → sp [.ref a] H (fun v _ => v = .bl true) fun _ _ _ => False) ∧ ∀ base : Heap, K.In base → base.Ns mainGlobals mg → GnOk l.prog w K mg base cx k fa fd [x] sp)
    (hcx : ∀ (H : Hp) (s : Shared) (e : Value) (s' : Shared), cx [] H s (fun _ _ _ => False) e s' → False) : PySem.W.WalkO q loose XP YP l.row.toRowW d [] (fun f vs => PySem.call f vs) := by
  apply Att.attach_call hn hd
  intro w s0 s1 mg mb fa o pm cd doc a vs ns G Y ho hd' hcd hmg hobj hints hlen hg
  obtain ⟨K, fd, sp, kin, bnd, hsp, hF⟩ := F w mg fa _ Y G.T.g hmg
  exact law_gn kin G.T.g G.T.b G.T.builtins G.T.nolimit hg hobj hints (Nat.le_trans hlen hn2) room hF bnd (fun H z1 z2 => hsp H a ns hlen z1 z2) fun H e s' => hcx H s1 e s'
end L2
set_option Elab.async false
set_option linter.all false
set_option maxRecDepth 100000
set_option maxHeartbeats 2000000
/-! texts in order, lists read from their end -/
namespace L3
open PySem PySem.Spec L2 PyProof.Rows
section
variable {Y : Pc} {X : Cx} {W : WX} {e : Expr} {pos : Pos} {K : PySem.W.Frag} {F H : Hp} {ρ : List Addr} {S : Store} {ra : Ev → Store → Res D}
/-! ### x[::-1] -/
def revD : Op1 := fun S x => (seqD S x).map fun ds => .lst ds.reverse
theorem RDs.rev : ∀ {ds : List D} {xs : List V}, RDs K F ρ xs ds → RDs K F ρ xs.reverse ds.reverse
  | [], _, h => by cases h; exact .nil
  | d :: ds, _, h => by
    cases h with
    | cons h1 h2 =>
      rw [List.reverse_cons, List.reverse_cons]
      exact (RDs.rev h2).append (.cons h1 .nil)
theorem se_rev {k : Nat} {p1 p2 p3 : Pos} (ha : SE Y X W e ra) : SE Y X W (.Subscript e (.Slice none none (some (.UnaryOp .USub (.Constant (.int 1) k p1) p2)) p3) pos) (r1 revD ra) := by
  obtain ⟨ta, a1, a2⟩ := ha.ex
  refine ⟨_, pe_revL a1, fun F ρ S H σ env Q R E h => a2.then R E h fun d u S1 F1 ρ1 H1 R1 n1 E1 ru o1 => ?_⟩
  obtain ⟨z, hz, k⟩ := lift_out o1
  unfold revD at hz
  cases e1 : seqD S1 d with
  | none => rw [e1] at hz; cases hz
  | some ds =>
    rw [e1] at hz; cases hz
    obtain ⟨p, xs, rfl, hp, hx⟩ := seq_rd R1 ru e1
    exact ⟨_, _, rfl, SqL.of hp, fun q hq => now_lst R1 hx.rev hq fun F' H' u R' n' r' => k F' ρ1 H' R' n' u r'⟩
/-! ### sorted of texts -/
def insN (x : List Nat) : List (List Nat) → List (List Nat)
  | [] => [x]
  | y :: ys => if x ≤ y then x :: y :: ys else y :: insN x ys
def sortN : List (List Nat) → List (List Nat)
  | [] => []
  | x :: xs => insN x (sortN xs)
theorem ins_perm (x : List Nat) : ∀ ys, (insN x ys).Perm (x :: ys)
  | [] => List.Perm.refl _
  | y :: ys => by
    unfold insN
    split
    · exact List.Perm.refl _
    · exact ((ins_perm x ys).cons y).trans (List.Perm.swap _ _ _)
theorem sort_perm : ∀ xs, (sortN xs).Perm xs
  | [] => List.Perm.refl _
  | x :: xs => (ins_perm x (sortN xs)).trans ((sort_perm xs).cons x)
theorem ins_up (x : List Nat) : ∀ ys : List (List Nat), ys.Pairwise (· ≤ ·) → (insN x ys).Pairwise (· ≤ ·)
  | [], _ => by simp [insN]
  | y :: ys, h => by
    have h1 := List.pairwise_cons.mp h
    unfold insN
    split
    · rename_i hx
      refine List.pairwise_cons.mpr ⟨fun z hz => ?_, h⟩
      rcases List.mem_cons.mp hz with rfl | hz
      · exact hx
      · exact List.le_trans hx (h1.1 z hz)
    · rename_i hx
      have hy : y ≤ x := (List.le_total x y).resolve_left hx
      refine List.pairwise_cons.mpr ⟨fun z hz => ?_, ins_up x ys h1.2⟩
      rcases List.mem_cons.mp ((ins_perm x ys).mem_iff.mp hz) with rfl | hz
      · exact hy
      · exact h1.1 z hz
theorem sort_up : ∀ xs, (sortN xs).Pairwise (· ≤ ·)
  | [] => .nil
  | x :: xs => ins_up x _ (sort_up xs)
theorem sort_uniq {xs ys : List (List Nat)} (p : ys.Perm xs) (h : ys.Pairwise (· ≤ ·)) : ys = sortN xs :=
  (p.trans (sort_perm xs).symm).eq_of_pairwise (fun _ _ _ _ h1 h2 => List.le_antisymm h1 h2) h (sort_up xs)
theorem sort_of_perm {xs ys : List (List Nat)} (p : ys.Perm xs) : sortN ys = sortN xs := sort_uniq ((sort_perm ys).trans p) (sort_up ys)
theorem rising_up : ∀ (r : List Str) (p : Str), risingS p r = true → ((p :: r).map fun z => z.cps.toList).Pairwise (· ≤ ·)
  | [], p, _ => by simp
  | x :: r, p, h => by
    rw [risingS, Bool.and_eq_true, ltCps_eq] at h
    have ih := rising_up r x h.2
    have hp : p.cps.toList ≤ x.cps.toList := by
      have := h.1
      simp at this
      exact this
    refine List.pairwise_cons.mpr ⟨fun z hz => ?_, ih⟩
    have ih1 := List.pairwise_cons.mp ih
    rcases List.mem_cons.mp hz with rfl | hz
    · exact hp
    · exact List.le_trans hp (ih1.1 z hz)
theorem sorted_up : ∀ {r : List Str}, sortedS r = true → (r.map fun z => z.cps.toList).Pairwise (· ≤ ·)
  | [], _ => .nil
  | x :: r, h => rising_up r x h
def sortedD : OpN := fun S xs => match xs with
  | [x] => (seqD S x).bind fun ds => (strsOf ds).bind fun ls => if ls.length < 64 then some (.lst ((sortN ls).map .str)) else none
  | _ => none
theorem rds_strO : ∀ (ls : List (List Nat)), (∀ l ∈ ls, OkT l) → RDs K F ρ ((ls.map tx).map V.str) (ls.map D.str)
  | [], _ => .nil
  | l :: ls, h => .cons (.str l (h l (by simp))) (rds_strO ls fun x hx => h x (by simp [hx]))
theorem scall_sorted {k : Nat} (C : Ok X W k) : SCall Y X (.builtin "sorted") sortedD := ⟨_, cr_sortedS, fun F ρ S H xs ds d Q R rx e k => by
  match ds, rx, e with
  | [x], .cons r .nil, e =>
    have e : ((seqD S x).bind fun ds => (strsOf ds).bind fun ls => if ls.length < 64 then some (D.lst ((sortN ls).map .str)) else none) = some d := e
    cases e1 : seqD S x with
    | none => rw [e1] at e; cases e
    | some ds =>
      rw [e1] at e
      have e : ((strsOf ds).bind fun ls => if ls.length < 64 then some (D.lst ((sortN ls).map .str)) else none) = some d := e
      cases e2 : strsOf ds with
      | none => rw [e2] at e; cases e
      | some ls =>
        rw [e2] at e
        have e : (if ls.length < 64 then some (D.lst ((sortN ls).map .str)) else none) = some d := e
        by_cases h : ls.length < 64
        · rw [if_pos h] at e; cases e
          obtain ⟨p, ys, rfl, hp, hx⟩ := seq_rd R r e1
          obtain ⟨q1, q2⟩ := strs_rd hx e2
          subst q1
          refine ⟨p, ls.map tx, rfl, SqL.of hp, by simpa using h, fun zs q hz hs hq => ?_⟩
          have p1 : (zs.map fun z => z.cps.toList).Perm ls := by
            have := hz.map fun z : Str => z.cps.toList
            rw [List.map_map] at this
            have e3 : ls.map ((fun z : Str => z.cps.toList) ∘ tx) = ls := List.map_id _
            rwa [e3] at this
          have p2 := sort_uniq p1 (sorted_up hs)
          have p3 : zs = (sortN ls).map tx := by
            rw [← p2, List.map_map]
            exact (List.map_id _).symm
          subst p3
          exact now_lst R (rds_strO _ fun l hl => q2 l ((sort_perm ls).mem_iff.mp hl)) hq k
        · rw [if_neg h] at e; cases e⟩
end
end L3
set_option Elab.async false
set_option linter.all false
set_option maxRecDepth 100000
set_option maxHeartbeats 2000000
/-! dicts that stay as they are, their keys texts -/
namespace L3
open PySem PySem.Spec L2 PyProof.Rows
section
variable {Y : Pc} {X : Cx} {W : WX} {a b e v : Expr} {es : List Expr} {pos : Pos} {K : PySem.W.Frag} {F H : Hp} {ρ : List Addr} {S : Store} {ra rb : Ev → Store → Res D} {rs : Ev → Store → Res (List D)}
theorem Out.pre {α : Type} {F1 H1 : Hp} {ρ1 : List Addr} {r : Res α} {ok : α → Store → Hp → List Addr → Hp → Prop} {ex : Value → Hp → Prop} (n : Nx F ρ H F1 ρ1 H1) (h : Out K Y F ρ H r ok ex) : Out K Y F1 ρ1 H1 r ok ex := by
  cases r with
  | ok a S => exact fun F' ρ' H' R n' => h F' ρ' H' R (n.trans n')
  | exc c S => exact fun F' ρ' H' R n' => h F' ρ' H' R (n.trans n')
  | stuck => exact h
/-- the pairs of a display: keys written as texts -/
abbrev pairV (ks : List (List Nat)) (us : List V) : List (V × V) := (ks.zip us).map fun p => (V.str (tx p.1), p.2)
def EvP (K : PySem.W.Frag) (Y : Pc) (W : WX) (trs : List (TE × TE)) (ks : List (List Nat)) (r : Ev → Store → Res (List D)) : Prop := ∀ (F : Hp) (ρ : List Addr) (S : Store) (H : Hp) (σ : L2.St) (env : Ev) (Q : List (V × V) → Hp → Prop), SR K Y F ρ S H → ER K F ρ σ env →
  Out K Y F ρ H (r env S) (fun ds _ F' ρ' H' => ∀ us, RDs K F' ρ' us ds → Q (pairV ks us) H') (fun c H' => W c none σ H') → tPairs trs σ H Q
structure SPs (Y : Pc) (X : Cx) (W : WX) (pos : Pos) (keys : List (Option Expr)) (vals : List Expr) (ks : List (List Nat)) (r : Ev → Store → Res (List D)) : Prop where
  ex : ∃ trs, PPs X pos keys vals trs ∧ EvP X.K Y W trs ks r
theorem sp_nil : SPs Y X W pos [] [] [] rNil := ⟨[], pps_nil, fun F ρ S H σ env Q R E h => Out.now h R [] .nil⟩
theorem sp_cons {x : Str} {l : List Nat} {j : Nat} {p : Pos} {keys : List (Option Expr)} {vals : List Expr} {ks : List (List Nat)} (hv : SE Y X W v ra) (hr : SPs Y X W pos keys vals ks rs) (h : x.cps.toList = l := by decide +kernel) :
    SPs Y X W pos (some (.Constant (.str x) j p) :: keys) (v :: vals) (l :: ks) (rCons ra rs) := by
  obtain ⟨tv, v1, v2⟩ := hv.ex
  obtain ⟨trs, r1, r2⟩ := hr.ex
  have hx := tx_of h
  refine ⟨_, pps_cons (pe_str (x := x)) v1 r1, fun F ρ S H σ env Q R E h => ?_⟩
  refine v2.then R E h fun d u S1 F1 ρ1 H1 R1 n1 E1 ru o1 => ?_
  refine r2 F1 ρ1 S1 H1 σ env _ R1 E1 (o1.bind.imp (fun ds S2 F2 ρ2 H2 R2 n2 o2 us rus => ?_) fun _ _ z => z)
  have q := Out.now o2 R2 (u :: us) (.cons (ru.mono n2.ex n2.pre) rus)
  rw [hx]
  exact q
theorem mergeK_new : ∀ (kvs acc : List (Key × V)), ((acc ++ kvs).map (·.1)).Nodup → mergeK acc kvs = acc ++ kvs
  | [], acc, _ => by simp [mergeK]
  | kv :: kvs, acc, h => by
    have e : valV acc kv.1 = none := by
      have q := valV_any kv.1 acc
      cases e : valV acc kv.1 with
      | none => rfl
      | some z =>
        exfalso
        rw [e] at q
        have q : (acc.any fun x => decide (x.1 = kv.1)) = true := q
        obtain ⟨x, hx, ex⟩ := List.any_eq_true.mp q
        have ex := of_decide_eq_true ex
        rw [List.map_append, List.nodup_append] at h
        exact h.2.2 x.1 (List.mem_map.mpr ⟨x, hx, rfl⟩) kv.1 (by simp) ex
    show mergeK (putK acc kv.1 kv.2) kvs = _
    rw [putK_new _ e, mergeK_new kvs (acc ++ [(kv.1, kv.2)]) (by simpa using h)]
    simp
def rDct (ks : List (List Nat)) (rs : Ev → Store → Res (List D)) : Ev → Store → Res D := fun env S => (rs env S).bind fun xs S1 => if xs.length = ks.length then .ok (.dct ks xs) S1 else .stuck
/-- the keys and values of a dict that stays -/
abbrev kvsOf (ks : List (List Nat)) (us : List V) : List (Key × V) := (ks.zip us).map fun p => (Sum.inr (tx p.1), p.2)
theorem kvs_fst : ∀ (ks : List (List Nat)) (us : List V), us.length = ks.length → (kvsOf ks us).map (·.1) = ks.map fun s => (Sum.inr (tx s) : Key)
  | [], _, _ => by simp [kvsOf]
  | k :: ks, [], h => by simp at h
  | k :: ks, u :: us, h => by
    have := kvs_fst ks us (by simpa using h)
    simp only [kvsOf, List.zip_cons_cons, List.map_cons] at this ⊢
    rw [this]
theorem kvs_snd : ∀ (ks : List (List Nat)) (us : List V), us.length = ks.length → (kvsOf ks us).map (·.2) = us
  | [], [], _ => rfl
  | [], u :: us, h => by simp at h
  | k :: ks, [], h => by simp at h
  | k :: ks, u :: us, h => by
    have := kvs_snd ks us (by simpa using h)
    simp only [kvsOf, List.zip_cons_cons, List.map_cons] at this ⊢
    rw [this]
theorem tx_inj0 {s t : List Nat} (h : tx s = tx t) : s = t := by
  have h := congrArg (fun z : Str => z.cps.toList) h
  simpa [tx] using h
theorem se_dct {keys : List (Option Expr)} {vals : List Expr} {ks : List (List Nat)} (h : SPs Y X W pos keys vals ks rs) (nd : ks.Nodup) (hall : keys.all (·.isSome) = true) (hl : keys.length = vals.length) (h0 : keys ≠ []) (h15 : keys.length ≤ 15) (hk : ks.length ≤ 15) :
    SE Y X W (.Dict keys vals pos) (rDct ks rs) := by
  obtain ⟨trs, a1, a2⟩ := h.ex
  refine ⟨_, pe_disp a1 hall hl h0 h15, fun F ρ S H σ env Q R E h => ?_⟩
  intro p hp
  obtain ⟨R1, n1⟩ := R.grown (o := .dK []) hp
  have fp : F p = none := by
    cases e : F p with
    | none => rfl
    | some u => rw [R.ex p u e] at hp; cases hp
  have pr : p ∉ ρ := fun m => R.there p m hp
  refine a2 F ρ S (upd H p (.dK [])) σ env _ R1 E ?_
  unfold rDct at h
  cases e : rs env S with
  | stuck => rw [e] at h; exact h
  | exc c S2 =>
    rw [e] at h
    exact Out.pre n1 h
  | ok ds S2 =>
    rw [e] at h
    have h : Out X.K Y F ρ H (if ds.length = ks.length then .ok (.dct ks ds) S2 else .stuck) (fun d _ F' ρ' H' => ∀ u, RD X.K F' ρ' u d → Q u H') (fun c H' => W c none σ H') := h
    by_cases hlen : ds.length = ks.length
    · rw [if_pos hlen] at h
      intro F2 ρ2 H2 R2 n2 us rus
      have ulen : us.length = ks.length := by rw [rus.length]; exact hlen
      have hp2 : H2 p = some (.dK []) := n2.fr p _ upd_same pr
      have fp2 : F2 p = none := by
        cases e : F2 p with
        | none => rfl
        | some u =>
          rcases n2.fh p (by rw [e]; simp) with q | q | q
          · exact absurd fp q
          · rw [upd_same] at q; cases q
          · exact absurd q pr
      have pr2 : p ∉ ρ2 := fun m => by
        rcases n2.rh p m with q | q
        · exact pr q
        · rw [upd_same] at q; cases q
      have kn : ((kvsOf ks us).map (·.1)).Nodup := by
        rw [kvs_fst ks us ulen]
        have : (ks.map fun s => (Sum.inr (tx s) : Key)).Nodup ↔ ks.Nodup := by
          unfold List.Nodup
          rw [List.pairwise_map]
          constructor
          · intro q; exact q.imp fun n e => n (by rw [e])
          · intro q; exact q.imp fun n e => n (tx_inj0 (Sum.inr.inj e))
        exact this.mpr nd
      refine ⟨hp2, kvsOf ks us, ?_, ?_, ?_⟩
      · simp [pairV, kvsOf, kV]
      · have : (kvsOf ks us).length ≤ ks.length := by simp [kvsOf]; omega
        omega
      · have me : mergeK [] (kvsOf ks us) = kvsOf ks us := by
          rw [mergeK_new _ _ (by simpa using kn)]
          rfl
        rw [me]
        have e1 : Ex F2 (upd F2 p (.dK (kvsOf ks us))) := Ex.new fp2
        have np : ∀ a ∈ ρ2, a ≠ p := fun a m e => pr2 (e ▸ m)
        refine h (upd F2 p (.dK (kvsOf ks us))) ρ2 (upd H2 p (.dK (kvsOf ks us))) ⟨fun a u q => ?_, R2.len, R2.nd, fun a m => ?_, fun i a c q1 q2 => ?_⟩ ⟨n2.ex.trans e1, n2.pre, fun a u q m => ?_, fun a q => ?_, fun a m => ?_, fun a q => ?_⟩ _ (.dct upd_same (kvs_fst ks us ulen) (by rw [kvs_snd ks us ulen]; exact rus.mono e1 fun _ _ h => h))
        · by_cases z : a = p
          · subst z; rw [upd_same] at q ⊢; exact q
          · rw [upd_ne z] at q ⊢; exact R2.ex a u q
        · rw [upd_ne (np a m)]; exact R2.there a m
        · have ha : a ≠ p := np a (List.mem_of_getElem? q1)
          have k := R2.cell i a c q1 q2
          cases c with
          | dead => trivial
          | lst ds =>
            obtain ⟨k1, xs, k2, k3⟩ := k
            exact ⟨by rw [upd_ne ha]; exact k1, xs, by rw [upd_ne ha]; exact k2, k3.mono e1 fun _ _ h => h⟩
          | ins c fs =>
            obtain ⟨k1, dx, vs, k2, k3⟩ := k
            exact ⟨by rw [upd_ne ha]; exact k1, dx, vs, by rw [upd_ne ha]; exact k2, k3.mono e1 fun _ _ h => h⟩
          | dct kvs =>
            obtain ⟨k1, k0, xs, k2, k4, k5, k3⟩ := k
            exact ⟨by rw [upd_ne ha]; exact k1, k0, xs, by rw [upd_ne ha]; exact k2, k4, k5, k3.mono e1 fun _ _ h => h⟩
          | dkf kvs =>
            obtain ⟨o, xs, k1, k0, k4, k5, k3⟩ := k
            exact ⟨o, xs, e1 _ _ k1, k0, k4, k5, k3.mono e1 fun _ _ h => h⟩
          | exn c => exact ⟨by rw [upd_ne ha]; exact k.1, by rw [upd_ne ha]; exact k.2⟩
          | tdk ks ds =>
            obtain ⟨k1, xs, k2, k4, k3⟩ := k
            exact ⟨by rw [upd_ne ha]; exact k1, xs, by rw [upd_ne ha]; exact k2, k4, k3.mono e1 fun _ _ h => h⟩
        · have z : a ≠ p := fun z => by rw [z, hp] at q; cases q
          rw [upd_ne z]
          exact n2.fr a u (by rw [upd_ne z]; exact q) m
        · by_cases z : a = p
          · subst z; exact .inr (.inl hp)
          · rw [upd_ne z] at q
            rcases n2.fh a q with q | q | q
            · exact .inl q
            · rw [upd_ne z] at q; exact .inr (.inl q)
            · exact .inr (.inr q)
        · rcases n2.rh a m with q | q
          · exact .inl q
          · rw [upd_ne (np a m)] at q; exact .inr q
        · by_cases z : a = p
          · subst z; rw [upd_same]; simp
          · rw [upd_ne z]
            exact n2.hn a (by rw [upd_ne z]; exact q)
    · rw [if_neg hlen] at h; exact h.elim
/-! ### d[k] -/
def lkD : List (List Nat) → List D → List Nat → Option D
  | k :: ks, d :: ds, s => if k = s then some d else lkD ks ds s
  | _, _, _ => none
def dixD : Op2 := fun S x y => match x, y with
  | .dct ks ds, .str s => lkD ks ds s
  | _, _ => none
theorem lk_ok : ∀ {ks : List (List Nat)} {kvs : List (Key × V)} {ds : List D} {s : List Nat} {d : D}, kvs.map (·.1) = ks.map (fun s => Sum.inr (tx s)) → RDs K F ρ (kvs.map (·.2)) ds → lkD ks ds s = some d → ∃ v, valV kvs (Sum.inr (tx s)) = some v ∧ RD K F ρ v d
  | [], _, _, _, _, _, _, h => by cases h
  | k :: ks, [], _, _, _, h, _, _ => by simp at h
  | k :: ks, kv :: kvs, ds, s, d, h, r, e => by
    rw [List.map_cons, List.map_cons, List.cons.injEq] at h
    rw [List.map_cons] at r
    cases r with
    | cons r1 r2 =>
      unfold lkD at e
      by_cases z : k = s
      · rw [if_pos z] at e; cases e
        exact ⟨_, valV_pos (by rw [h.1, z]), r1⟩
      · rw [if_neg z] at e
        obtain ⟨v, q1, q2⟩ := lk_ok h.2 r2 e
        refine ⟨v, ?_, q2⟩
        rw [valV_neg (fun q => z ?_)]
        · exact q1
        · rw [h.1] at q
          exact tx_inj0 (Sum.inr.inj q)
theorem dix_ok : OpOk K Y dixD (fun x y H Q => ∃ a v, x = .ref a ∧ DGet H a y (some v) ∧ Q v H) := fun F ρ S H x y dx dy d Q R rx ry e k => by
  cases rx with
  | dct h1 h2 h3 =>
    cases ry with
    | str s hs =>
      have e : lkD _ _ s = some d := e
      obtain ⟨v, q1, q2⟩ := lk_ok h2 h3 e
      refine ⟨_, v, rfl, ?_, k F H v R (Nx.refl _ _ _) q2⟩
      have g := DGet.k (k := Sum.inr (tx s)) (R.ex _ _ h1)
      rw [q1] at g
      exact g
    | _ => cases e
  | _ => cases ry <;> cases e
theorem se_dix {k : Nat} (C : Ok X W k) (ha : SE Y X W a ra) (hb : SE Y X W b rb) (hs : NoSl b := by exact fun _ _ => rfl) : SE Y X W (.Subscript a b pos) (r2 dixD ra rb) := by
  obtain ⟨ta, a1, a2⟩ := ha.ex
  obtain ⟨tb, b1, b2⟩ := hb.ex
  exact ⟨_, pe_dget (by have := C.room.units; omega) a1 b1 hs, ev_op dix_ok a2 b2⟩
end
end L3
set_option Elab.async false
set_option linter.all false
set_option maxRecDepth 100000
set_option maxHeartbeats 2000000
/-! try: .., except C as e: m = e -/
namespace L2
open PySem PySem.Spec PyProof.Rows
section
variable {X : Cx} {pins : List (Addr × Obj)} {σ : St} {H : Hp} {s : Shared}
/-- a caught exception is told from here on -/
theorem Inv.track {a : Addr} {cls : Value} {oe : Obj} {vs : Array Value} (I : Inv X pins σ H s) (he : s.heap.get? a = some oe) (hz : Zc cls none oe) (hd : oe.data = .fields vs) (n0 : X.s_0.heap.get? a = none) (na : H a = none) (nL : a ≠ X.env.locals) (np : ∀ p ∈ X.pn ++ pins, p.1 ≠ a) :
    Inv X pins σ (upd H a (L3.ExK cls a)) s := by
  have n1 : ∀ b o, X.s_0.heap.get? b = some o → b ≠ a := fun b o e z => by rw [z, n0] at e; cases e
  refine ⟨I.ok, I.os, I.bare, ⟨I.base.keep, I.base.slot, fun b o e n hx => ?_, I.base.there, fun b xs e => ?_, fun b o u e => ?_, fun b ps e => ?_⟩, I.loc, I.cell, ?_, fun x c e => ?_, fun p hp => ?_, I.hok.laidN (fun _ _ z => z) na ⟨⟨oe, vs, he, hz, hd⟩, ⟨oe, he⟩, fun h1 h2 ⟨o, v, q, r⟩ k => ⟨o, v, k o q, r⟩⟩, I.len⟩
  · rw [upd_ne (n1 b o e)]; exact I.base.free b o e n hx
  · have q := I.base.tups b xs e
    rw [upd_ne (ne_of_none q na)]; exact q
  · have q := I.base.frzs b o u e
    rw [upd_ne (ne_of_none q na)]; exact q
  · obtain ⟨more, q⟩ := I.base.tbls b ps e
    exact ⟨more, by rw [upd_ne (ne_of_none q na)]; exact q⟩
  · rw [upd_ne (Ne.symm nL)]; exact I.free
  · have ca : c ≠ a := fun z => by
      obtain ⟨v, o, ho, hc⟩ := I.cell x c e
      rw [z, he] at ho; cases ho
      rw [hd] at hc; cases hc
    rw [upd_ne ca]; exact I.freeC x c e
  · obtain ⟨e, n, r⟩ := I.pin p hp
    exact ⟨e, by rw [upd_ne (np p hp)]; exact n, r⟩
end
/-- what is wished of an exception that is caught and kept in slot j -/
def wKeep (K : PySem.W.Frag) (c : Value) (i j : Nat) (D : Ends) : WX := fun cls d σ H => d = none ∧ PySem.W.exmOne K cls c = some true ∧ ∀ a, H a = none → D.nx (((σ.set i (some (.ref a))).set j (some (.ref a))).set i none) (upd H a (L3.ExK cls a))
section
variable {X : Cx} {x n m : Str} {c : Value} {i j : Nat} {body : List Stmt} {np ep mp apos pos pos' : Pos} {tb : WX → TS}
theorem ps_try_keep (hs : X.stack = X.env :: X.outer) (hf : X.env.frame = some X.env.locals) (hex : X.ex = []) (hN : X.N.Nodup) (hi : X.N[i]? = some n) (hj : X.N[j]? = some m) (hln : X.env.kindOf n = some .local) (hlm : X.env.scope.names.lookup m = some .local) (hvn : Vis X.env.scope n) (hdn : (n == ("__debug__" : Str)) = false) (hcn : (n == ("__classdict__" : Str)) = false) (hc : Names X x c)
    (hsw : swapsWith (.Name n ep) (some (.Name m mp)) apos.line X.env = pure false)
    (hb : ∀ (W : WX) (pn : List (Addr × Obj)) (xe : Value → Shared → Prop), Takes (X.tr pn xe) W → PassesOwn (model X.prog X.w) X.A X.env xe → PSs (X.tr pn xe) body (tb W)) :
    PS X (.Try body [.ExceptHandler (some (.Name x np)) (some n) [.Assign [.Name m mp] (.Name n ep) apos] pos'] [] [] pos) (fun D σ H => tb (wKeep X.K c i j D) D σ H) := by
  refine ⟨fun pins s σ H D I h => ?_⟩
  have ok := I.ok
  have hfr : X.A.frames = some (X.env :: X.outer) := by rw [ok.frames, hs]
  have hloc : Loc X.env.scope n := .inl hln
  have hilt : i < X.N.length := (List.getElem?_eq_some_iff.mp hi).1
  refine wpAny_Try_except ?_
  refine wpAny_mono ((hb (wKeep X.K c i j D) (X.pn ++ pins) (fun e s₁ => wpAny (model X.prog X.w) X.A (noteFrame e X.env) (fun _ s₂ => wpAny (model X.prog X.w) X.A (setFlight e none) (fun _ s₃ =>
    wpAny (model X.prog X.w) X.A (handleBy e X.env [.ExceptHandler (some (.Name x np)) (some n) [.Assign [.Name m mp] (.Name n ep) apos] pos']) (SP X pins D) X.xe s₃) X.xe s₂) X.xe s₁) (fun u s' xx => ?_) PassesOwn.looking).run [] s σ H D (I.toTry _) h) (fun f s1 hsp => ?_) (fun e s1 he => he)
  · obtain ⟨a, B, sI, pins', σ', H', cls, d, rfl, J', nb, up, sky, na, os, ag, rfl, hb1, hyes⟩ := xx
    have J : Inv X pins σ' H' sI := J'.ofTry ok
    have sky' : Sky B (X.env :: X.outer) a (Zc cls none) X.env.locals s'.heap := by rw [← hs]; exact sky
    show wpAny (model X.prog X.w) X.A (noteFrame (.ref a) X.env) _ _ _
    refine Sky.land Zc.steady hfr hf sky' fun h3 fl3 up3 => ?_
    have J3 : Inv X pins σ' H' { s' with heap := h3 } := J.landed nb fl3.1 (up.trans up3) os ag
    obtain ⟨oe3, vs3, he3, hz3, hd3⟩ := fl3.there
    have nfr : a ∉ frs (X.env :: X.outer) := fun hm => by
      obtain ⟨_, o', e', hnf⟩ := fl3.2.2.1.mem hm
      rw [he3] at e'; cases e'
      exact hnf _ hd3
    have nL : a ≠ X.env.locals := fun z => nfr (List.mem_filterMap.mpr ⟨X.env, List.mem_cons_self, by rw [hf, z]⟩)
    have nF : a ∉ X.fs := fun hm => by
      obtain ⟨e, he, q⟩ := List.mem_filterMap.mp hm
      exact nfr (List.mem_filterMap.mpr ⟨e, List.mem_cons_of_mem _ he, q⟩)
    have sIa : sI.heap.get? a = none := by
      cases e : sI.heap.get? a with
      | none => rfl
      | some o =>
        have z := nb a o e (by rw [hs]; exact nfr)
        rw [fl3.2.1] at z; cases z
    have n0 : X.s_0.heap.get? a = none := by
      cases e : X.s_0.heap.get? a with
      | none => rfl
      | some o =>
        obtain ⟨o', z⟩ := J.base.there a o e (by rw [hex]; exact fun z => nomatch z)
        rw [sIa] at z; cases z
    have npin : ∀ p ∈ X.pn ++ pins, p.1 ≠ a := fun p hp z => by
      have q := (J.pin p hp).1
      rw [z, sIa] at q; cases q
    have S3 := J3.suite he3 hd3 na nL nF
    refine wpAny_handleBy_cons (codeAny_handlers_test ?_) (by intro q; cases q)
    have LT : PySem.W.Looks (model X.prog X.w) h3 (typeOf (.ref a)) cls := fun A Q E s k q => wpAny_typeOf_ref (k _ _ he3) (by rw [hz3.1]; exact q)
    have LM := PySem.W.exm_one (M := model X.prog X.w) (J3.kIn) LT hb1
    have test : ∀ {Q : Value → Shared → Prop} {E : Value → Shared → Prop}, Q c { s' with heap := h3 } → wpAny (model X.prog X.w) (X.A.mark (some (.ref a))) (eval (.Name x np) X.env) Q E { s' with heap := h3 } := fun {Q E} q => by
      obtain ⟨hg, hdbg, hm | ⟨hm, hv, hnn⟩⟩ := hc
      · exact ld_glob (X := X.suite a ((a, oe3) :: (X.pn ++ pins))) S3 hg hm q hdbg
      · exact ld_blt (X := X.suite a ((a, oe3) :: (X.pn ++ pins))) S3 hg hm hv q hnn hdbg
    refine test (LM.here ?_)
    refine codeAny_handlers_suite_as ?_
    refine HandSPX.lands_againZ fl3 fun h4 fl4 up4 => ?_
    have J4 : Inv X pins σ' H' { s' with heap := h4 } := J.landed nb fl4.1 ((up.trans up3).trans up4) os ag
    obtain ⟨oe4, vs4, he4, hz4, hd4⟩ := fl4.there
    have S4 := J4.suite he4 hd4 na nL nF
    refine store_ok (X := X.suite a ((a, oe4) :: (X.pn ++ pins))) (v := .ref a) S4 hN hi hloc rfl (fun s5 S5 => ?_) (.inr hln)
    have st : PSs (X.suite a ((a, oe4) :: (X.pn ++ pins))) [.Assign [.Name m mp] (.Name n ep) apos] _ := pss_one (ps_set (X := X.suite a ((a, oe4) :: (X.pn ++ pins))) hN hj (.inl hlm) (pe_var hi hvn hdn hcn) hsw (.inr hlm))
    refine wpAny_mono (st.run [] s5 _ H' ⟨fun σ6 H6 => σ6 = (σ'.set i (some (.ref a))).set j (some (.ref a)) ∧ H6 = H', fun _ _ => False, fun _ _ => False, fun _ _ => False⟩ S5 ⟨.ref a, ?_, rfl, rfl⟩) (fun f s6 hsp => ?_) (fun _ _ z => False.elim z)
    · rw [List.getElem?_set_self (by rw [J.len]; exact hilt)]
    · cases f with
      | next =>
        obtain ⟨σ6, H6, S6, rfl, rfl⟩ := hsp
        have S7 : Inv X pins _ H6 s6 := S6.unsuite ok
        have he6 : s6.heap.get? a = some oe4 := (S6.pin (a, oe4) (by rw [List.append_nil]; exact List.mem_cons_self)).1
        have S8 := S7.track he6 hz4 hd4 n0 na nL npin
        exact gone_ok S8 hN hi hln fun s7 J7 => ⟨_, _, J7, hyes a na⟩
      | brk => obtain ⟨σ6, H6, S6, q⟩ := hsp; exact q.elim
      | cont => obtain ⟨σ6, H6, S6, q⟩ := hsp; exact q.elim
      | ret u => obtain ⟨v, σ6, H6, S6, _, q⟩ := hsp; exact q.elim
  · cases f with
    | next =>
      obtain ⟨σ', H', J', q⟩ := hsp
      exact wpAny_execs_nil ⟨σ', H', J'.ofTry ok, q⟩
    | brk =>
      obtain ⟨σ', H', J', q⟩ := hsp
      exact ⟨σ', H', J'.ofTry ok, q⟩
    | cont =>
      obtain ⟨σ', H', J', q⟩ := hsp
      exact ⟨σ', H', J'.ofTry ok, q⟩
    | ret u =>
      obtain ⟨v, σ', H', J', r, q⟩ := hsp
      exact ⟨v, σ', H', J'.ofTry ok, r, q⟩
end
end L2
set_option Elab.async false
set_option linter.all false
set_option maxRecDepth 100000
set_option maxHeartbeats 2000000
/-! try and isinstance of what was caught; str, split, count, index, += of a list -/
namespace L2
open PySem PySem.Spec PyProof.Rows
section
variable {X : Cx}
/-- isinstance(e, c), e a caught exception that is told -/
def rIsK (K : PySem.W.Frag) : List V → Hp → VK → Prop := fun xs H Q => ∃ (a D : Addr) (c : V) (cv : Value) (b : Bool), xs = [.ref a, c] ∧ H a = some (L3.ExK (.ref D) a) ∧ ExcC K D ∧ (∀ u, RelV c u → u = cv) ∧ PySem.W.kitOne K (.ref D) cv = some b ∧ Q (.bl b) H
theorem call_isK : CallR X (.builtin "isinstance") (rIsK X.K) := by
  intro pins s σ H xs us Q I r h
  obtain ⟨a, D, c, cv, b, rfl, ha, C, hcv, e, q⟩ := h
  cases r with
  | cons rx rr =>
    cases rr with
    | cons rt rr =>
      cases rr
      cases rx
      have ec := hcv _ rt
      subst ec
      obtain ⟨⟨oe, vs, hget, hz, hv⟩, _⟩ := I.hok a _ ha
      have J : PySem.W.InstAt s.heap a oe D none := by
        obtain ⟨oc, od, oda, osl⟩ := oe
        obtain ⟨h1, h2⟩ := hz
        dsimp only at h1 h2 hv
        subst h1 h2 hv
        exact ⟨hget, rfl, rfl, trivial⟩
      exact PySem.W.kia_one (PySem.W.handS_kitx_exc C.hg C.hk C.hs C.hd C.ha C.hn C.ht C.hm) I.kIn J e (fun z => nomatch z) fun tk => ⟨.bl b, H, I.kept (t' := tk) fun _ _ z => z, rfl, q⟩
/-- l.count(x), items of any depth -/
def rCountD (K : PySem.W.Frag) : V → List V → Hp → VK → Prop := fun x xs H Q => ∃ (a : Addr) (y : V) (d : PyData) (ds : List PyData), x = V.ref a ∧ xs = [y] ∧ Dp K H (V.ref a) (.list ds) ∧ Dp K H y d ∧
  SeqAt.shaped (.list ds) = true ∧ SeqAt.shaped d = true ∧ Q (.int (ds.countP (fun z => PyData.eqv z d) : Nat)) H
theorem mt_countD (hu : X.A.units + 65 < cLine) : MtR X "list.count" (rCountD X.K) := by
  intro pins s σ H x xs v us Q I rx rxs h
  obtain ⟨a, y, d, ds, rfl, rfl, hl, hy, sl, sd, q⟩ := h
  cases rx
  cases rxs with
  | cons ry rt =>
    rename_i uy ut
    cases rt
    obtain ⟨bs, r1⟩ := Dp.reads I d y uy hy ry
    have hxs : PyData.canLayAll0 ds = true := SeqAt.canLay_of_shaped sl
    have hroom : X.A.units + 1 + min (PyData.depthAll ds) d.depth < cLine := room_in_shaped sd hu
    cases hl with
    | lst hs ha =>
      obtain ⟨its, rv, ⟨⟨cls, dd, data, sls⟩, n, ho, hc, hdn, hdt⟩, hlen⟩ := I.list hs
      simp only at hc hdt
      subst hc hdt
      obtain ⟨as, h4⟩ := Dp.readsAll I ds _ its ha rv
      have hmap : its.map (SeqAt.readOf s.heap) = ds := SeqAt.readsAll_map ds its as hxs h4
      refine call_meets PySem.F.slot_list_count ⟨_, ho, rfl⟩ PySem.F.entry_list_count (PySem.F.args_list_count_2 _ _)
        (SeqAt.list_countAt a its.toArray n dd sls uy (fun u => PyData.eqv (SeqAt.readOf s.heap u) d)) ⟨ho, SeqAt.items_eqAt (vs := its.toArray) (show ReadsAll s.heap its.toArray.toList ds as from h4) r1 hxs (SeqAt.canLay_of_shaped sd) hroom, ?_⟩
      have ec : its.countP (fun u => PyData.eqv (SeqAt.readOf s.heap u) d) = ds.countP (fun z => PyData.eqv z d) := by
        rw [← hmap, List.countP_map]
        rfl
      refine ⟨.int (ds.countP (fun z => PyData.eqv z d) : Nat), H, I.tok _, ⟨s.toks, ?_⟩, q⟩
      show Value.int ((its.countP (fun u => PyData.eqv (SeqAt.readOf s.heap u) d) : Nat) : Int) s.toks = _
      rw [ec]
end
end L2
namespace L3
open PySem PySem.Spec L2 PyProof.Rows
section
variable {Y : Pc} {X : Cx} {W : WX} {a b e v : Expr} {es : List Expr} {pos : Pos} {K : PySem.W.Frag} {F H : Hp} {ρ : List Addr} {S : Store} {ra rb : Ev → Store → Res D} {rs : Ev → Store → Res (List D)}
/-! ### try -/
def canS (K : PySem.W.Frag) (Y : Pc) (W : WX) (m : SM) : TS := fun E σ H => ∃ F ρ S env, SR K Y F ρ S H ∧ ER K F ρ σ env ∧ OutS K Y F ρ H (m env S) (fun fl _ F' ρ' H' => FlowOk K Y W E fl F' ρ' H')
theorem SSs.can {st : List Stmt} {m : SM} (h : SSs Y X W st m) : PSs X st (canS X.K Y W m) := by
  obtain ⟨t, h1, h2⟩ := h.ex
  exact ⟨fun pins s σ H D I ⟨F, ρ, S, env, R, E, o⟩ => h1.run pins s σ H D I (h2 F ρ S H σ env D R E o)⟩
/-- try: m, and what one of n kinds of exception it raises is caught, is kept in slot j (slot i, the clause's own, is free again) -/
def sTry (n i j : Nat) (m : SM) : SM := fun env S => match m env S with
  | some (.ex c env', S') => if c < n then some (.nx ((env'.set j (some (.loc S'.length))).set i none), S' ++ [.exn c]) else none
  | r => r
theorem ER.try {σ : L2.St} {env : Ev} {i j : Nat} {u : V} {d : D} (h : ER K F ρ σ env) (r : RD K F ρ u d) : ER K F ρ (((σ.set i (some u)).set j (some u)).set i none) ((env.set j (some d)).set i none) := by
  have q := ((h.set i r).set j r).setN i
  have e : (((env.set i (some d)).set j (some d)).set i none) = ((env.set j (some d)).set i none) := by
    by_cases z : i = j
    · subst z; simp [List.set_set]
    · rw [List.set_comm _ _ z, List.set_set]
  rw [e] at q
  exact q
theorem ss_try {x n m : Str} {cv : Value} {i j nx : Nat} {body : List Stmt} {np ep mp apos pos pos' : Pos} {r : SM} (hs : X.stack = X.env :: X.outer) (hf : X.env.frame = some X.env.locals) (hex : X.ex = []) (hN : X.N.Nodup) (hi : X.N[i]? = some n) (hj : X.N[j]? = some m) (hln : X.env.kindOf n = some .local) (hlm : X.env.scope.names.lookup m = some .local) (hvn : Vis X.env.scope n) (hdn : (n == ("__debug__" : Str)) = false) (hcn : (n == ("__classdict__" : Str)) = false) (hc : Names X x cv)
    (hsw : swapsWith (.Name n ep) (some (.Name m mp)) apos.line X.env = pure false) (hm : ∀ c, c < nx → PySem.W.exmOne X.K (.ref (Y.xc c)) cv = some true)
    (hb : ∀ (W' : WX) (pn : List (Addr × Obj)) (xe : Value → Shared → Prop), Takes (X.tr pn xe) W' → PassesOwn (model X.prog X.w) X.A X.env xe → SSs Y (X.tr pn xe) W' body r) :
    SS Y X W (.Try body [.ExceptHandler (some (.Name x np)) (some n) [.Assign [.Name m mp] (.Name n ep) apos] pos'] [] [] pos) (sTry nx i j r) := by
  refine ⟨_, ps_try_keep (tb := fun W' => canS X.K Y W' r) hs hf hex hN hi hj hln hlm hvn hdn hcn hc hsw (fun W' pn xe tk po => (hb W' pn xe tk po).can), fun F ρ S H σ env E R ER0 h => ?_⟩
  refine ⟨F, ρ, S, env, R, ER0, ?_⟩
  unfold sTry at h
  cases e : r env S with
  | none => rw [e] at h; exact h
  | some p =>
    obtain ⟨fl, S'⟩ := p
    rw [e] at h
    cases fl with
    | nx env' => exact h
    | rt d => exact h
    | bk env' => exact h
    | ct env' => exact h
    | ex c env' =>
      dsimp only at h
      by_cases hc : c < nx
      · rw [if_pos hc] at h
        intro F' ρ' H' R' n' σ' E'
        refine ⟨rfl, hm c hc, fun a ha => ?_⟩
        have fa : F' a = none := by
          cases e : F' a with
          | none => rfl
          | some u => rw [R'.ex a u e] at ha; cases ha
        obtain ⟨R2, n2, e2⟩ := R'.alloc (o := ExK (.ref (Y.xc c)) a) (cc := .exn c) ha ⟨fa, upd_same⟩
        exact h _ _ _ R2 (n'.trans n2) _ ((E'.nx n2).try (.loc e2))
      · rw [if_neg hc] at h; exact h.elim
/-! ### isinstance of what was caught -/
def isxD (l : List Bool) : Op1 := fun S x => match x with
  | .loc i => match S[i]? with
    | some (.exn c) => (l[c]?).map .bl
    | _ => none
  | _ => none
/-- which of the exceptions are of the class cv -/
structure KitL (K : PySem.W.Frag) (Y : Pc) (cv : Value) (l : List Bool) : Prop where
  at_ : ∀ c b, l[c]? = some b → ExcC K (Y.xc c) ∧ PySem.W.kitOne K (.ref (Y.xc c)) cv = some b
theorem se_isx {x T : Str} {p p2 : Pos} {cvV : V} {cv : Value} (l : List Bool) (pT : PE X (.Name T p2) (tC cvV)) (hrel : ∀ u, RelV cvV u → u = cv) (hk : KitL X.K Y cv l) (hx : x = "isinstance" := by rfl) (hm : X.mg "isinstance" = none) (ha : SE Y X W a ra) (hg : Gl X x := by rfl)
    (he : starEach [a, .Name T p2] X.env = (false, eval a X.env) :: starEach [.Name T p2] X.env := by rfl) (he2 : starEach [.Name T p2] X.env = (false, eval (.Name T p2) X.env) :: starEach [] X.env := by rfl)
    (hpl : (backTo pos (starEach [.Name T p2] X.env)).any (·.1) = false := by rfl) : SE Y X W (.Call (.Name x p) [a, .Name T p2] [] pos) (r1 (isxD l) ra) := by
  subst hx
  obtain ⟨ta, a1, a2⟩ := ha.ex
  refine ⟨_, pe_callB call_isK hg hm (by decide +kernel) (pa_cons a1 (pa_cons pT pa_nil he2) he) (by decide) (by decide) he hpl, fun F ρ S H σ env Q R E h => a2.then R E h fun d u S1 F1 ρ1 H1 R1 n1 E1 ru o1 => ?_⟩
  obtain ⟨z, hz, k⟩ := lift_out o1
  unfold isxD at hz
  cases ru with
  | loc hi =>
    rename_i i a
    dsimp only at hz
    cases e : S1[i]? with
    | none => rw [e] at hz; cases hz
    | some c =>
      rw [e] at hz
      cases c with
      | exn c =>
        dsimp only at hz
        cases e2 : l[c]? with
        | none => rw [e2] at hz; cases hz
        | some b =>
          rw [e2] at hz; cases hz
          obtain ⟨q1, q2⟩ := R1.cell i a _ hi e
          obtain ⟨k1, k2⟩ := hk.at_ c b e2
          exact ⟨a, Y.xc c, cvV, cv, b, rfl, q2, k1, hrel, k2, now_bl R1 fun F' H' u R' n' r' => k F' ρ1 H' R' n' u r'⟩
      | _ => cases hz
  | _ => cases hz
/-! ### str(x) -/
def strD : OpN := fun _ xs => match xs with
  | [.str s] => some (.str s)
  | [.int i] => if i = 0 then some (.str [48]) else if i = 1 then some (.str [49]) else none
  | _ => none
theorem scall_str : SCall Y X (.type "str") strD := ⟨_, (SkE.call_str_str (X := X)).or call_str_int, fun F ρ S H xs ds d Q R rx e k => by
  match ds, rx, e with
  | [.str s], .cons (.str _ hs) .nil, e =>
    cases e
    exact .inl ⟨_, rfl, k F H _ R (Nx.refl _ _ _) (.str s hs)⟩
  | [.int i], .cons (.int _) .nil, e =>
    have e : (if i = 0 then some (D.str [48]) else if i = 1 then some (.str [49]) else none) = some d := e
    by_cases h : i = 0
    · subst h
      cases e
      exact .inr ⟨0, rfl, by decide, k F H _ R (Nx.refl _ _ _) (.str [48] (by decide))⟩
    · rw [if_neg h] at e
      by_cases h : i = 1
      · subst h
        cases e
        exact .inr ⟨1, rfl, by decide, k F H _ R (Nx.refl _ _ _) (.str [49] (by decide))⟩
      · rw [if_neg h] at e; cases e⟩
/-! ### s.split(c) -/
def splitM (s t : List Nat) : List (List Nat) := (Txt.split (tx s) (tx t)).map fun p => p.cps.toList
theorem split_tx (s t : List Nat) : (splitM s t).map tx = Txt.split (tx s) (tx t) := by
  unfold splitM
  rw [List.map_map]
  exact List.map_id _
theorem join_splitM (s t : List Nat) : TL.joinL t (splitM s t) = s := by
  have h := StrLaws.join_split (tx s) (tx t)
  rw [← TL.join_eq, ← split_tx, tx_join] at h
  exact tx_inj0 h
theorem mem_joinL {t : List Nat} {c : Nat} : ∀ {ls : List (List Nat)} {l : List Nat}, l ∈ ls → c ∈ l → c ∈ TL.joinL t ls
  | [x], l, hl, hc => by rw [List.mem_singleton.mp hl] at hc; exact hc
  | x :: y :: r, l, hl, hc => by
    simp only [TL.joinL, List.mem_append]
    rcases List.mem_cons.mp hl with h | h
    · rw [h] at hc; exact .inl hc
    · exact .inr (.inr (mem_joinL h hc))
def splitD : OpM := fun S x xs => match x, xs with
  | .str s, [.str [c]] => if s.length ≤ 90000 then some (.lst ((splitM s [c]).map .str), S) else none
  | _, _ => none
theorem smt_split : SMt Y X "str" "str.split" tyStr splitD := ⟨⟨_, mt_split, fun F ρ S S' H x dx d xs ds Q R rx rxs e k => by
  match dx, ds, rxs, rx, e with
  | .str s, .str t0 :: d2 :: ds2, _, _, e =>
    have e0 : splitD S (.str s) (.str t0 :: d2 :: ds2) = none := by unfold splitD; rcases t0 with _ | ⟨c0, _ | ⟨c1, t1⟩⟩ <;> rfl
    rw [e0] at e; cases e
  | .str s, [.str t], .cons (.str _ ht) .nil, .str _ hs, e =>
    match t, e with
    | [c], e =>
      have e : (if s.length ≤ 90000 then some (D.lst ((splitM s [c]).map .str), S) else none) = some (d, S') := e
      by_cases h : s.length ≤ 90000
      · rw [if_pos h] at e; cases e
        refine ⟨tx s, tx [c], rfl, rfl, rfl, by rw [tx_len]; exact Nat.le_trans (Nat.add_le_add_right h 2) (by decide), fun p hp => ?_⟩
        rw [← split_tx]
        exact now_lst R (rds_strO _ fun l hl c' hc' => hs c' (by rw [← join_splitM s [c]]; exact mem_joinL hl hc')) hp k
      · rw [if_neg h] at e; cases e⟩, tyStr_ok⟩
/-! ### l.count(x), l.index(x) -/
def countD : OpM := fun S x xs => match xs with
  | [y] => (seqD S x).bind fun ds => if eqPre y (.lst ds) = true then some (.int (ds.countP (fun z => PyData.eqv z.py y.py) : Nat), S) else none
  | _ => none
theorem smt_count {k : Nat} (C : Ok X W (k + 1)) : SMt Y X "list" "list.count" tyList countD := ⟨⟨_, mt_countD (room65 C.room), fun F ρ S S' H x dx d xs ds Q R rx rxs e k => by
  match ds, rxs, e with
  | [y], .cons ry .nil, e =>
    have e : ((seqD S dx).bind fun ds => if eqPre y (.lst ds) = true then some (D.int (ds.countP (fun z => PyData.eqv z.py y.py) : Nat), S) else none) = some (d, S') := e
    cases e1 : seqD S dx with
    | none => rw [e1] at e; cases e
    | some ds =>
      rw [e1] at e
      have e : (if eqPre y (.lst ds) = true then some (D.int (ds.countP (fun z => PyData.eqv z.py y.py) : Nat), S) else none) = some (d, S') := e
      by_cases h : eqPre y (.lst ds) = true
      · rw [if_pos h] at e; cases e
        obtain ⟨f1, f2, d1, d2⟩ := eqPre_ok h
        obtain ⟨p, ys, rfl, hp, hx⟩ := seq_rd R rx e1
        obtain ⟨q1, q2⟩ := RDs.dp R.ex hx f2
        obtain ⟨q3, q4⟩ := RD.dp R.ex ry f1
        refine ⟨p, _, y.py, D.pys ds, rfl, rfl, .lst (SqL.of hp) q1, q3, shaped_of (d := D.py (.lst ds)) q2 d2, shaped_of q4 d1, ?_⟩
        have ec : ∀ ds : List D, (D.pys ds).countP (fun z => PyData.eqv z y.py) = ds.countP (fun z => PyData.eqv z.py y.py) := fun ds => by
          induction ds with
          | nil => rfl
          | cons d ds ih => show (d.py :: D.pys ds).countP _ = _; rw [List.countP_cons, List.countP_cons, ih]
        rw [ec]
        exact now_int R k
      · rw [if_neg h] at e; cases e⟩, tyList_ok⟩
def indexD : OpM := fun S x xs => match xs with
  | [y] => (seqD S x).bind fun ds => if eqPre y (.lst ds) = true then (ds.findIdx? fun z => PyData.eqv z.py y.py).map fun j => (.int (j : Nat), S) else none
  | _ => none
theorem pys_get : ∀ {ds : List D} {j : Nat}, (D.pys ds)[j]? = (ds[j]?).map D.py
  | [], _ => rfl
  | d :: ds, 0 => rfl
  | d :: ds, j + 1 => by
    show (D.pys ds)[j]? = _
    rw [pys_get]; rfl
theorem smt_index {k : Nat} (C : Ok X W (k + 1)) : SMt Y X "list" "list.index" tyList indexD := ⟨⟨_, mt_indexD (room65 C.room), fun F ρ S S' H x dx d xs ds Q R rx rxs e k => by
  match ds, rxs, e with
  | [y], .cons ry .nil, e =>
    have e : ((seqD S dx).bind fun ds => if eqPre y (.lst ds) = true then (ds.findIdx? fun z => PyData.eqv z.py y.py).map fun j => (D.int (j : Nat), S) else none) = some (d, S') := e
    cases e1 : seqD S dx with
    | none => rw [e1] at e; cases e
    | some ds =>
      rw [e1] at e
      have e : (if eqPre y (.lst ds) = true then (ds.findIdx? fun z => PyData.eqv z.py y.py).map fun j => (D.int (j : Nat), S) else none) = some (d, S') := e
      by_cases h : eqPre y (.lst ds) = true
      · rw [if_pos h] at e
        cases e2 : ds.findIdx? fun z => PyData.eqv z.py y.py with
        | none => rw [e2] at e; cases e
        | some j =>
          rw [e2] at e; cases e
          obtain ⟨f1, f2, d1, d2⟩ := eqPre_ok h
          obtain ⟨p, ys, rfl, hp, hx⟩ := seq_rd R rx e1
          obtain ⟨q1, q2⟩ := RDs.dp R.ex hx f2
          obtain ⟨q3, q4⟩ := RD.dp R.ex ry f1
          obtain ⟨hj, h1, h2⟩ := List.findIdx?_eq_some_iff_getElem.mp e2
          refine ⟨p, _, y.py, D.pys ds, j, ds[j].py, rfl, rfl, .lst (SqL.of hp) q1, q3, shaped_of (d := D.py (.lst ds)) q2 d2, shaped_of q4 d1, ?_, h1, fun m z hm hz => ?_, now_int R k⟩
          · rw [pys_get, List.getElem?_eq_getElem hj]; rfl
          · rw [pys_get, List.getElem?_eq_getElem (by omega)] at hz
            cases hz
            have := h2 m hm
            simpa using this
      · rw [if_neg h] at e; cases e⟩, tyList_ok⟩
/-! ### xs += ys, xs a list of the store -/
def sAugL (i : Nat) (re : Ev → Store → Res D) : SM := fun env S => (rVar i env S).st env fun x S0 => (re env S0).st env fun y S1 => match x, y with
  | .loc n, .lst es => match S1[n]? with
    | some (.lst ds) => if ds.length + es.length ≤ 100000 then some (.nx (env.set i (some (.loc n))), S1.set n (.lst (ds ++ es))) else none
    | _ => none
  | _, _ => none
theorem ss_augL (i : Nat) {x : Str} {pos' : Pos} {re : Ev → Store → Res D} (he : SE Y X W e re) (hN : X.N.Nodup) (hi : X.N[i]? = some x := by rfl) (hx : Loc X.env.scope x := by first | exact Or.inl rfl | exact Or.inr rfl) (hf : X.fn x = true ∨ X.env.scope.names.lookup x = some .local := by first | exact .inl rfl | exact .inr rfl) :
    SS Y X W (.AugAssign (.Name x pos') .Add e pos) (sAugL i re) := by
  obtain ⟨te, e1, e2⟩ := he.ex
  refine ⟨_, ps_aug hN hi hx e1 (pip_of iop_ext) hf, fun F ρ S H σ env Z R E h => ?_⟩
  unfold sAugL rVar at h
  cases q : env[i]? with
  | none => rw [q] at h; exact False.elim h
  | some o =>
    cases o with
    | none => rw [q] at h; exact False.elim h
    | some d =>
      rw [q] at h
      obtain ⟨v, hv, rv⟩ := E.2 i d q
      refine ⟨v, hv, e2.thenS R E (Z := Z) h fun d2 u2 S2 F2 ρ2 H2 R2 n2 E2 ru2 q2 => ?_⟩
      have rv2 := rv.mono n2.ex n2.pre
      cases rv2 with
      | loc hn =>
        rename_i n a
        cases ru2 with
        | lst h1 h2 =>
          rename_i b ys es
          dsimp only at q2
          cases e3 : S2[n]? with
          | none => rw [e3] at q2; exact False.elim q2
          | some c =>
            rw [e3] at q2
            cases c with
            | lst ds =>
              dsimp only at q2
              by_cases hl : ds.length + es.length ≤ 100000
              · rw [if_pos hl] at q2
                obtain ⟨fa, xs, ha, hxs⟩ := R2.cell n a _ hn e3
                obtain ⟨R3, n3⟩ := R2.wlst hn fa (hxs.append h2)
                refine ⟨a, b, xs, ys, rfl, rfl, ha, R2.ex _ _ h1, by rw [hxs.length, h2.length]; exact small _ hl, ?_⟩
                exact q2 F2 ρ2 _ R3 n3 _ ((E2.nx n3).set i (.loc hn))
              · rw [if_neg hl] at q2; exact False.elim q2
            | _ => exact False.elim q2
        | _ => exact False.elim q2
      | _ => cases ru2 <;> exact False.elim q2
end
end L3
set_option Elab.async false
set_option linter.all false
set_option maxRecDepth 100000
set_option maxHeartbeats 2000000
/-! try and isinstance by what the module's namespace holds -/
namespace L3
open PySem PySem.Spec L2 PyProof.Rows
/-- x is a class that catches the first n exceptions -/
structure ExmL (K : PySem.W.Frag) (mg : Str → Option Value) (Y : Pc) (x : Str) (n : Nat) : Prop where
  ex : ∃ C : Addr, mg x = some (.ref C) ∧ ∀ c, c < n → PySem.W.exmOne K (.ref (Y.xc c)) (.ref C) = some true
/-- x is an own class; which of the exceptions are of it -/
structure TyO (K : PySem.W.Frag) (mg : Str → Option Value) (Y : Pc) (x : Str) (l : List Bool) : Prop where
  ex : ∃ C : Addr, mg x = some (.ref C) ∧ KitL K Y (.ref C) l
structure TyB (K : PySem.W.Frag) (mg : Str → Option Value) (Y : Pc) (x : String) (l : List Bool) : Prop where
  no : mg (Str.ofString x) = none
  kit : KitL K Y (.type x) l
section
variable {Y : Pc} {X : Cx} {W : WX} {a : Expr} {pos : Pos} {ra : Ev → Store → Res D}
theorem Ok.tr {W' : WX} {k : Nat} {pn : List (Addr × Obj)} {xe : Value → Shared → Prop} (C : Ok X W k) (tk : Takes (X.tr pn xe) W') : Ok (X.tr pn xe) W' k := ⟨fun σ => passAt tk σ, C.calm, C.room, C.nd, C.gd⟩
theorem se_isxO {x T : Str} {p p2 : Pos} (l : List Bool) (h : TyO X.K X.mg Y T l) (hm : X.mg "isinstance" = none) (ha : SE Y X W a ra) (hx : x = "isinstance" := by rfl) (hg : Gl X x := by rfl) (hgT : Gl X T := by rfl) (hd : (T == ("__debug__" : Str)) = false := by decide)
    (he : starEach [a, .Name T p2] X.env = (false, eval a X.env) :: starEach [.Name T p2] X.env := by rfl) (he2 : starEach [.Name T p2] X.env = (false, eval (.Name T p2) X.env) :: starEach [] X.env := by rfl)
    (hpl : (backTo pos (starEach [.Name T p2] X.env)).any (·.1) = false := by rfl) : SE Y X W (.Call (.Name x p) [a, .Name T p2] [] pos) (r1 (isxD l) ra) := by
  obtain ⟨C, h1, h2⟩ := h.ex
  exact se_isx (cvV := .ref C) (cv := .ref C) l (pe_glob (v := .ref C) hgT h1 (show RelV (.ref C) (.ref C) from rfl) hd) (fun u r => r) h2 hx hm ha hg he he2 hpl
theorem se_isxB {x T : Str} {p p2 : Pos} (t : String) (l : List Bool) (h : TyB X.K X.mg Y t l) (hm : X.mg "isinstance" = none) (hb : bootBuiltins T = some (.type t)) (ha : SE Y X W a ra) (hT : T = Str.ofString t := by rfl) (hx : x = "isinstance" := by rfl) (hg : Gl X x := by rfl) (hgT : Gl X T := by rfl) (hn : T ≠ "__name__" := by decide) (hd : (T == ("__debug__" : Str)) = false := by decide)
    (he : starEach [a, .Name T p2] X.env = (false, eval a X.env) :: starEach [.Name T p2] X.env := by rfl) (he2 : starEach [.Name T p2] X.env = (false, eval (.Name T p2) X.env) :: starEach [] X.env := by rfl)
    (hpl : (backTo pos (starEach [.Name T p2] X.env)).any (·.1) = false := by rfl) : SE Y X W (.Call (.Name x p) [a, .Name T p2] [] pos) (r1 (isxD l) ra) :=
  se_isx l (pe_bltn (v := .ty t) hgT (by rw [hT]; exact h.no) hb rfl hn hd) (fun u r => by cases r; rfl) h.kit hx hm ha hg he he2 hpl
theorem ss_tryO {x n m : Str} {i j nx : Nat} {body : List Stmt} {np ep mp apos pos pos' : Pos} {r : SM} {k : Nat} (C : Ok X W k) (h : ExmL X.K X.mg Y x nx) (hs : X.stack = X.env :: X.outer := by rfl) (hf : X.env.frame = some X.env.locals := by rfl) (hex : X.ex = [] := by rfl) (hi : X.N[i]? = some n := by rfl) (hj : X.N[j]? = some m := by rfl) (hln : X.env.kindOf n = some .local := by rfl) (hlm : X.env.scope.names.lookup m = some .local := by rfl) (hvn : Vis X.env.scope n := by exact Or.inl rfl) (hdn : (n == ("__debug__" : Str)) = false := by decide) (hcn : (n == ("__classdict__" : Str)) = false := by decide) (hg : Gl X x := by rfl) (hdx : (x == ("__debug__" : Str)) = false := by decide)
    (hsw : swapsWith (.Name n ep) (some (.Name m mp)) apos.line X.env = pure false := by rfl)
    (hb : ∀ (W' : WX) (pn : List (Addr × Obj)) (xe : Value → Shared → Prop), Takes (X.tr pn xe) W' → PassesOwn (model X.prog X.w) X.A X.env xe → Ok (X.tr pn xe) W' k → SSs Y (X.tr pn xe) W' body r) :
    SS Y X W (.Try body [.ExceptHandler (some (.Name x np)) (some n) [.Assign [.Name m mp] (.Name n ep) apos] pos'] [] [] pos) (sTry nx i j r) := by
  obtain ⟨Ca, h1, h2⟩ := h.ex
  exact ss_try hs hf hex C.nd hi hj hln hlm hvn hdn hcn ⟨hg, hdx, .inl h1⟩ hsw h2 fun W' pn xe tk po => hb W' pn xe tk po (C.tr tk)
end
/-! what K says, by a look -/
section
variable {K : PySem.W.Frag}
def excCB (K : PySem.W.Frag) (D : Addr) : Bool :=
  decide (PySem.W.findIn K (.ref D) "__getattribute__" = some (some (.builtin "BaseException.__getattribute__"))) && (decide (PySem.W.findIn K (.ref D) "__getattr__" = some none) && (decide (PySem.W.subIn K (.ref D) (.type "BaseException") = some true) && (PySem.W.hasDictIn K D &&
  (decide (PySem.W.findIn K (.ref D) "__class__" = some (some (.builtin "object.__class__"))) && (decide (PySem.W.specialIn K (.builtin "object.__class__") "__get__" = some (some (.builtin "getset_descriptor.__get__"))) && (decide (PySem.W.takesIn K (.builtin "object.__class__") = some true) && decide (PySem.W.mroIn K D (.type "object") = some true)))))))
theorem excC_ok {D : Addr} (h : excCB K D = true) : ExcC K D := by
  unfold excCB at h
  simp only [Bool.and_eq_true, decide_eq_true_eq] at h
  obtain ⟨h1, h2, h3, h4, h5, h6, h7, h8⟩ := h
  exact ⟨h1, h2, h3, h4, h5, h6, h7, h8⟩
/-- all exceptions, at the addresses xs: isinstance asks them rightly -/
def excsB (K : PySem.W.Frag) (xs : List Addr) : Bool := xs.all (excCB K)
def kitLB (K : PySem.W.Frag) (xs : List Addr) (cv : Value) (l : List Bool) : Bool := decide (l.length ≤ xs.length) && (xs.zip l).all fun p => decide (PySem.W.kitOne K (.ref p.1) cv = some p.2)
def exmLB (K : PySem.W.Frag) (xs : List Addr) (cv : Value) : Bool := xs.all fun a => decide (PySem.W.exmOne K (.ref a) cv = some true)
theorem kitL_ok {Y : Pc} {xs : List Addr} {cv : Value} {l : List Bool} (hY : ∀ c a, xs[c]? = some a → Y.xc c = a) (h1 : excsB K xs = true) (h2 : kitLB K xs cv l = true) : KitL K Y cv l := ⟨fun c b hb => by
  unfold kitLB at h2
  rw [Bool.and_eq_true] at h2
  obtain ⟨h2, h3⟩ := h2
  have hl := of_decide_eq_true h2
  have hc : c < l.length := (List.getElem?_eq_some_iff.mp hb).1
  have ha : xs[c]? = some xs[c] := List.getElem?_eq_getElem (by omega)
  have e := hY c _ ha
  rw [e]
  have m : (xs[c], b) ∈ xs.zip l := by
    refine List.mem_of_getElem? (i := c) ?_
    rw [List.getElem?_zip_eq_some]
    exact ⟨ha, hb⟩
  exact ⟨excC_ok (List.all_eq_true.mp h1 _ (List.mem_of_getElem? ha)), of_decide_eq_true (List.all_eq_true.mp h3 _ m)⟩⟩
theorem exmL_ok {Y : Pc} {mg : Str → Option Value} {x : Str} {C : Addr} {xs : List Addr} (hY : ∀ c a, xs[c]? = some a → Y.xc c = a) (hm : mg x = some (.ref C)) (h : exmLB K xs (.ref C) = true) : ExmL K mg Y x xs.length := ⟨C, hm, fun c hc => by
  have ha : xs[c]? = some xs[c] := List.getElem?_eq_getElem hc
  rw [hY c _ ha]
  exact of_decide_eq_true (List.all_eq_true.mp h _ (List.mem_of_getElem? ha))⟩
end
end L3
namespace L2
open PySem PySem.Spec PyProof.Rows
theorem op_mulS {X : Cx} : OpR X (binaryOp .Mult) (fun x y H Q => ∃ a n, x = .str a ∧ y = .int n ∧ MulOk a n ∧ Q (.str (Txt.mul a n)) H) := by
  intro pins s σ H x y v u Q I rx ry h
  obtain ⟨a, n, rfl, rfl, hok, q⟩ := h
  obtain ⟨t, rfl⟩ := rx
  obtain ⟨t2, rfl⟩ := ry
  exact SB.mul hok fun t' k => ⟨.str _, H, I.tok _, ⟨_, rfl⟩, q⟩
end L2
namespace L3
open PySem PySem.Spec L2 PyProof.Rows
theorem rep_app (l : List Nat) : ∀ (k : Nat) (acc : Array Nat), (List.replicate k l.toArray).foldl (· ++ ·) acc = acc ++ (List.replicate k l).flatten.toArray
  | 0, acc => by simp
  | k + 1, acc => by
    rw [List.replicate_succ, List.foldl_cons, rep_app l k, List.replicate_succ, List.flatten_cons]
    simp [Array.append_assoc]
theorem tx_mul {s : List Nat} {k : Nat} (h2 : 2 ≤ k) (hs : s ≠ []) : Txt.mul (tx s) (k : Int) = tx (List.replicate k s).flatten := by
  have hl : s.length ≠ 0 := fun e => hs (List.length_eq_zero_iff.mp e)
  unfold Txt.mul
  rw [if_neg (by omega), if_neg (by
    rw [Bool.or_eq_true]
    rintro (h | h)
    · have := beq_iff_eq.mp h; omega
    · have := beq_iff_eq.mp h; exact hl (by rw [tx_len] at this; exact this))]
  show (⟨(List.replicate (k : Int).toNat s.toArray).foldl (· ++ ·) #[]⟩ : Str) = _
  rw [Int.toNat_natCast, rep_app]
  simp
section
variable {Y : Pc} {X : Cx}
def mulSD : Op2 := fun _ x y => match x, y with
  | .str s, .int k => if 2 ≤ k ∧ k ≤ 10000 ∧ s ≠ [] ∧ s.length ≤ 10 then some (.str (List.replicate k.toNat s).flatten) else none
  | _, _ => none
theorem sop_mulS : SOp Y X (binaryOp .Mult) mulSD := ⟨_, op_mulS, fun F ρ S H x y dx dy d Q R rx ry e k => by
  cases rx <;> cases ry <;> try (cases e; done)
  rename_i s hs kk
  have e : (if 2 ≤ kk ∧ kk ≤ 10000 ∧ s ≠ [] ∧ s.length ≤ 10 then some (D.str (List.replicate kk.toNat s).flatten) else none) = some d := e
  by_cases h : 2 ≤ kk ∧ kk ≤ 10000 ∧ s ≠ [] ∧ s.length ≤ 10
  · rw [if_pos h] at e; cases e
    obtain ⟨n, rfl⟩ : ∃ n : Nat, kk = (n : Int) := ⟨_, (Int.toNat_of_nonneg (by omega)).symm⟩
    have hn : 2 ≤ n ∧ n ≤ 10000 := by omega
    refine ⟨tx s, (n : Int), rfl, rfl, ⟨?_, fun _ _ => ?_, fun _ _ => ?_⟩, ?_⟩
    · rw [decide_eq_false (by omega), decide_eq_false (by omega)]; rfl
    · rw [tx_len]
      have : (10 : Int) ≤ (2 ^ 63 - 1) / (n : Int) := by
        rw [Int.le_ediv_iff_mul_le (by omega)]
        omega
      omega
    · rw [tx_len, Int.toNat_natCast]
      have : s.length * n ≤ 10 * 10000 := Nat.mul_le_mul h.2.2.2 hn.2
      unfold Builtin.Str.tooLong
      rw [sizeLine_eq]
      exact decide_eq_false (by omega)
    · rw [tx_mul hn.1 h.2.2.1]
      rw [Int.toNat_natCast] at k
      refine now_str R (fun c hc => ?_) k
      obtain ⟨l, hl, hc⟩ := List.mem_flatten.mp hc
      rw [List.eq_of_mem_replicate hl] at hc
      exact hs c hc
  · rw [if_neg h] at e; cases e⟩
end
end L3
namespace L3
open PySem PySem.Spec L2
theorem ga_at {K : PySem.W.Frag} {names : List Str} {c : Nat} {a : Addr} (h : (names.map (He.ga K))[c]? = some a) : He.ga K (names.getD c "") = a := by
  rw [List.getElem?_map] at h
  cases e : names[c]? with
  | none => rw [e] at h; cases h
  | some n =>
    rw [e] at h
    cases h
    simp [List.getD, e]
end L3
set_option Elab.async false
set_option linter.all false
set_option maxRecDepth 100000
set_option maxHeartbeats 2000000
/-! own classes: made, attributes, methods -/
namespace L2
open PySem PySem.Spec PyProof.Rows
section
variable {X : Cx} {k : Nat} {f C : Addr} {fd : FuncData} {ps : List Str} {sp : Sp} {E : St → XK} {x m : Str} {p pos apos : Pos} {e o : Expr} {es : List Expr} {ta : TE} {t : TA}
/-- o.m(..), what is wished of an exception by the slots -/
def tMethZ (C : Addr) (m : Str) (sp : Sp) (E : St → XK) (ta : TE) (t : TA) : TE := fun σ H Q => ta σ H fun x H1 => ∃ a dx fs, x = .ref a ∧ H1 a = some (.ins C dx fs) ∧ fs.lookup m = none ∧
  t σ H1 fun vs H2 => sp (x :: vs) H2 Q (E σ)
theorem pe_methZ1 {CX : CXT} {pl : Sem Bool} (he : PE X o ta) (c : Cls X.K C) (hm : Meth X.K C m f) (F : GnOk X.prog X.w X.K X.mg X.base CX k f fd ps sp) (gd : X.A.guards = some []) (hr : Room k X.A) (hb : Binds X.K fd ps []) (hx : ∀ σ, PassesAt CX X σ (E σ)) (ha : PA X (e :: es) t)
    (hst : starEach (e :: es) X.env = (false, eval e X.env) :: starEach es X.env := by rfl) (hpl : (backTo pos (starEach es X.env)).any (·.1) = false := by rfl)
    (ht : eval (.Call (.Attribute o m apos) (e :: es) [] pos) X.env = (do
      let ov ← eval o X.env
      standAt apos.atName
      let (f, first) ← holding [ov] (getMethod ov m pl)
      callWith pos f first (backTo pos (starEach (e :: es) X.env)) (backToKw pos (keywordEach [] X.env))) := by rfl) :
    PE X (.Call (.Attribute o m apos) (e :: es) [] pos) (tMethZ C m sp E ta t) := by
  refine ⟨fun pins s σ H Q I h => ?_⟩
  refine PySem.W.methodCall_KW (pl := pl) (thn (he.run pins s σ H _ I h) fun u s1 ⟨x, H1, I1, rx, a, dx, fs, ex, ea, l, q⟩ => ?_) ht
  subst ex
  obtain rfl : u = Value.ref a := rx
  refine getmeth_ok I1 ea c hm l ?_
  refine PySem.W.callWith_K (first := [.ref a]) (h₀ := X.base) I.ok.mod.kin hm.kp (thn (ha.run pos pins s1 σ H1 _ I1 q) fun us s2 ⟨vs, H2, I2, r, q2⟩ => ⟨I2.kIn, ?_⟩) hst hpl
  exact run_gn (us := .ref a :: us) (vs := .ref a :: vs) F gd hr hb (hx σ) I2 (.cons rfl r) q2
theorem pe_methZ0 {CX : CXT} {pl : Sem Bool} (he : PE X o ta) (c : Cls X.K C) (hm : Meth X.K C m f) (F : GnOk X.prog X.w X.K X.mg X.base CX k f fd ps sp) (gd : X.A.guards = some []) (hr : Room k X.A) (hb : Binds X.K fd ps []) (hx : ∀ σ, PassesAt CX X σ (E σ))
    (ht : eval (.Call (.Attribute o m apos) [] [] pos) X.env = (do
      let ov ← eval o X.env
      standAt apos.atName
      let (f, first) ← holding [ov] (getMethod ov m pl)
      callWith pos f first (backTo pos (starEach [] X.env)) (backToKw pos (keywordEach [] X.env))) := by rfl) :
    PE X (.Call (.Attribute o m apos) [] [] pos) (tMethZ C m sp E ta tNil) := by
  refine ⟨fun pins s σ H Q I h => ?_⟩
  refine PySem.W.methodCall_KW (pl := pl) (thn (he.run pins s σ H _ I h) fun u s1 ⟨x, H1, I1, rx, a, dx, fs, ex, ea, l, q⟩ => ?_) ht
  subst ex
  obtain rfl : u = Value.ref a := rx
  refine getmeth_ok I1 ea c hm l ?_
  exact PySem.W.callWith_K0 (first := [.ref a]) I1.kIn hm.kp (run_gn (us := [.ref a]) (vs := [.ref a]) F gd hr hb (hx σ) I1 (.cons rfl .nil) q)
/-- C(..) -/
def tMakeZ (C : Addr) (sp : Sp) (E : St → XK) (t : TA) : TE := fun σ H Q => t σ H fun vs H1 => ∀ x dx, H1 x = none → H1 dx = none → dx ≠ x →
  sp (.ref x :: vs) (upd (upd H1 dx (.own x)) x (.ins C dx [])) (fun v H2 => v = .non ∧ Q (.ref x) H2) (E σ)
theorem run_makeZ {CX : CXT} {pins : List (Addr × Obj)} {σ : St} {H : Hp} {s : Shared} {Q : VK} {us : List Value} {vs : List V} (M : Mk X.K C f) (F : GnOk X.prog X.w X.K X.mg X.base CX k f fd ps sp) (gd : X.A.guards = some []) (hr : Room (k + 1) X.A) (hb : Binds X.K fd ps [])
    (hx : PassesAt CX X σ (E σ)) (I : Inv X pins σ H s) (r : Vals vs us)
    (h : ∀ x dx, H x = none → H dx = none → dx ≠ x → sp (.ref x :: vs) (upd (upd H dx (.own x)) x (.ins C dx [])) (fun v H2 => v = .non ∧ Q (.ref x) H2) (E σ)) :
    wpAny (model X.prog X.w) X.A (call (.ref C) us) (EP X pins σ Q) X.xe s := by
  have hq := h (s.heap.objs.size + 1) s.heap.objs.size (I.hok.fresh (Nat.le_succ _)) (I.hok.fresh (Nat.le_refl _)) (Nat.ne_of_lt (Nat.lt_succ_self _))
  have I2 := Inv.made (C := C) I
  have r2 : Vals (V.ref (s.heap.objs.size + 1) :: vs) (Value.ref (s.heap.objs.size + 1) :: us) := .cons rfl r
  have hl : (Value.ref (s.heap.objs.size + 1) :: us ++ []).length = ps.length := by
    have e := r2.length
    rw [F.len _ _ _ _ hq] at e
    rw [List.append_nil]
    exact e.symm
  have bd := hb _ (Value.ref (s.heap.objs.size + 1) :: us) I2.kIn hl
  rw [List.append_nil] at bd
  refine wpAny_call (make_map (f := f) I.kIn M.makes M.init (beq_iff_eq.mp M.fn) (codeAny_mono (F.go _ X.stack _ _ ⟨Value.ref (s.heap.objs.size + 1) :: us, []⟩ (Value.ref (s.heap.objs.size + 1) :: us) _ _ (E σ) gd (hr.make C us [])
    (I2.env0.make C us []) bd r2 hq) fun r s' hq' => ?_))
  cases r with
  | error e => exact hx pins _ _ e s' I2 hq'
  | ok fl =>
    cases fl with
    | ret u =>
      obtain ⟨v, H', I3, rv, ev, q3⟩ := I2.after hq'
      subst ev
      exact ⟨rv, ⟨V.ref (s.heap.objs.size + 1), H', I3, rfl, q3⟩⟩
    | next => exact False.elim hq'
    | brk => exact False.elim hq'
    | cont => exact False.elim hq'
theorem pe_makeZ {CX : CXT} (M : Mk X.K C f) (F : GnOk X.prog X.w X.K X.mg X.base CX k f fd ps sp) (gd : X.A.guards = some []) (hr : Room (k + 1) X.A) (hg : Gl X x) (hm : X.mg x = some (.ref C)) (hb : Binds X.K fd ps []) (hx : ∀ σ, PassesAt CX X σ (E σ))
    (ha : PA X (e :: es) t) (hdb : (x == ("__debug__" : Str)) = false := by decide) (he : starEach (e :: es) X.env = (false, eval e X.env) :: starEach es X.env := by rfl) (hpl : (backTo pos (starEach es X.env)).any (·.1) = false := by rfl) :
    PE X (.Call (.Name x p) (e :: es) [] pos) (tMakeZ C sp E t) := by
  refine ⟨fun pins s σ H Q I h => ?_⟩
  refine wpAny_Call_Name_kw (ld_glob I hg hm ?_ hdb)
  refine PySem.W.callWith_K (h₀ := X.base) I.ok.mod.kin M.kp (thn (ha.run pos pins s σ H _ I h) fun us s1 ⟨vs, H1, I1, r, q⟩ => ⟨I1.kIn, ?_⟩) he hpl
  exact run_makeZ M F gd hr hb (hx σ) I1 r q
end
end L2
namespace L3
open PySem PySem.Spec L2 PyProof.Rows
section
variable {Y : Pc} {X : Cx} {W : WX} {a b e v : Expr} {es : List Expr} {pos : Pos} {K : PySem.W.Frag} {F H : Hp} {ρ : List Addr} {S : Store} {ra rb : Ev → Store → Res D} {rs : Ev → Store → Res (List D)}
/-! ### attributes -/
def fldD (c : Nat) (f : Str) : Op1 := fun S x => match x with
  | .loc i => match S[i]? with
    | some (.ins c' fs) => if c' = c then fs.lookup f else none
    | _ => none
  | _ => none
structure FldOk (K : PySem.W.Frag) (Y : Pc) (c : Nat) (f : Str) : Prop where
  cls : Cls K (Y.cl c)
  no : NoAttr K (Y.cl c) f
theorem zip_lookup {f : Str} {d : D} : ∀ {fs : List (Str × D)} {vs : List V}, RDs K F ρ vs (fs.map (·.2)) → fs.lookup f = some d → ∃ v, ((fs.map (·.1)).zip vs).lookup f = some v ∧ RD K F ρ v d
  | [], _, _, e => by cases e
  | (g, d0) :: fs, _, h, e => by
    cases h with
    | cons h1 h2 =>
      simp only [List.map_cons, List.zip_cons_cons, List.lookup_cons] at e ⊢
      cases q : f == g with
      | true => rw [q] at e; cases e; exact ⟨_, rfl, h1⟩
      | false => rw [q] at e; exact zip_lookup h2 e
theorem zip_none {f : Str} : ∀ {fs : List (Str × D)} {vs : List V}, RDs K F ρ vs (fs.map (·.2)) → fs.lookup f = none → ((fs.map (·.1)).zip vs).lookup f = none
  | [], _, _, _ => by simp
  | (g, d0) :: fs, _, h, e => by
    cases h with
    | cons h1 h2 =>
      simp only [List.map_cons, List.zip_cons_cons, List.lookup_cons] at e ⊢
      cases q : f == g with
      | true => rw [q] at e; cases e
      | false => rw [q] at e; exact zip_none h2 e
theorem fld_ok {c : Nat} {f : Str} (h : FldOk K Y c f) : Op1Ok K Y (fldD c f) (fun x H Q => ∃ a C dx fs v, x = .ref a ∧ H a = some (.ins C dx fs) ∧ Cls K C ∧ NoAttr K C f ∧ fs.lookup f = some v ∧ Q v H) := fun F ρ S H x dx d Q R rx e k => by
  cases rx with
  | loc hi =>
    rename_i i a
    unfold fldD at e
    dsimp only at e
    cases e1 : S[i]? with
    | none => rw [e1] at e; cases e
    | some cc =>
      rw [e1] at e
      cases cc with
      | ins c' fs =>
        dsimp only at e
        by_cases hc : c' = c
        · subst hc
          rw [if_pos rfl] at e
          obtain ⟨fa, dx, vs, ha, hv⟩ := R.cell i a _ hi e1
          obtain ⟨v, q1, q2⟩ := zip_lookup hv e
          exact ⟨a, _, dx, _, v, rfl, ha, h.cls, h.no, q1, k F H v R (Nx.refl _ _ _) q2⟩
        · rw [if_neg hc] at e; cases e
      | _ => cases e
  | _ => cases e
theorem se_fld {c : Nat} {f : Str} (h : FldOk X.K Y c f) (ha : SE Y X W a ra) (hb : attributeBase a f X.env (eval a X.env) = eval a X.env := by rfl) : SE Y X W (.Attribute a f pos) (r1 (fldD c f) ra) := by
  obtain ⟨ta, a1, a2⟩ := ha.ex
  exact ⟨_, pe_fld a1 hb, ev_op1 (fld_ok h) a2⟩
def putA {α : Type} (f : Str) (d : α) : List (Str × α) → List (Str × α)
  | [] => [(f, d)]
  | (k, x) :: r => if k = f then (k, d) :: r else (k, x) :: putA f d r
theorem zip_put {f : Str} {d : D} {v : V} (hv : RD K F ρ v d) : ∀ {fs : List (Str × D)} {vs : List V}, RDs K F ρ vs (fs.map (·.2)) → ∃ vs', putF f v ((fs.map (·.1)).zip vs) = ((putA f d fs).map (·.1)).zip vs' ∧ RDs K F ρ vs' ((putA f d fs).map (·.2))
  | [], _, h => by
    cases h
    exact ⟨[v], rfl, .cons hv .nil⟩
  | (g, d0) :: fs, _, h => by
    cases h with
    | cons h1 h2 =>
      obtain ⟨vs', q1, q2⟩ := zip_put hv h2
      rename_i v0 vs
      show ∃ vs', (if g = f then (g, v) :: ((fs.map (·.1)).zip vs) else (g, v0) :: putF f v ((fs.map (·.1)).zip vs)) = ((if g = f then (g, d) :: fs else (g, d0) :: putA f d fs).map (·.1)).zip vs' ∧ RDs K F ρ vs' ((if g = f then (g, d) :: fs else (g, d0) :: putA f d fs).map (·.2))
      by_cases e : g = f
      · rw [if_pos e, if_pos e]
        exact ⟨v :: vs, rfl, .cons hv h2⟩
      · rw [if_neg e, if_neg e]
        exact ⟨v0 :: vs', by rw [q1]; rfl, .cons h1 q2⟩
/-- o.f = e -/
def sFld1 (c : Nat) (f : Str) (ro re : Ev → Store → Res D) : SM := fun env S => (re env S).st env fun y S1 => (ro env S1).st env fun x S2 => match x with
  | .loc i => match S2[i]? with
    | some (.ins c' fs) => if c' = c ∧ fs.length < 900 then some (.nx env, S2.set i (.ins c (putA f y fs))) else none
    | _ => none
  | _ => none
theorem ss_fld {c : Nat} {f : Str} {o : Expr} {pos' : Pos} {ro : Ev → Store → Res D} (h : FldOk X.K Y c f) (ho : SE Y X W o ro) (hv : SE Y X W v ra) (hs : swapsWith v (some (.Attribute o f pos')) pos.line X.env = pure false := by rfl) :
    SS Y X W (.Assign [.Attribute o f pos'] v pos) (sFld1 c f ro ra) := by
  obtain ⟨to, o1, o2⟩ := ho.ex
  obtain ⟨tv, v1, v2⟩ := hv.ex
  refine ⟨_, ps_fld o1 v1 hs, fun F ρ S H σ env Z R E h0 => ?_⟩
  refine v2.thenS R E (Z := Z) h0 fun d u S1 F1 ρ1 H1 R1 n1 E1 ru q1 => ?_
  refine o2.thenS R1 E1 (Z := Z) q1 fun d2 u2 S2 F2 ρ2 H2 R2 n2 E2 ru2 q2 => ?_
  cases ru2 with
  | loc hi =>
    rename_i i p
    dsimp only at q2
    cases e1 : S2[i]? with
    | none => rw [e1] at q2; exact False.elim q2
    | some cc =>
      rw [e1] at q2
      cases cc with
      | ins c' fs =>
        dsimp only at q2
        by_cases hc : c' = c ∧ fs.length < 900
        · rw [if_pos hc] at q2
          obtain ⟨hc1, hl⟩ := hc
          subst hc1
          obtain ⟨fp, dx, vs, hp, hvs⟩ := R2.cell i p _ hi e1
          obtain ⟨vs', p1, p2⟩ := zip_put (f := f) (ru.mono n2.ex n2.pre) hvs
          have hlen : ((fs.map (·.1)).zip vs).length < 1000 := by
            have := hvs.length
            rw [List.length_zip, List.length_map]
            omega
          refine ⟨p, _, dx, _, rfl, hp, h.cls, h.no, hlen, ?_⟩
          rw [p1]
          obtain ⟨R3, n3⟩ := R2.write (c := .ins c' (putA f d fs)) (o := .ins (Y.cl c') dx (((putA f d fs).map (·.1)).zip vs')) hi fp ⟨fp, dx, vs', upd_same, p2⟩
          exact q2 F2 ρ2 _ R3 n3 σ (E2.nx n3)
        · rw [if_neg hc] at q2; exact False.elim q2
      | _ => exact False.elim q2
  | _ => exact False.elim q2
/-! ### methods -/
structure MethOk (P : Program) (w : World) (K : PySem.W.Frag) (mg : Str → Option Value) (base : Heap) (Y : Pc) (c : Nat) (x : Str) (n lvl : Nat) (m : FSem) : Prop where
  cls : Cls K (Y.cl c)
  ex : ∃ f fd ps, GnOk P w K mg base (L2.CX P w) lvl f fd ps (spOf K Y m n) ∧ Meth K (Y.cl c) x f ∧ Binds K fd ps []
def rMeth (c : Nat) (nm : Str) (m : FSem) (ra : Ev → Store → Res D) (rs : Ev → Store → Res (List D)) : Ev → Store → Res D := fun env S => (ra env S).bind fun x S1 => match x with
  | .loc i => match S1[i]? with
    | some (.ins c' fs) => if c' = c ∧ (fs.lookup nm).isNone = true then (rs env S1).bind fun xs S2 => m S2 (.loc i :: xs) else .stuck
    | _ => .stuck
  | _ => .stuck
theorem ev_meth {c n : Nat} {nm : Str} {m : FSem} {ta : TE} {t : TA} (ha : EvE K Y W ta ra) (hs : EvA K Y W t rs) (hl : Len n rs) : EvE K Y W (tMethZ (Y.cl c) nm (spOf K Y m (n + 1)) (WE W) ta t) (rMeth c nm m ra rs) := fun F ρ S H σ env Q R E h => by
  refine ha.then R E h fun d u S1 F1 ρ1 H1 R1 n1 E1 ru o1 => ?_
  cases ru with
  | loc hi =>
    rename_i i p
    dsimp only at o1
    cases e1 : S1[i]? with
    | none => rw [e1] at o1; exact False.elim o1
    | some cc =>
      rw [e1] at o1
      cases cc with
      | ins c' fs =>
        dsimp only at o1
        by_cases hc : c' = c ∧ (fs.lookup nm).isNone = true
        · rw [if_pos hc] at o1
          obtain ⟨hc1, hn⟩ := hc
          subst hc1
          obtain ⟨fp, dx, vs, hp, hvs⟩ := R1.cell i p _ hi e1
          refine ⟨p, dx, _, rfl, hp, zip_none hvs (Option.isNone_iff_eq_none.mp hn), ?_⟩
          refine hs F1 ρ1 S1 H1 σ env _ R1 E1 ?_
          have o2 := o1.bind
          cases e2 : rs env S1 with
          | ok ds S2 =>
            rw [e2] at o2
            intro F2 ρ2 H2 R2 n2 us rus
            have hlen := hl.eq _ _ _ _ e2
            exact ⟨by simp [rus.length, hlen], F2, ρ2, S2, .loc i :: ds, R2, .cons (.loc (n2.pre _ _ hi)) rus, o2 F2 ρ2 H2 R2 n2⟩
          | exc c S2 => rw [e2] at o2; exact o2
          | stuck => rw [e2] at o2; exact o2
        · rw [if_neg hc] at o1; exact False.elim o1
      | _ => exact False.elim o1
  | _ => exact False.elim o1
theorem se_meth {c k lvl n : Nat} {m : FSem} {nm : Str} {o : Expr} {apos : Pos} {pl : Sem Bool} (C : Ok X W k) (h : MethOk X.prog X.w X.K X.mg X.base Y c nm (n + 1) lvl m) (hj : lvl ≤ k) (ho : SE Y X W o ra) (ha : SA Y X W (e :: es) rs) (hl : Len n rs)
    (hst : starEach (e :: es) X.env = (false, eval e X.env) :: starEach es X.env := by rfl) (hpl : (backTo pos (starEach es X.env)).any (·.1) = false := by rfl)
    (ht : eval (.Call (.Attribute o nm apos) (e :: es) [] pos) X.env = (do
      let ov ← eval o X.env
      standAt apos.atName
      let (f, first) ← holding [ov] (getMethod ov nm pl)
      callWith pos f first (backTo pos (starEach (e :: es) X.env)) (backToKw pos (keywordEach [] X.env))) := by rfl) :
    SE Y X W (.Call (.Attribute o nm apos) (e :: es) [] pos) (rMeth c nm m ra rs) := by
  obtain ⟨f, fd, ps, h1, h2, h3⟩ := h.ex
  obtain ⟨ta, a1, a2⟩ := ho.ex
  obtain ⟨t, b1, b2⟩ := ha.ex
  exact ⟨_, pe_methZ1 a1 h.cls h2 h1 C.gd (C.room.mono hj) h3 C.tk b1 hst hpl ht, ev_meth a2 b2 hl⟩
theorem se_meth0 {c k lvl : Nat} {m : FSem} {nm : Str} {o : Expr} {apos : Pos} {pl : Sem Bool} (C : Ok X W k) (h : MethOk X.prog X.w X.K X.mg X.base Y c nm 1 lvl m) (hj : lvl ≤ k) (ho : SE Y X W o ra)
    (ht : eval (.Call (.Attribute o nm apos) [] [] pos) X.env = (do
      let ov ← eval o X.env
      standAt apos.atName
      let (f, first) ← holding [ov] (getMethod ov nm pl)
      callWith pos f first (backTo pos (starEach [] X.env)) (backToKw pos (keywordEach [] X.env))) := by rfl) :
    SE Y X W (.Call (.Attribute o nm apos) [] [] pos) (rMeth c nm m ra rNil) := by
  obtain ⟨f, fd, ps, h1, h2, h3⟩ := h.ex
  obtain ⟨ta, a1, a2⟩ := ho.ex
  exact ⟨_, pe_methZ0 a1 h.cls h2 h1 C.gd (C.room.mono hj) h3 C.tk ht, ev_meth (n := 0) a2 ev_nil len_nil⟩
/-! ### C(..) -/
structure MakeOk (P : Program) (w : World) (K : PySem.W.Frag) (mg : Str → Option Value) (base : Heap) (Y : Pc) (c : Nat) (x : Str) (n lvl : Nat) (m : FSem) : Prop where
  g : mg x = some (.ref (Y.cl c))
  ex : ∃ f fd ps, GnOk P w K mg base (L2.CX P w) lvl f fd ps (spOf K Y m n) ∧ Mk K (Y.cl c) f ∧ Binds K fd ps []
def rMake (c : Nat) (m : FSem) (rs : Ev → Store → Res (List D)) : Ev → Store → Res D := fun env S => (rs env S).bind fun xs S1 => (m (S1 ++ [.ins c []]) (.loc S1.length :: xs)).bind fun r S2 => match r with
  | .non => .ok (.loc S1.length) S2
  | _ => .stuck
theorem ev_make {c n : Nat} {m : FSem} {t : TA} (hs : EvA K Y W t rs) (hl : Len n rs) : EvE K Y W (tMakeZ (Y.cl c) (spOf K Y m (n + 1)) (WE W) t) (rMake c m rs) := fun F ρ S H σ env Q R E h => by
  refine hs F ρ S H σ env _ R E ?_
  have h0 := Out.bind h
  cases e2 : rs env S with
  | exc c S2 => rw [e2] at h0; exact h0
  | stuck => rw [e2] at h0; exact h0
  | ok ds S1 =>
    rw [e2] at h0
    have hlen := hl.eq _ _ _ _ e2
    intro F1 ρ1 H1 R1 n1 us rus x dx hx hdx hne
    have o1 := h0 F1 ρ1 H1 R1 n1
    obtain ⟨R2, n2⟩ := R1.grown (o := .own x) hdx
    have hx2 : upd H1 dx (.own x) x = none := by rw [upd_ne (Ne.symm hne)]; exact hx
    have fx : F1 x = none := by
      cases e : F1 x with
      | none => rfl
      | some u => rw [R1.ex x u e] at hx; cases hx
    obtain ⟨R3, n3, e3⟩ := R2.alloc (o := .ins (Y.cl c) dx []) (cc := .ins c []) hx2 ⟨fx, dx, [], upd_same, .nil⟩
    have n23 := n2.trans n3
    refine ⟨by simp [rus.length, hlen], F1, ρ1 ++ [x], S1 ++ [.ins c []], .loc S1.length :: ds, R3, .cons (.loc e3) (rus.mono n23.ex n23.pre), ?_⟩
    have o2 := (Out.pre n23 o1).bind
    refine o2.imp (fun d S4 F4 ρ4 H4 R4 n4 o4 u ru => ?_) fun _ _ z => z
    cases ru with
    | non => exact ⟨rfl, Out.now o4 R4 _ (.loc (n4.pre _ _ e3))⟩
    | _ => exact False.elim o4
theorem se_make {c k lvl n : Nat} {m : FSem} {x : Str} {p : Pos} (C : Ok X W (k + 1)) (h : MakeOk X.prog X.w X.K X.mg X.base Y c x (n + 1) lvl m) (hj : lvl ≤ k) (ha : SA Y X W (e :: es) rs) (hl : Len n rs) (hg : Gl X x := by rfl)
    (hdb : (x == ("__debug__" : Str)) = false := by decide) (he : starEach (e :: es) X.env = (false, eval e X.env) :: starEach es X.env := by rfl) (hpl : (backTo pos (starEach es X.env)).any (·.1) = false := by rfl) :
    SE Y X W (.Call (.Name x p) (e :: es) [] pos) (rMake c m rs) := by
  obtain ⟨f, fd, ps, h1, h2, h3⟩ := h.ex
  obtain ⟨t, b1, b2⟩ := ha.ex
  exact ⟨_, pe_makeZ h2 h1 C.gd (C.room.mono (by omega)) hg h.g h3 C.tk b1 hdb he hpl, ev_make b2 hl⟩
end
end L3
set_option Elab.async false
set_option linter.all false
set_option maxRecDepth 100000
set_option maxHeartbeats 4000000
/-! a comprehension over a list of the store; pop; three names at once; len of an own class -/
namespace L3
open PySem PySem.Spec L2 PyProof.Rows
section
variable {Y : Pc} {X : Cx} {W : WX} {a b e v iter : Expr} {es : List Expr} {pos : Pos} {K : PySem.W.Frag} {F H : Hp} {ρ : List Addr} {S : Store} {ra rb : Ev → Store → Res D} {rs : Ev → Store → Res (List D)} {rt : Ev → Store → Res Bool}
def lcGoL (k : Nat) (t : Tg) (rt : Ev → Store → Res Bool) (re : Ev → Store → Res D) (env : Ev) : Nat → Nat → Store → Res (List D)
  | 0, _, _ => .stuck
  | n + 1, i, S => match S[k]? with
    | some (.lst ds) => match ds[i]? with
      | none => .ok [] S
      | some d => match t.set env d with
        | none => .stuck
        | some env1 => (rt env1 S).noex.bind fun b S1 => if b = true then (re env1 S1).noex.bind fun v S2 => (lcGoL k t rt re env n (i + 1) S2).bind fun l S3 => .ok (v :: l) S3 else lcGoL k t rt re env n (i + 1) S1
    | _ => .stuck
def rLcL (t : Tg) (ra : Ev → Store → Res D) (rt : Ev → Store → Res Bool) (re : Ev → Store → Res D) (vs : List Nat) : Ev → Store → Res D := fun env S => (ra env S).bind fun d S1 => match d with
  | .loc k => (lcGoL k t rt re (wipeE env vs) 100001 0 S1).bind fun l S2 => .ok (.lst l) S2
  | _ => .stuck
theorem ev_lcL {ta : TE} {t : Tg} {re : Ev → Store → Res D} {vs : List Nat} (ha : EvE K Y W ta ra) (hv : ∀ i ∈ t.slots, i ∈ vs) :
    EvE K Y W (tLc (iList K ta) (canG K t) (canT K Y W0 rt) (canE K Y W0 re) vs) (rLcL t ra rt re vs) := fun F0 ρ0 S0 H0 σ0 env0 Q R0 E0 h => by
  refine ha.then R0 E0 h fun d u S1 F1 ρ1 H1 R1 n1 E1 ru o1 => ?_
  cases ru with
  | loc hk =>
    rename_i k A
    have o1 : Out K Y F1 ρ1 H1 ((lcGoL k t rt re (wipeE env0 vs) 100001 0 S1).bind fun l S2 => .ok (.lst ([] ++ l)) S2) (fun d _ F' ρ' H' => ∀ u, RD K F' ρ' u d → Q u H') (fun c H' => W c none σ0 H') := o1
    have cell : ∀ {S : Store} {F : Hp} {ρ : List Addr} {H : Hp} {n i : Nat} {α : Type} {f : List D → Store → Res α} {ok : α → Store → Hp → List Addr → Hp → Prop} {ex : Value → Hp → Prop} {F2 : Hp} {ρ2 : List Addr} {H2 : Hp},
        Out K Y F2 ρ2 H2 ((lcGoL k t rt re (wipeE env0 vs) (n + 1) i S).bind f) ok ex → ∃ ds, S[k]? = some (.lst ds) := fun {S F ρ H n i α f ok ex F2 ρ2 H2} o => by
      unfold lcGoL at o
      cases e : S[k]? with
      | none => rw [e] at o; exact False.elim o
      | some c =>
        rw [e] at o
        cases c with
        | lst ds => exact ⟨ds, rfl⟩
        | _ => exact False.elim o
    obtain ⟨ds0, hs0⟩ := cell (F := F1) (ρ := ρ1) (H := H1) o1
    obtain ⟨_, xs0, hx0, _⟩ := R1.cell k A _ hk hs0
    refine ⟨A, rfl, ⟨xs0, SqL.of hx0⟩, fun DA hD => ?_⟩
    have FD : F1 DA = none := by
      cases e : F1 DA with
      | none => rfl
      | some u => rw [R1.ex DA u e] at hD; cases hD
    have rD : DA ∉ ρ1 := fun m => R1.there DA m hD
    obtain ⟨Rg, ng⟩ := R1.grown (o := .lst []) hD
    refine ⟨fun i m H => i + m = 100001 ∧ ∃ F ρ S us ds, Nx F1 ρ1 H1 F ρ H ∧ SR K Y F ρ S H ∧ H DA = some (.lst us) ∧ F DA = none ∧ DA ∉ ρ ∧ RDs K F ρ us ds ∧ us.length ≤ i ∧
        Out K Y F1 ρ1 H1 ((lcGoL k t rt re (wipeE env0 vs) m i S).bind fun l S2 => .ok (.lst (ds ++ l)) S2) (fun d _ F' ρ' H' => ∀ u, RD K F' ρ' u d → Q u H') (fun c H' => W c none σ0 H'),
      ⟨100001, rfl, F1, ρ1, S1, [], [], ng, Rg, upd_same, FD, rD, .nil, Nat.le_refl _, o1⟩, ?_⟩
    rintro i m H ⟨hil, F, ρ, S, us, ds, n, R, hH, hF, hρ, ru, hu, o⟩
    cases m with
    | zero => exact False.elim o
    | succ m =>
      obtain ⟨dk, hk2⟩ := cell (F := F) (ρ := ρ) (H := H) o
      obtain ⟨fa, xs, hx, hxs⟩ := R.cell k A _ (n.pre _ _ hk) hk2
      have nD : A ≠ DA := fun e => by
        have := List.mem_of_getElem? (n.pre _ _ hk)
        rw [e] at this
        exact hρ this
      unfold lcGoL at o
      rw [hk2] at o
      dsimp only at o
      cases ei : dk[i]? with
      | none =>
        rw [ei] at o
        have o : Out K Y F1 ρ1 H1 (.ok (.lst (ds ++ [])) S) (fun d _ F' ρ' H' => ∀ u, RD K F' ρ' u d → Q u H') (fun c H' => W c none σ0 H') := o
        rw [List.append_nil] at o
        refine .inl ⟨⟨xs, SqL.of hx, ?_⟩, fin_lst F1 ρ1 H1 F ρ S H DA us ds Q _ R n hD hH hF hρ ru o⟩
        rw [hxs.length]
        rcases Nat.lt_or_ge i dk.length with q | q
        · rw [List.getElem?_eq_getElem q] at ei; cases ei
        · exact q
      | some d0 =>
        rw [ei] at o
        dsimp only at o
        obtain ⟨v0, hv0, rv0⟩ := hxs.get ei
        refine .inr ⟨⟨xs, v0, SqL.of hx, hv0⟩, fun H => (i + 1) + m = 100001 ∧ ∃ F ρ S us ds, Nx F1 ρ1 H1 F ρ H ∧ SR K Y F ρ S H ∧ H DA = some (.lst us) ∧ F DA = none ∧ DA ∉ ρ ∧ RDs K F ρ us ds ∧ us.length ≤ i + 1 ∧
          Out K Y F1 ρ1 H1 ((lcGoL k t rt re (wipeE env0 vs) m (i + 1) S).bind fun l S2 => .ok (.lst (ds ++ l)) S2) (fun d _ F' ρ' H' => ∀ u, RD K F' ρ' u d → Q u H') (fun c H' => W c none σ0 H'), fun H' q => ⟨m, Nat.lt_succ_self m, q⟩, fun x H' y => ?_⟩
        obtain ⟨rfl, y⟩ := y
        have ex0 := y xs (SqL.of hx)
        rw [hv0] at ex0; cases ex0
        have keepD : ∀ {F2 : Hp} {ρ2 : List Addr} {H2 F3 : Hp} {ρ3 : List Addr} {H3 : Hp} {us2 : List V}, H2 DA = some (.lst us2) → F2 DA = none → DA ∉ ρ2 → Nx F2 ρ2 H2 F3 ρ3 H3 → H3 DA = some (.lst us2) ∧ F3 DA = none ∧ DA ∉ ρ3 := fun {F2 ρ2 H2 F3 ρ3 H3 us2} q1 q2 q3 nn => by
          refine ⟨nn.fr DA _ q1 q3, ?_, fun m => ?_⟩
          · cases e : F3 DA with
            | none => rfl
            | some u =>
              rcases nn.fh DA (by rw [e]; simp) with z | z | z
              · exact absurd q2 z
              · rw [q1] at z; cases z
              · exact absurd z q3
          · rcases nn.rh DA m with z | z
            · exact q3 z
            · rw [q1] at z; cases z
        have Ew : ER K F ρ (wipe σ0 vs) (wipeE env0 vs) := ((E1.mono n.ex n.pre)).wipe vs
        cases et : t.set (wipeE env0 vs) d0 with
        | none => rw [et] at o; exact False.elim o
        | some env1 =>
          rw [et] at o
          refine ⟨F, ρ, wipeE env0 vs, env1, d0, R.ex, Ew, rv0, et, fun σ2 E2 on => ⟨?_, ?_⟩⟩
          · have on' : Only vs (wipe σ0 vs) σ2 := ⟨on.1, fun j hj => on.2 j fun m => hj (hv j m)⟩
            rw [on'.same, wipe_wipe]
          · dsimp only at o
            rw [Res.bind_bind] at o
            refine ⟨F, ρ, S, env1, R, E2, ?_⟩
            refine Out.noex (ex := fun c H' => W c none σ0 H') ((o.bindB.later n).imp (fun b S2 F2 ρ2 H2 R2 n2 o2 => ?_) fun _ _ z => z)
            obtain ⟨hH2, hF2, hρ2⟩ := keepD hH hF hρ n2
            cases b with
            | true =>
              have o2 : Out K Y F1 ρ1 H1 (((re env1 S2).noex.bind fun v S2 => (lcGoL k t rt re (wipeE env0 vs) m (i + 1) S2).bind fun l S3 => .ok (v :: l) S3).bind fun l S2 => .ok (.lst (ds ++ l)) S2)
                (fun d _ F' ρ' H' => ∀ u, RD K F' ρ' u d → Q u H') (fun c H' => W c none σ0 H') := o2
              rw [Res.bind_bind] at o2
              show canE K Y W0 re σ2 H2 _
              refine ⟨F2, ρ2, S2, env1, R2, E2.nx n2, ?_⟩
              refine Out.noex (ex := fun c H' => W c none σ0 H') ((o2.bindB.later (n.trans n2)).imp (fun v S3 F3 ρ3 H3 R3 n3 o3 u ru3 => ?_) fun _ _ z => z)
              obtain ⟨hH3, hF3, hρ3⟩ := keepD hH2 hF2 hρ2 n3
              rw [Res.bind_bind] at o3
              refine ⟨us, hH3, ?_, by omega, F3, ρ3, S3, us ++ [u], ds ++ [v], ?_, ?_, upd_same, hF3, hρ3, ?_, by simp; omega, ?_⟩
              · have : (100001 : Nat) < sizeLine := by decide
                omega
              · have nn := (n.trans n2).trans n3
                refine ⟨nn.ex, nn.pre, fun a o h hn => ?_, nn.fh, nn.rh, fun a h => ?_⟩
                · have ha : a ≠ DA := fun e => by rw [e, hD] at h; cases h
                  rw [upd_ne ha]; exact nn.fr a o h hn
                · by_cases e : a = DA
                  · subst e; rw [upd_same]; simp
                  · rw [upd_ne e]; exact nn.hn a h
              · refine ⟨fun a u h => ?_, R3.len, R3.nd, fun a h => ?_, fun j a c' h1 h2 => ?_⟩
                · have ha : a ≠ DA := fun e => by rw [e, hF3] at h; cases h
                  rw [upd_ne ha]; exact R3.ex a u h
                · by_cases e : a = DA
                  · subst e; exact absurd h hρ3
                  · rw [upd_ne e]; exact R3.there a h
                · have ha : a ≠ DA := fun e => hρ3 (e ▸ List.mem_of_getElem? h1)
                  have k := R3.cell j a c' h1 h2
                  cases c' with
                  | dead => trivial
                  | lst ds =>
                    obtain ⟨k1, xs, k2, k3⟩ := k
                    exact ⟨k1, xs, by rw [upd_ne ha]; exact k2, k3⟩
                  | ins c fs =>
                    obtain ⟨k1, dx, vs, k2, k3⟩ := k
                    exact ⟨k1, dx, vs, by rw [upd_ne ha]; exact k2, k3⟩
                  | dct kvs =>
                    obtain ⟨k1, k0, xs, k2, k4, k5, k3⟩ := k
                    exact ⟨k1, k0, xs, by rw [upd_ne ha]; exact k2, k4, k5, k3⟩
                  | dkf kvs =>
                    obtain ⟨o, xs, k1, k0, k4, k5, k3⟩ := k
                    exact ⟨o, xs, k1, k0, k4, k5, k3⟩
                  | exn c => exact ⟨k.1, by rw [upd_ne ha]; exact k.2⟩
                  | tdk ks ds =>
                    obtain ⟨k1, xs, k2, k4, k3⟩ := k
                    exact ⟨k1, xs, by rw [upd_ne ha]; exact k2, k4, k3⟩
              · have nn := n2.trans n3
                exact (ru.mono nn.ex nn.pre).snoc ru3
              · have e2 : (fun (l : List D) (S2 : Store) => (Res.ok (D.lst (ds ++ v :: l)) S2 : Res D)) = (fun l S2 => Res.ok (D.lst ((ds ++ [v]) ++ l)) S2) := by
                  funext l S2
                  simp
                have o3 : Out K Y F1 ρ1 H1 ((lcGoL k t rt re (wipeE env0 vs) m (i + 1) S3).bind fun l S2 => Res.ok (D.lst (ds ++ v :: l)) S2) (fun d _ F' ρ' H' => ∀ u, RD K F' ρ' u d → Q u H') (fun c H' => W c none σ0 H') := o3
                rw [e2] at o3
                exact o3
            | false =>
              have nn := n.trans n2
              exact ⟨by omega, F2, ρ2, S2, us, ds, nn, R2, hH2, hF2, hρ2, ru.mono n2.ex n2.pre, by omega, o2⟩
  | _ => exact False.elim o1
theorem se_lcL {k : Nat} {elt tgt : Expr} {ifs : List Expr} {scope : Scope} {t : Tg} {re : Ev → Store → Res D} (own : List (Str × Nat)) (C : Ok X W k) (hi : SE Y X W iter ra) (ok : blkC X.N X.env.scope scope own = true)
    (hg : ∀ (s : Shared) (H : Hp) (A : Addr) (cl : List (Str × Addr)) (fp : List Addr), STg (XB X scope s H A cl fp) tgt t)
    (ht : ∀ (s : Shared) (H : Hp) (A : Addr) (cl : List (Str × Addr)) (fp : List Addr), Ok (XB X scope s H A cl fp) W0 k → PTs (XB X scope s H A cl fp) ifs (canT X.K Y W0 rt))
    (he : ∀ (s : Shared) (H : Hp) (A : Addr) (cl : List (Str × Addr)) (fp : List Addr), Ok (XB X scope s H A cl fp) W0 k → SE Y (XB X scope s H A cl fp) W0 elt re)
    (hv : ∀ i ∈ t.slots, i ∈ own.map (·.2) := by decide) (hs : ∀ x, foldedSetIterable iter X.env x = pure x := by intro _; rfl) : SE Y X W (.ListComp elt [⟨tgt, iter, ifs, 0⟩] scope pos) (rLcL t ra rt re (own.map (·.2))) := by
  obtain ⟨ta, i1, i2⟩ := hi.ex
  exact ⟨_, pe_lc (te := canE X.K Y W0 re) C.calm C.nd (pi_list i1) (blkOk_by ok) (fun s H A cl fp => (hg s H A cl fp).can) (fun s H A cl fp => ht s H A cl fp (blk_ok C s H A cl fp)) (fun s H A cl fp => (he s H A cl fp (blk_ok C s H A cl fp)).can) hs, ev_lcL i2 hv⟩
/-! ### l.pop(), l.pop(i) -/
def pop0D : OpM := fun S x xs => match x, xs with
  | .loc i, [] => match S[i]? with
    | some (.lst ds) => (ds[ds.length - 1]?).map fun d => (d, S.set i (.lst ds.dropLast))
    | _ => none
  | _, _ => none
theorem RDs.dropLast {ds : List D} {vs : List V} (h : RDs K F ρ vs ds) : RDs K F ρ vs.dropLast ds.dropLast := by
  rw [List.dropLast_eq_take, List.dropLast_eq_take, h.length]
  exact h.take _
theorem smt_pop0 : SMt Y X "list" "list.pop" tyList pop0D := ⟨⟨_, mt_pop, fun F ρ S S' H x dx d xs ds Q R rx rxs e k => by
  match dx, ds, rxs, rx, e with
  | .loc i, [], .nil, rx, e =>
    have e : (match S[i]? with
      | some (.lst ds) => (ds[ds.length - 1]?).map fun d => (d, S.set i (.lst ds.dropLast))
      | _ => none) = some (d, S') := e
    cases e1 : S[i]? with
    | none => rw [e1] at e; cases e
    | some c =>
      rw [e1] at e
      cases c with
      | lst ds =>
        dsimp only at e
        cases e2 : ds[ds.length - 1]? with
        | none => rw [e2] at e; cases e
        | some d0 =>
          rw [e2] at e; cases e
          obtain ⟨a, vs, rfl, hi, fa, ha, hx⟩ := cell_rd R rx e1
          obtain ⟨u, hu, ru⟩ := hx.get e2
          obtain ⟨R2, n2⟩ := R.wlst hi fa hx.dropLast
          exact ⟨a, vs, u, rfl, rfl, ha, by rw [hx.length]; exact hu, k F _ u R2 n2 ru⟩
      | _ => cases e⟩, tyList_ok⟩
def pop1D : OpM := fun S x xs => match x, xs with
  | .loc i, [.int j] => match S[i]? with
    | some (.lst ds) => if 0 ≤ j ∧ j < 100000 then (ds[j.toNat]?).map fun d => (d, S.set i (.lst (ds.eraseIdx j.toNat))) else none
    | _ => none
  | _, _ => none
theorem smt_pop1 : SMt Y X "list" "list.pop" tyList pop1D := ⟨⟨_, mt_popAt, fun F ρ S S' H x dx d xs ds Q R rx rxs e k => by
  match dx, ds, rxs, rx, e with
  | .loc i, [.int j], .cons (.int _) .nil, rx, e =>
    have e : (match S[i]? with
      | some (.lst ds) => if 0 ≤ j ∧ j < 100000 then (ds[j.toNat]?).map fun d => (d, S.set i (.lst (ds.eraseIdx j.toNat))) else none
      | _ => none) = some (d, S') := e
    cases e1 : S[i]? with
    | none => rw [e1] at e; cases e
    | some c =>
      rw [e1] at e
      cases c with
      | lst ds =>
        dsimp only at e
        by_cases h : 0 ≤ j ∧ j < 100000
        · rw [if_pos h] at e
          cases e2 : ds[j.toNat]? with
          | none => rw [e2] at e; cases e
          | some d0 =>
            rw [e2] at e; cases e
            obtain ⟨a, vs, rfl, hi, fa, ha, hx⟩ := cell_rd R rx e1
            obtain ⟨u, hu, ru⟩ := hx.get e2
            obtain ⟨R2, n2⟩ := R.wlst hi fa (hx.eraseIdx j.toNat)
            have hlt : j.toNat < ds.length := (List.getElem?_eq_some_iff.mp e2).1
            refine ⟨a, vs, j, j.toNat, u, rfl, rfl, ha, by omega, by omega, ?_, hu, k F _ u R2 n2 ru⟩
            exact seqIndex_of h.1 (by rw [hx.length]; omega)
        · rw [if_neg h] at e; cases e
      | _ => cases e⟩, tyList_ok⟩
/-! ### a, b, c = x, y, z -/
def sPar3 (i j l : Nat) (rs : Ev → Store → Res (List D)) : SM := fun env S => (rs env S).st env fun ds S' => match ds with
  | [x, y, z] => some (.nx (((env.set i (some x)).set j (some y)).set l (some z)), S')
  | _ => none
end
end L3
set_option Elab.async false
set_option linter.all false
set_option maxRecDepth 100000
set_option maxHeartbeats 2000000
/-! len(x) of an own class; three names at once -/
namespace L2
open PySem PySem.Spec PyProof.Rows PySem.Builtin PySem.Calls
section
variable {prog : Program} {w : World} {A : Around} {E : Value → Shared → Prop} {s : Shared} {K : PySem.W.Frag} {x C f : Addr} {ox : Obj}
/-- len of an instance, its class's own __len__ a def -/
theorem len_def {Q : Value → Shared → Prop} (X : K.In s.heap) (hx : s.heap.get? x = some ox) (hc : ox.cls = .ref C) (hf : PySem.W.findIn K (.ref C) "__len__" = some (some (.ref f))) (ht : PySem.W.isFn K (.ref f) = true)
    (hcall : wpAny (model prog w) A.in1 (call (.ref f) [.ref x]) (fun r s' => ∃ n u, r = .int n u ∧ 0 ≤ n ∧ n < 2 ^ 63 ∧ Q (.int n s'.toks) { s' with toks := s'.toks + 1 }) E s) :
    wpAny (model prog w) A (call (.builtin "len") [.ref x]) Q E s := by
  have sp : PySem.W.Looks (model prog w) s.heap (specialOf (.ref x) "__len__") (some (.ref f)) := (NwA.type_at hx hc).andThen (PySem.W.looks_findIn X hf)
  have tf : PySem.W.Looks (model prog w) s.heap (typeOf (.ref f)) (.type "function") := PySem.W.looks_typeIn X (beq_iff_eq.mp ht)
  have fin : wpAny (model prog w) A.in1 (callSpecial? (.ref x) (Str.ofString "__len__") []) (fun r s' => ∃ v, r = some v ∧ ∃ n u, v = .int n u ∧ 0 ≤ n ∧ n < 2 ^ 63 ∧ Q (.int n s'.toks) { s' with toks := s'.toks + 1 }) E s := by
    simp only [callSpecial?]
    refine wpAny_bind (sp.here ?_)
    refine wpAny_holding (wpAny_bind ?_)
    unfold bindSpecial
    refine wpAny_bind (tf.here ?_)
    first
      | exact wpAny_pure (wpAny_bind (wpAny_mono hcall (fun v s' h' => wpAny_pure ⟨v, rfl, h'⟩) fun _ _ h' => h'))
      | skip
  refine Calls.call_function_entry kind_len plain_len entry_len (args_len1 _) ?_
  unfold Builtin.«len»
  refine wpAny_bind (m := oneArg "len" _) (wpAny_pure ?_)
  refine wpAny_bind (m := callSpecial? (.ref x) (Str.ofString "__len__")) (wpAny_mono fin (fun r s' hr => ?_) fun _ _ y => y)
  obtain ⟨v, rfl, n, u, rfl, h0, h1, hq⟩ := hr
  refine wpAny_bind (wpAny_holding (wpAny_pure ?_))
  refine wpAny_bind (wpAny_letGo ?_)
  show wpAny _ _ (if n < 0 then _ else _) _ _ _
  rw [if_neg (by omega)]
  show wpAny _ _ (if n ≥ 2 ^ 63 then _ else _) _ _ _
  rw [if_neg (by omega)]
  exact wpAny_bind (wpAny_mkInt (wpAny_pure ⟨_, rfl, hq⟩))
end
end L2
namespace L2
open PySem PySem.Spec PyProof.Rows
section
variable {X : Cx} {CX : CXT} {k : Nat} {f C : Addr} {fd : FuncData} {ps : List Str} {sp : Sp} {E : St → XK} {x : Str} {p pos : Pos} {o : Expr} {t : TA}
/-- len(o), o of the class at C, whose __len__ is a def -/
def tLenO (C : Addr) (sp : Sp) (E : St → XK) (t : TA) : TE := fun σ H Q => t σ H fun vs H1 => ∃ a dx fs, vs = [.ref a] ∧ H1 a = some (.ins C dx fs) ∧ sp [.ref a] H1 (fun v H2 => ∃ n : Int, v = .int n ∧ 0 ≤ n ∧ n < 2 ^ 63 ∧ Q (.int n) H2) (E σ)
theorem pe_lenO (F : GnOk X.prog X.w X.K X.mg X.base CX k f fd ps sp) (gd : X.A.guards = some []) (hr : Room (k + 1) X.A) (hb : Binds X.K fd ps []) (hx : ∀ σ, PassesAt CX X σ (E σ)) (hl : PySem.W.findIn X.K (.ref C) "__len__" = some (some (.ref f))) (ht : PySem.W.isFn X.K (.ref f) = true)
    (hg : Gl X x) (hm : X.mg x = none) (hv : bootBuiltins x = some (.builtin "len")) (ha : PA X [o] t) (hn : x ≠ "__name__" := by decide) (hdb : (x == ("__debug__" : Str)) = false := by decide)
    (he : starEach [o] X.env = (false, eval o X.env) :: starEach [] X.env := by rfl) (hpl : (backTo pos (starEach [] X.env)).any (·.1) = false := by rfl) : PE X (.Call (.Name x p) [o] [] pos) (tLenO C sp E t) := by
  refine ⟨fun pins s σ H Q I h => ?_⟩
  refine wpAny_Call_Name_kw (ld_blt I hg hm hv ?_ hn hdb)
  refine PyProof.Rows.callWith_builtin1 (thn (ha.run pos pins s σ H _ I h) fun us s1 ⟨vs, H1, I1, r1, q1⟩ => ?_) he hpl
  obtain ⟨a, dx, fs, rfl, e, q⟩ := q1
  cases r1 with
  | cons rx rr =>
    cases rr
    cases rx
    obtain ⟨mA, O, _⟩ := ins_get I1.hok e
    refine len_def I1.kIn O.obj rfl hl ht ?_
    have hlen : ([Value.ref a]).length = ps.length := by
      have := F.len _ _ _ _ q
      simpa using this
    have b := hb s1 [.ref a] I1.kIn (by rw [List.append_nil]; exact hlen)
    rw [List.append_nil] at b
    refine wpAny_call (codeAny_mono (F.go X.A.in1 X.stack s1 H1 ⟨[.ref a], []⟩ [.ref a] [.ref a] _ (E σ) gd hr.in1 I1.env0.in1 b (.cons rfl .nil) q) fun r s' hq => ?_)
    cases r with
    | error e => exact hx σ pins H1 s1 e s' I1 hq
    | ok fl =>
      cases fl with
      | ret u =>
        obtain ⟨v, H', I3, rv, n, rfl, h0, h1, q3⟩ := I1.after hq
        obtain ⟨tk, rfl⟩ := rv
        exact ⟨n, tk, rfl, h0, h1, ⟨.int n, H', I3.tok _, ⟨_, rfl⟩, q3⟩⟩
      | next => exact False.elim hq
      | brk => exact False.elim hq
      | cont => exact False.elim hq
end
end L2
namespace L3
open PySem PySem.Spec L2 PyProof.Rows
section
variable {Y : Pc} {X : Cx} {W : WX} {a b c e v : Expr} {es : List Expr} {pos : Pos} {K : PySem.W.Frag} {F H : Hp} {ρ : List Addr} {S : Store} {ra rb : Ev → Store → Res D} {rs : Ev → Store → Res (List D)}
structure LenOk (P : Program) (w : World) (K : PySem.W.Frag) (mg : Str → Option Value) (base : Heap) (Y : Pc) (c : Nat) (lvl : Nat) (m : FSem) : Prop where
  ex : ∃ f fd ps, GnOk P w K mg base (L2.CX P w) lvl f fd ps (spOf K Y m 1) ∧ PySem.W.findIn K (.ref (Y.cl c)) "__len__" = some (some (.ref f)) ∧ PySem.W.isFn K (.ref f) = true ∧ Binds K fd ps []
theorem MethOk.len {P : Program} {w : World} {mg : Str → Option Value} {base : Heap} {c lvl : Nat} {m : FSem} (h : MethOk P w K mg base Y c "__len__" 1 lvl m) : LenOk P w K mg base Y c lvl m := by
  obtain ⟨f, fd, ps, h1, h2, h3⟩ := h.ex
  exact ⟨f, fd, ps, h1, h2.at_, h2.fn, h3⟩
def rLenO (c : Nat) (m : FSem) (rs : Ev → Store → Res (List D)) : Ev → Store → Res D := fun env S => (rs env S).bind fun xs S1 => match xs with
  | [.loc i] => match S1[i]? with
    | some (.ins c' _) => if c' = c then (m S1 [.loc i]).bind fun r S2 => match r with
      | .int n => if 0 ≤ n ∧ n < 100000 then .ok (.int n) S2 else .stuck
      | _ => .stuck
      else .stuck
    | _ => .stuck
  | _ => .stuck
theorem ev_lenO {c : Nat} {m : FSem} {t : TA} (hs : EvA K Y W t rs) : EvE K Y W (tLenO (Y.cl c) (spOf K Y m 1) (WE W) t) (rLenO c m rs) := fun F ρ S H σ env Q R E h => by
  refine hs F ρ S H σ env _ R E (h.bind.imp (fun ds S1 F1 ρ1 H1 R1 n1 o1 us rus => ?_) fun _ _ z => z)
  cases rus with
  | nil => exact False.elim o1
  | cons r1 rr =>
    cases rr with
    | cons _ _ => cases r1 <;> exact False.elim o1
    | nil =>
      cases r1 with
      | loc hi =>
        rename_i i p
        dsimp only at o1
        cases e1 : S1[i]? with
        | none => rw [e1] at o1; exact False.elim o1
        | some cc =>
          rw [e1] at o1
          cases cc with
          | ins c' fs =>
            dsimp only at o1
            by_cases hc : c' = c
            · subst hc
              rw [if_pos rfl] at o1
              obtain ⟨fp, dx, vs, hp, hvs⟩ := R1.cell i p _ hi e1
              refine ⟨p, dx, _, rfl, hp, rfl, F1, ρ1, S1, [.loc i], R1, .cons (.loc hi) .nil, o1.bind.imp (fun d S2 F2 ρ2 H2 R2 n2 o2 u ru => ?_) fun _ _ z => z⟩
              cases ru with
              | int n =>
                dsimp only at o2
                by_cases hn : 0 ≤ n ∧ n < 100000
                · rw [if_pos hn] at o2
                  exact ⟨n, rfl, hn.1, by omega, Out.now o2 R2 _ (.int n)⟩
                · rw [if_neg hn] at o2; exact False.elim o2
              | _ => exact False.elim o2
            · rw [if_neg hc] at o1; exact False.elim o1
          | _ => exact False.elim o1
      | _ => exact False.elim o1
theorem se_lenO {c k lvl : Nat} {m : FSem} {x : Str} {p : Pos} (C : Ok X W (k + 1)) (h : LenOk X.prog X.w X.K X.mg X.base Y c lvl m) (hj : lvl ≤ k) (hm : X.mg x = none) (hv : bootBuiltins x = some (.builtin "len")) (ha : SA Y X W [a] rs) (hg : Gl X x := by rfl) (hn : x ≠ "__name__" := by decide) (hdb : (x == ("__debug__" : Str)) = false := by decide)
    (he : starEach [a] X.env = (false, eval a X.env) :: starEach [] X.env := by rfl) (hpl : (backTo pos (starEach [] X.env)).any (·.1) = false := by rfl) : SE Y X W (.Call (.Name x p) [a] [] pos) (rLenO c m rs) := by
  obtain ⟨f, fd, ps, h1, h2, h3, h4⟩ := h.ex
  obtain ⟨t, b1, b2⟩ := ha.ex
  exact ⟨_, pe_lenO h1 C.gd (C.room.mono (by omega)) h4 C.tk h2 h3 hg hm hv b1 hn hdb he hpl, ev_lenO b2⟩
theorem ss_par3 (i j l : Nat) {x y z : Str} {px py pz pt : Pos} {kt k2 : Nat} {pt2 : Pos} (hc : X.calm = true) (hN : X.N.Nodup) (ha : SA Y X W [a, b, c] rs) (hij : i ≠ j := by decide) (hil : i ≠ l := by decide) (hjl : j ≠ l := by decide) (hi : X.N[i]? = some x := by rfl) (hj : X.N[j]? = some y := by rfl) (hl : X.N[l]? = some z := by rfl)
    (hx : X.env.scope.names.lookup x = some .local := by rfl) (hy : X.env.scope.names.lookup y = some .local := by rfl) (hz : X.env.scope.names.lookup z = some .local := by rfl)
    (hw : swappedStores [.Tuple [.Name x px, .Name y py, .Name z pz] kt pt] (.Tuple [a, b, c] k2 pt2) X.env = pure (some [x, y, z]) := by kernel_rfl)
    (hs : swapsWithSole [.Tuple [.Name x px, .Name y py, .Name z pz] kt pt] (.Tuple [a, b, c] k2 pt2) pos.line X.env = pure false := by rfl) :
    SS Y X W (.Assign [.Tuple [.Name x px, .Name y py, .Name z pz] kt pt] (.Tuple [a, b, c] k2 pt2) pos) (sPar3 i j l rs) := by
  obtain ⟨t, t1, t2⟩ := ha.ex
  refine ⟨_, ps_par3 hc hN hi hj hl hij hil hjl hx hy hz t1 hw hs, fun F ρ S H σ env Z R E h => ?_⟩
  refine t2 F ρ S H σ env _ R E ((OutS.st (ex := fun c H' => W c none σ H') h fun c S' F' ρ' H' n q => q σ (E.nx n)).imp (fun ds S1 F1 ρ1 H1 R1 n1 o1 us rus => ?_) fun _ _ z => z)
  cases rus with
  | nil => exact False.elim o1
  | cons r1 rr =>
    cases rr with
    | nil => exact False.elim o1
    | cons r2 rr =>
      cases rr with
      | nil => exact False.elim o1
      | cons r3 rr =>
        cases rr with
        | cons _ _ => exact False.elim o1
        | nil => exact ⟨_, _, _, rfl, OutS.now o1 R1 _ (((((E.nx n1).set i r1).set j r2).set l r3))⟩
end
end L3
namespace L3
open PySem PySem.Spec L2 PyProof.Rows
section
variable {Y : Pc} {K : PySem.W.Frag}
theorem methok {P : Program} {w : World} {mg : Str → Option Value} {base : Heap} {x qual : Str} {params : Arguments} {bd : List Stmt} {scope : Scope} {f : Addr} {fd : FuncData} {N ps : List Str} {k : Nat} (c n p : Nat) {body : SM} (Fu : FunD K x qual params bd scope [] [] f fd) (cl : Cls K (Y.cl c)) (hm : Meth K (Y.cl c) x f) (S : FnScope N ps scope)
    (hn : N.length = n) (hp : ps.length = p)
    (hbi : ∀ (kV doc pm : Value) (an : Option Addr) (cdv ct : Value) (us : List Value), us.length = ps.length → bindArgs (PySem.W.fnOf x qual params bd scope .none kV doc pm an cdv ct) ⟨us, []⟩ = pure (ps.zip us))
    (hb : ∀ (X : Cx) (W : WX) (cdv : Value) (A : Around) (outer : List Env) (s : Shared) (H : Hp) (E : XK), X = cxOf (L2.CX P w) P w K mg base N qual scope f cdv A outer s H E → Ok X W k → PassesOwn (model X.prog X.w) X.A X.env X.xe → Takes X W → SSs Y X W bd body) :
    MethOk P w K mg base Y c x p (k + 1) (fnSem n p body) := ⟨cl, f, fd, ps, fnokD n p Fu S hn hp hb, hm, Fu.bindsN hbi⟩
theorem makeok {P : Program} {w : World} {mg : Str → Option Value} {base : Heap} {x qual cn : Str} {params : Arguments} {bd : List Stmt} {scope : Scope} {f : Addr} {fd : FuncData} {N ps : List Str} {k : Nat} (c n p : Nat) {body : SM} (Fu : FunD K x qual params bd scope [] [] f fd) (g : mg cn = some (.ref (Y.cl c))) (hm : Mk K (Y.cl c) f) (S : FnScope N ps scope)
    (hn : N.length = n) (hp : ps.length = p)
    (hbi : ∀ (kV doc pm : Value) (an : Option Addr) (cdv ct : Value) (us : List Value), us.length = ps.length → bindArgs (PySem.W.fnOf x qual params bd scope .none kV doc pm an cdv ct) ⟨us, []⟩ = pure (ps.zip us))
    (hb : ∀ (X : Cx) (W : WX) (cdv : Value) (A : Around) (outer : List Env) (s : Shared) (H : Hp) (E : XK), X = cxOf (L2.CX P w) P w K mg base N qual scope f cdv A outer s H E → Ok X W k → PassesOwn (model X.prog X.w) X.A X.env X.xe → Takes X W → SSs Y X W bd body) :
    MakeOk P w K mg base Y c cn p (k + 1) (fnSem n p body) := ⟨g, f, fd, ps, fnokD n p Fu S hn hp hb, hm, Fu.bindsN hbi⟩
/-- the statements of a class -/
def clsBody : Stmt → List Stmt
  | .ClassDef _ _ _ body _ _ _ _ _ _ _ => body
  | _ => []
end
end L3
set_option Elab.async false
set_option linter.all false
set_option maxRecDepth 100000
set_option maxHeartbeats 2000000
/-! dicts whose keys are tuples of data -/
namespace L3
open PySem PySem.Spec L2 PyProof.Rows
mutual
/-- the value v is the key, as the abstract heap tells it -/
inductive NkH (K : PySem.W.Frag) (H : Hp) : NestedKey → V → Prop
  | none : NkH K H .none .non
  | num (i : Int) : NkH K H (.num i) (.int i)
  | text (x : Str) : NkH K H (.text x) (.str x)
  | tup {a : Addr} {vs : List V} {ks : List NestedKey} : SqT K H a vs → NkA K H ks vs → NkH K H (.tup ks) (.ref a)
inductive NkA (K : PySem.W.Frag) (H : Hp) : List NestedKey → List V → Prop
  | nil : NkA K H [] []
  | cons {k : NestedKey} {v : V} {ks : List NestedKey} {vs : List V} : NkH K H k v → NkA K H ks vs → NkA K H (k :: ks) (v :: vs)
end
section
variable {Y : Pc} {X : Cx} {W : WX} {a b e v : Expr} {es : List Expr} {pos : Pos} {K : PySem.W.Frag} {F H : Hp} {ρ : List Addr} {S : Store} {ra rb : Ev → Store → Res D} {rs : Ev → Store → Res (List D)} {pins : List (Addr × Obj)} {σ : L2.St} {s : Shared}
mutual
theorem NkH.reads (I : Inv X pins σ H s) : ∀ (k : NestedKey) (v : V) (u : Value), NkH X.K H k v → RelV v u → NestedIs s.heap k u
  | .none, _, _, h, r => by cases h; cases r; exact .none
  | .num i, _, _, h, r => by cases h; obtain ⟨t, rfl⟩ := r; exact .int i t
  | .text x, _, _, h, r => by cases h; obtain ⟨t, rfl⟩ := r; exact .text x t
  | .tup ks, _, _, h, r => by
    cases h with
    | tup h1 h2 =>
      cases r
      obtain ⟨its, rv, ⟨o, ho, hc, n, hd⟩, _⟩ := I.tuple h1
      exact .tup ho hc hd (NkA.reads I ks _ its h2 rv)
theorem NkA.reads (I : Inv X pins σ H s) : ∀ (ks : List NestedKey) (vs : List V) (us : List Value), NkA X.K H ks vs → Vals vs us → NestedAll s.heap ks us
  | [], _, _, h, r => by cases h; cases r; exact .nil
  | k :: ks, _, _, h, r => by
    cases h with
    | cons h1 h2 =>
      cases r with
      | cons r1 r2 => exact .cons (NkH.reads I k _ _ h1 r1) (NkA.reads I ks _ _ h2 r2)
end
mutual
theorem RD.nk (e : Ex F H) : ∀ {d : D} {v : V} {k : NestedKey}, RD K F ρ v d → keyD d = some k → NkH K H k v
  | .non, _, _, r, h => by cases r; cases h; exact .none
  | .int i, _, _, r, h => by cases r; cases h; exact .num i
  | .str x, _, _, r, h => by cases r; cases h; exact .text _
  | .tup ds, _, k, r, h => by
    cases r with
    | tup r1 r2 =>
      have h : (keyDs ds).map NestedKey.tup = some k := h
      cases e1 : keyDs ds with
      | none => rw [e1] at h; cases h
      | some ks =>
        rw [e1] at h; cases h
        exact .tup (ex_t e r1) (RDs.nk e r2 e1)
  | .bl _, _, _, _, h => by cases h
  | .lst _, _, _, _, h => by cases h
  | .loc _, _, _, _, h => by cases h
  | .scr _, _, _, _, h => by cases h
  | .dct _ _, _, _, _, h => by cases h
theorem RDs.nk (e : Ex F H) : ∀ {ds : List D} {vs : List V} {ks : List NestedKey}, RDs K F ρ vs ds → keyDs ds = some ks → NkA K H ks vs
  | [], _, _, r, h => by cases r; cases h; exact .nil
  | d :: ds, _, ks, r, h => by
    cases r with
    | cons r1 r2 =>
      have h : ((keyD d).bind fun k => (keyDs ds).map (k :: ·)) = some ks := h
      cases e1 : keyD d with
      | none => rw [e1] at h; cases h
      | some k =>
        rw [e1] at h
        have h : (keyDs ds).map (k :: ·) = some ks := h
        cases e2 : keyDs ds with
        | none => rw [e2] at h; cases h
        | some ks' =>
          rw [e2] at h; cases h
          exact .cons (RD.nk e r1 e1) (RDs.nk e r2 e2)
end
/-- the entry at the key k -/
def xfind (xs : List (NestedKey × Addr × V)) (k : NestedKey) : Option (NestedKey × Addr × V) := xs.find? fun x => decide (x.1 = k)
abbrev XYR (x : NestedKey × Addr × V) (y : NestedKey × Addr × Value) : Prop := x.1 = y.1 ∧ x.2.1 = y.2.1 ∧ RelV x.2.2 y.2.2
theorem xy_keys {xs : List (NestedKey × Addr × V)} {ys : List (NestedKey × Addr × Value)} (p : Paired XYR xs ys) : ys.map (·.1) = xs.map (·.1) := by
  induction p with
  | nil => rfl
  | cons h _ ih => simp only [List.map_cons, ih, h.1]
theorem xy_mem {xs : List (NestedKey × Addr × V)} {ys : List (NestedKey × Addr × Value)} (p : Paired XYR xs ys) : ∀ y ∈ ys, ∃ x ∈ xs, XYR x y := by
  induction p with
  | nil => intro y hy; cases hy
  | cons h _ ih =>
    intro y hy
    rcases List.mem_cons.mp hy with rfl | hy
    · exact ⟨_, List.mem_cons_self, h⟩
    · obtain ⟨x, hx, q⟩ := ih y hy
      exact ⟨x, List.mem_cons_of_mem _ hx, q⟩
theorem xy_at {xs : List (NestedKey × Addr × V)} {ys : List (NestedKey × Addr × Value)} {k : NestedKey} (p : Paired XYR xs ys) : (xfind xs k = none ∧ atKey ys k = none) ∨ ∃ x u, xfind xs k = some x ∧ atKey ys k = some (x.2.1, u) ∧ RelV x.2.2 u := by
  induction p with
  | nil => exact .inl ⟨rfl, rfl⟩
  | @cons x y xs ys h _ ih =>
    unfold xfind atKey at *
    by_cases e : x.1 = k
    · refine .inr ⟨x, y.2.2, ?_, ?_, h.2.2⟩
      · simp [List.find?_cons, e]
      · have e2 : y.1 = k := h.1 ▸ e
        have e3 : y.2 = (x.2.1, y.2.2) := by rw [h.2.1]
        simp [List.find?_cons, e2, ← e3]
    · have e2 : ¬ y.1 = k := fun z => e (h.1.trans z)
      simp only [List.find?_cons, decide_eq_false e, decide_eq_false e2]
      exact ih
/-- a dict, as the abstract heap tells it -/
structure DctH (K : PySem.W.Frag) (H : Hp) (hs : NestedKey → Int) (a : Addr) (xs : List (NestedKey × Addr × V)) : Prop where
  sys : (a == sysModules) = false
  is : H a = some (DctO hs a xs) ∨ ∃ o, H a = some (.frz o (DctO hs a xs))
  nd : (xs.map (·.1)).Nodup
  nk : ∀ x ∈ xs, NkH K H x.1 (.ref x.2.1) ∧ x.1.depth ≤ 8
  le : xs.length ≤ 10000000
theorem DctH.at {hs : NestedKey → Int} {a : Addr} {xs : List (NestedKey × Addr × V)} (h : DctH X.K H hs a xs) (hw : hs = NestedKey.hash X.w) (I : Inv X pins σ H s) : ∃ ys, Paired XYR xs ys ∧ s.heap.DictOfH (nestedKind X.prog X.w) a ys := by
  have p : DctP hs a xs s.heap := by
    rcases h.is with e | ⟨o, e⟩
    · exact (I.hok a _ e).1
    · exact (I.hok a _ e).2.1
  obtain ⟨o, es, ep, ys, h1, h2, h3, h4, h5⟩ := p
  refine ⟨ys, h4, o, es, ep, h1, h2, h3, ?_, fun y hy => ?_, ?_⟩
  · rw [h5, hw]; rfl
  · obtain ⟨x, hx, q⟩ := xy_mem h4 y hy
    obtain ⟨n1, n2⟩ := h.nk x hx
    have := NkH.reads I _ _ _ n1 (rfl : RelV (.ref x.2.1) (Value.ref x.2.1))
    rw [q.1, q.2.1] at this
    rw [q.1] at n2
    exact ⟨this, n2⟩
  · rw [xy_keys h4]; exact h.nd
abbrev RoomN (X : Cx) : Prop := X.A.units + 64 < cLine
def rDIn (K : PySem.W.Frag) (hs : NestedKey → Int) (neg : Bool) : R2 := fun x y H Q => ∃ k a xs b, x = .ref b ∧ y = .ref a ∧ NkH K H k (.ref b) ∧ k.depth ≤ 8 ∧ DctH K H hs a xs ∧ Q (.bl (neg != (xfind xs k).isSome)) H
theorem op_dIn {hs : NestedKey → Int} (hu : RoomN X) (hw : hs = NestedKey.hash X.w) : OpR X (compareOp .In) (rDIn X.K hs false) := by
  intro pins s σ H x y v u Q I rx ry h
  obtain ⟨k, a, xs, b, rfl, rfl, nk, dp, dh, q⟩ := h
  cases rx; cases ry
  obtain ⟨ys, pr, hm⟩ := dh.at hw I
  refine wpAny_in_heap (knd := nestedKind X.prog X.w) (k := k) (show X.A.units + 1 + 8 < cLine by have : X.A.units + 64 < cLine := hu; omega) ⟨NkH.reads I k _ _ nk rfl, dp⟩ dh.sys hm ?_
  refine ⟨.bl _, H, I.tok _, ?_, q⟩
  show Value.bool _ = Value.bool _
  rcases xy_at (k := k) pr with ⟨e1, e2⟩ | ⟨x, u, e1, e2, _⟩ <;> rw [e1, e2] <;> rfl
theorem op_dNin {hs : NestedKey → Int} (hu : RoomN X) (hw : hs = NestedKey.hash X.w) : OpR X (compareOp .NotIn) (rDIn X.K hs true) := by
  intro pins s σ H x y v u Q I rx ry h
  obtain ⟨k, a, xs, b, rfl, rfl, nk, dp, dh, q⟩ := h
  cases rx; cases ry
  obtain ⟨ys, pr, hm⟩ := dh.at hw I
  show wpAny _ _ (do return Value.bool (!(← contains (.ref a) (.ref b)))) _ _ s
  refine wpAny_bind (wpAny_contains_heap (knd := nestedKind X.prog X.w) (k := k) (show X.A.units + 1 + 8 < cLine by have : X.A.units + 64 < cLine := hu; omega) ⟨NkH.reads I k _ _ nk rfl, dp⟩ dh.sys hm (wpAny_pure ?_))
  refine ⟨.bl _, H, I.tok _, ?_, q⟩
  show Value.bool _ = Value.bool _
  rcases xy_at (k := k) pr with ⟨e1, e2⟩ | ⟨x, u, e1, e2, _⟩ <;> rw [e1, e2] <;> rfl
def tDGetN (K : PySem.W.Frag) (hs : NestedKey → Int) : R2 := fun x y H Q => ∃ k a xs b z, x = .ref a ∧ y = .ref b ∧ NkH K H k (.ref b) ∧ k.depth ≤ 8 ∧ DctH K H hs a xs ∧ xfind xs k = some z ∧ Q z.2.2 H
theorem pe_dgetN {hs : NestedKey → Int} {o i : Expr} {td ty : TE} (hu : RoomN X) (hw : hs = NestedKey.hash X.w) (ho : PE X o td) (hi : PE X i ty) (hs' : NoSl i) : PE X (.Subscript o i pos) (tOp (tDGetN X.K hs) td ty) := by
  refine ⟨fun pins s σ H Q I h => ?_⟩
  refine subD_of PySem.F.slot_dict_getitem.lookup hs' (thn (ho.run pins s σ H _ I h) fun u s1 ⟨x, H1, I1, rx, q1⟩ => thn (hi.run pins s1 σ H1 _ I1 q1) fun iv s2 ⟨y, H2, I2, ry, k, a, xs, b, z, ex, ey, nk, dp, dh, hz, q⟩ => ?_)
  subst ex; subst ey
  obtain rfl : u = Value.ref a := rx
  obtain rfl : iv = Value.ref b := ry
  obtain ⟨ys, pr, hm⟩ := dh.at hw I2
  refine ⟨hm.typeIs, ?_⟩
  rcases xy_at (k := k) pr with ⟨e1, e2⟩ | ⟨x', u', e1, e2, ru⟩
  · rw [e1] at hz; cases hz
  · rw [e1] at hz
    have hz := Option.some.inj hz
    subst hz
    exact wpAny_getItem_heap (knd := nestedKind X.prog X.w) (show X.A.units + 1 + 8 < cLine by have : X.A.units + 64 < cLine := hu; omega) ⟨NkH.reads I2 k _ _ nk rfl, dp⟩ hm e2 ⟨x'.2.2, H2, I2.tok _, ru, q⟩
end
end L3
set_option Elab.async false
set_option linter.all false
set_option maxRecDepth 100000
set_option maxHeartbeats 2000000
/-! dicts whose keys are tuples of data: storing, making, what is computed -/
namespace L3
open PySem PySem.Spec L2 PyProof.Rows
section
variable {Y : Pc} {X : Cx} {W : WX} {a b e v : Expr} {es : List Expr} {pos : Pos} {K : PySem.W.Frag} {F H : Hp} {ρ : List Addr} {S : Store} {ra rb : Ev → Store → Res D} {rs : Ev → Store → Res (List D)} {pins : List (Addr × Obj)} {σ : L2.St} {s : Shared}
def xputA (k : NestedKey) (v : V) (x : NestedKey × Addr × V) : NestedKey × Addr × V := if x.1 = k then (x.1, x.2.1, v) else x
def xput (xs : List (NestedKey × Addr × V)) (k : NestedKey) (b : Addr) (v : V) : List (NestedKey × Addr × V) := if (xfind xs k).isSome then xs.map (xputA k v) else xs ++ [(k, b, v)]
theorem xy_map {xs : List (NestedKey × Addr × V)} {ys : List (NestedKey × Addr × Value)} {k : NestedKey} {v : V} {u : Value} (p : Paired XYR xs ys) (r : RelV v u) : Paired XYR (xs.map (xputA k v)) (ys.map (putAt k u)) := by
  induction p with
  | nil => exact .nil
  | @cons x y xs ys h _ ih =>
    refine .cons ?_ ih
    unfold xputA putAt
    by_cases e : x.1 = k
    · rw [if_pos e, if_pos (h.1 ▸ e)]; exact ⟨h.1, h.2.1, r⟩
    · rw [if_neg e, if_neg (fun z => e (h.1.trans z))]; exact h
theorem xy_snoc {xs : List (NestedKey × Addr × V)} {ys : List (NestedKey × Addr × Value)} {k : NestedKey} {b : Addr} {v : V} {u : Value} (p : Paired XYR xs ys) (r : RelV v u) : Paired XYR (xs ++ [(k, b, v)]) (ys ++ [(k, b, u)]) := by
  induction p with
  | nil => exact .cons ⟨rfl, rfl, r⟩ .nil
  | cons h _ ih => exact .cons h ih
theorem xy_put {xs : List (NestedKey × Addr × V)} {ys : List (NestedKey × Addr × Value)} {k : NestedKey} {b : Addr} {v : V} {u : Value} (p : Paired XYR xs ys) (r : RelV v u) : Paired XYR (xput xs k b v) (storedH ys k b u) := by
  unfold xput storedH
  rcases xy_at (k := k) p with ⟨e1, e2⟩ | ⟨x, u', e1, e2, _⟩
  · rw [e1, e2]; exact xy_snoc p r
  · rw [e1, e2]; exact xy_map p r
theorem xput_keys {xs : List (NestedKey × Addr × V)} {k : NestedKey} {b : Addr} {v : V} : (xput xs k b v).map (·.1) = if (xfind xs k).isSome then xs.map (·.1) else xs.map (·.1) ++ [k] := by
  unfold xput
  by_cases h : (xfind xs k).isSome = true
  · rw [if_pos h, if_pos h, List.map_map]
    refine List.map_congr_left fun x _ => ?_
    simp only [Function.comp, xputA]
    split <;> rfl
  · rw [if_neg h, if_neg h, List.map_append]; rfl
theorem xfind_none {xs : List (NestedKey × Addr × V)} {k : NestedKey} (h : ¬ (xfind xs k).isSome = true) : k ∉ xs.map (·.1) := by
  intro hm
  obtain ⟨x, hx, e⟩ := List.mem_map.mp hm
  apply h
  unfold xfind
  rw [List.find?_isSome]
  exact ⟨x, hx, decide_eq_true e⟩
theorem xput_nd {xs : List (NestedKey × Addr × V)} {k : NestedKey} {b : Addr} {v : V} (h : (xs.map (·.1)).Nodup) : ((xput xs k b v).map (·.1)).Nodup := by
  rw [xput_keys]
  by_cases z : (xfind xs k).isSome = true
  · rw [if_pos z]; exact h
  · rw [if_neg z, List.nodup_append]
    exact ⟨h, by simp, fun x hx y hy => by simp at hy; subst hy; exact fun e => xfind_none z (e ▸ hx)⟩
theorem xput_len {xs : List (NestedKey × Addr × V)} {k : NestedKey} {b : Addr} {v : V} : (xput xs k b v).length ≤ xs.length + 1 := by
  unfold xput
  split <;> simp
theorem dct_new {P : Program} {w : World} {h : Heap} {hs : NestedKey → Int} {a : Addr} {xs : List (NestedKey × Addr × V)} (p : DctP hs a xs h) : ObjOk P w H h a (DctO hs a xs) := by
  obtain ⟨o, es, ep, ys, h1, h2⟩ := id p
  refine ⟨p, ⟨o, h1⟩, fun g1 g2 q k => ?_⟩
  obtain ⟨o, es, ep, ys, q1, q2⟩ := q
  exact ⟨o, es, ep, ys, k _ q1, q2⟩
def rDSetN (K : PySem.W.Frag) (hs : NestedKey → Int) : TSet := fun o i v H Q => ∃ k a xs b, o = .ref a ∧ i = .ref b ∧ NkH K H k (.ref b) ∧ k.depth ≤ 8 ∧ H a = some (DctO hs a xs) ∧ DctH K H hs a xs ∧ Q (upd H a (DctO hs a (xput xs k b v)))
theorem set_dctN {hs : NestedKey → Int} (hu : RoomN X) (hw : hs = NestedKey.hash X.w) : PSet X (rDSetN X.K hs) := by
  intro pins s σ H o i v ov iv u Q I ro ri rv h
  obtain ⟨k, a, xs, b, rfl, rfl, nk, dp, ha, dh, q⟩ := h
  cases ro; cases ri
  obtain ⟨ys, pr, hm⟩ := dh.at hw I
  refine wpAny_setItem_heap (knd := nestedKind X.prog X.w) (k := k) (show X.A.units + 1 + 8 < cLine by have : X.A.units + 64 < cLine := hu; omega) ⟨NkH.reads I k _ _ nk rfl, dp⟩ hm (fun h' hm' sb => ?_) (by have := Paired.length pr; have := dh.le; have := sizeLine_eq; omega)
  obtain ⟨o', es, ep, h1, h2, h3, h4, h5, h6⟩ := hm'
  have p : DctP hs a (xput xs k b v) h' := ⟨o', es, ep, _, h1, h2, h3, xy_put pr rv, by rw [h4, hw]; rfl⟩
  exact ⟨_, I.write (x := a) (e := a) (t' := s.toks + (nestedKind X.prog X.w).draws k) (by rw [ha]; trivial) (.inl rfl) (fun c u hc hu => (sb.2 c hc).trans hu) ⟨_, h1⟩ (dct_new p), q⟩
/-- {} -/
def tDNewN (hs : NestedKey → Int) : TE := fun _ H Q => ∀ p, H p = none → (p == sysModules) = false → Q (.ref p) (upd H p (DctO hs p []))
theorem pe_dnewN {hs : NestedKey → Int} : PE X (.Dict [] [] pos) (tDNewN hs) := ⟨fun pins s σ H Q I h => by
  refine wpAny_Dict_empty ⟨.ref s.heap.objs.size, _, I.laid (a := s.heap.objs.size) (o := DctO hs s.heap.objs.size []) (t' := s.toks) (fun _ _ q => Heap.get?_push_of_some _ q) (Nat.le_refl _) (dct_new ⟨_, #[], 0, [], Heap.get?_push_size _ rfl, ⟨rfl, rfl, rfl⟩, rfl, .nil, rfl⟩), rfl, h _ (I.hok.fresh (Nat.le_refl _)) ?_⟩
  exact beq_eq_false_iff_ne.mpr (Ne.symm (Nat.ne_of_lt I.big))⟩
/-! ### as data -/
/-- the entries of a dict of the store -/
def kvsD (S : Store) : D → Option (List (D × D))
  | .loc i => match S[i]? with
    | some (.dct kvs) => some kvs
    | some (.dkf kvs) => some kvs
    | _ => none
  | _ => none
def keyT : D → Option NestedKey
  | .tup ds => (keyD (.tup ds)).bind fun k => if k.depth ≤ 8 then some k else none
  | _ => none
def kfind (kvs : List (D × D)) (k : NestedKey) : Option D := (kvs.find? fun p => decide (keyD p.1 = some k)).map (·.2)
def kput (kvs : List (D × D)) (k : NestedKey) (i v : D) : List (D × D) := if (kfind kvs k).isSome then kvs.map (fun p => if keyD p.1 = some k then (p.1, v) else p) else kvs ++ [(i, v)]
theorem KVOk.find {xs : List (NestedKey × Addr × V)} {kvs : List (D × D)} {k : NestedKey} : KVOk K F ρ xs kvs → (kfind kvs k = none ∧ xfind xs k = none) ∨ ∃ d x, kfind kvs k = some d ∧ xfind xs k = some x ∧ RD K F ρ x.2.2 d := by
  induction kvs generalizing xs with
  | nil =>
    rintro ⟨h1, h2, h3, h4⟩
    cases xs with
    | nil => exact .inl ⟨rfl, rfl⟩
    | cons x xs => cases h3
  | cons p kvs ih =>
    rintro ⟨h1, h2, h3, h4⟩
    cases xs with
    | nil => cases h1
    | cons x xs =>
      cases h1 with
      | cons a1 a2 =>
        cases h2 with
        | cons b1 b2 =>
          have h3 : ((keyD p.1).bind fun k => (keyDs (kvs.map (·.1))).map (k :: ·)) = some (x.1 :: xs.map (·.1)) := h3
          cases e1 : keyD p.1 with
          | none => rw [e1] at h3; cases h3
          | some k1 =>
            rw [e1] at h3
            have h3 : (keyDs (kvs.map (·.1))).map (k1 :: ·) = some (x.1 :: xs.map (·.1)) := h3
            cases e2 : keyDs (kvs.map (·.1)) with
            | none => rw [e2] at h3; cases h3
            | some ks =>
              rw [e2] at h3
              have h3 := Option.some.inj h3
              injection h3 with h3 h5
              subst h3
              have q := ih ⟨a2, b2, by rw [e2, h5], fun y hy => h4 y (List.mem_cons_of_mem _ hy)⟩
              unfold kfind xfind at *
              by_cases z : x.1 = k
              · refine .inr ⟨p.2, x, ?_, ?_, b1⟩
                · simp [List.find?_cons, e1, z]
                · simp [List.find?_cons, z]
              · have z2 : ¬ (keyD p.1 = some k) := by rw [e1]; simpa using z
                simp only [List.find?_cons, decide_eq_false z, decide_eq_false z2]
                exact q
end
end L3
set_option Elab.async false
set_option linter.all false
set_option maxRecDepth 100000
set_option maxHeartbeats 2000000
/-! dicts whose keys are tuples of data: the operations by their data -/
namespace L3
open PySem PySem.Spec L2 PyProof.Rows
section
variable {Y : Pc} {X : Cx} {W : WX} {a b e v : Expr} {es : List Expr} {pos : Pos} {K : PySem.W.Frag} {F H : Hp} {ρ : List Addr} {S : Store} {ra rb : Ev → Store → Res D} {rs : Ev → Store → Res (List D)} {pins : List (Addr × Obj)} {σ : L2.St} {s : Shared}
theorem keyDs_cons {d : D} {ds : List D} {k : NestedKey} {ks : List NestedKey} (h1 : keyD d = some k) (h2 : keyDs ds = some ks) : keyDs (d :: ds) = some (k :: ks) := by
  show ((keyD d).bind fun k => (keyDs ds).map (k :: ·)) = _
  rw [h1, h2]; rfl
theorem keyDs_inv {d : D} {ds : List D} {k : NestedKey} {ks : List NestedKey} (h : keyDs (d :: ds) = some (k :: ks)) : keyD d = some k ∧ keyDs ds = some ks := by
  have h : ((keyD d).bind fun k => (keyDs ds).map (k :: ·)) = some (k :: ks) := h
  cases e1 : keyD d with
  | none => rw [e1] at h; cases h
  | some k1 =>
    rw [e1] at h
    have h : (keyDs ds).map (k1 :: ·) = some (k :: ks) := h
    cases e2 : keyDs ds with
    | none => rw [e2] at h; cases h
    | some k2 => rw [e2] at h; cases h; exact ⟨rfl, rfl⟩
theorem keyDs_snoc : ∀ {ds : List D} {ks : List NestedKey} {d : D} {k : NestedKey}, keyDs ds = some ks → keyD d = some k → keyDs (ds ++ [d]) = some (ks ++ [k])
  | [], ks, d, k, h1, h2 => by cases h1; exact keyDs_cons h2 rfl
  | x :: ds, ks, d, k, h1, h2 => by
    have h1' : ((keyD x).bind fun k => (keyDs ds).map (k :: ·)) = some ks := h1
    cases e1 : keyD x with
    | none => rw [e1] at h1'; cases h1'
    | some k1 =>
      rw [e1] at h1'
      have h : (keyDs ds).map (k1 :: ·) = some ks := h1'
      cases e2 : keyDs ds with
      | none => rw [e2] at h; cases h
      | some k2 => rw [e2] at h; cases h; exact keyDs_cons e1 (keyDs_snoc e2 h2)
theorem KVOk.nil : KVOk K F ρ [] [] := ⟨.nil, .nil, rfl, fun _ h => by cases h⟩
theorem KVOk.inv {x : NestedKey × Addr × V} {xs : List (NestedKey × Addr × V)} {p : D × D} {kvs : List (D × D)} (h : KVOk K F ρ (x :: xs) (p :: kvs)) : RD K F ρ (.ref x.2.1) p.1 ∧ RD K F ρ x.2.2 p.2 ∧ keyD p.1 = some x.1 ∧ x.1.depth ≤ 8 ∧ KVOk K F ρ xs kvs := by
  obtain ⟨h1, h2, h3, h4⟩ := h
  cases h1 with
  | cons a1 a2 =>
    cases h2 with
    | cons b1 b2 =>
      obtain ⟨c1, c2⟩ := keyDs_inv h3
      exact ⟨a1, b1, c1, h4 x List.mem_cons_self, a2, b2, c2, fun y hy => h4 y (List.mem_cons_of_mem _ hy)⟩
theorem KVOk.cons {x : NestedKey × Addr × V} {xs : List (NestedKey × Addr × V)} {p : D × D} {kvs : List (D × D)} (h1 : RD K F ρ (.ref x.2.1) p.1) (h2 : RD K F ρ x.2.2 p.2) (h3 : keyD p.1 = some x.1) (h4 : x.1.depth ≤ 8) (h : KVOk K F ρ xs kvs) : KVOk K F ρ (x :: xs) (p :: kvs) :=
  ⟨.cons h1 h.1, .cons h2 h.2.1, keyDs_cons h3 h.2.2.1, fun y hy => by
    rcases List.mem_cons.mp hy with rfl | hy
    · exact h4
    · exact h.2.2.2 y hy⟩
theorem KVOk.snil {xs : List (NestedKey × Addr × V)} (h : KVOk K F ρ xs []) : xs = [] := by
  cases xs with
  | nil => rfl
  | cons x xs => cases h.1
theorem KVOk.scons {xs : List (NestedKey × Addr × V)} {p : D × D} {kvs : List (D × D)} (h : KVOk K F ρ xs (p :: kvs)) : ∃ x ys, xs = x :: ys := by
  cases xs with
  | nil => cases h.1
  | cons x xs => exact ⟨x, xs, rfl⟩
theorem KVOk.snoc {kvs : List (D × D)} : ∀ {xs : List (NestedKey × Addr × V)} {x : NestedKey × Addr × V} {p : D × D}, RD K F ρ (.ref x.2.1) p.1 → RD K F ρ x.2.2 p.2 → keyD p.1 = some x.1 → x.1.depth ≤ 8 → KVOk K F ρ xs kvs → KVOk K F ρ (xs ++ [x]) (kvs ++ [p]) := by
  induction kvs with
  | nil => intro xs x p h1 h2 h3 h4 h; cases h.snil; exact KVOk.cons h1 h2 h3 h4 KVOk.nil
  | cons q kvs ih =>
    intro xs x p h1 h2 h3 h4 h
    obtain ⟨y, ys, rfl⟩ := h.scons
    obtain ⟨a1, a2, a3, a4, a5⟩ := h.inv
    exact KVOk.cons a1 a2 a3 a4 (ih h1 h2 h3 h4 a5)
theorem KVOk.map {v : V} {d : D} {k : NestedKey} (r : RD K F ρ v d) {kvs : List (D × D)} : ∀ {xs : List (NestedKey × Addr × V)}, KVOk K F ρ xs kvs → KVOk K F ρ (xs.map (xputA k v)) (kvs.map fun p => if keyD p.1 = some k then (p.1, d) else p) := by
  induction kvs with
  | nil => intro xs h; cases h.snil; exact KVOk.nil
  | cons q kvs ih =>
    intro xs h
    obtain ⟨y, ys, rfl⟩ := h.scons
    obtain ⟨a1, a2, a3, a4, a5⟩ := h.inv
    simp only [List.map_cons]
    have q0 := ih a5
    by_cases e : y.1 = k
    · have e2 : keyD q.1 = some k := a3.trans (by rw [e])
      rw [if_pos e2]
      have e3 : xputA k v y = (y.1, y.2.1, v) := by unfold xputA; rw [if_pos e]
      rw [e3]
      exact KVOk.cons a1 r a3 a4 q0
    · have e2 : ¬ keyD q.1 = some k := fun z => e (Option.some.inj (a3.symm.trans z))
      rw [if_neg e2]
      have e3 : xputA k v y = y := by unfold xputA; rw [if_neg e]
      rw [e3]
      exact KVOk.cons a1 a2 a3 a4 q0
theorem KVOk.isS {xs : List (NestedKey × Addr × V)} {kvs : List (D × D)} (k : NestedKey) (h : KVOk K F ρ xs kvs) : (xfind xs k).isSome = (kfind kvs k).isSome := by
  rcases h.find (k := k) with ⟨e1, e2⟩ | ⟨d, x, e1, e2, _⟩ <;> rw [e1, e2] <;> rfl
theorem KVOk.put {xs : List (NestedKey × Addr × V)} {kvs : List (D × D)} {k : NestedKey} {b : Addr} {i : D} {v : V} {d : D} (r1 : RD K F ρ (.ref b) i) (r2 : RD K F ρ v d) (hk : keyD i = some k) (dp : k.depth ≤ 8) (h : KVOk K F ρ xs kvs) : KVOk K F ρ (xput xs k b v) (kput kvs k i d) := by
  unfold xput kput
  rw [h.isS k]
  by_cases z : (kfind kvs k).isSome = true
  · rw [if_pos z, if_pos z]; exact h.map r2
  · rw [if_neg z, if_neg z]; exact KVOk.snoc (x := (k, b, v)) (p := (i, d)) r1 r2 hk dp h
theorem KVOk.nk (e : Ex F H) {kvs : List (D × D)} : ∀ {xs : List (NestedKey × Addr × V)}, KVOk K F ρ xs kvs → ∀ x ∈ xs, NkH K H x.1 (.ref x.2.1) ∧ x.1.depth ≤ 8 := by
  induction kvs with
  | nil => intro xs h; cases h.snil; intro x hx; cases hx
  | cons q kvs ih =>
    intro xs h
    obtain ⟨y, ys, rfl⟩ := h.scons
    obtain ⟨a1, a2, a3, a4, a5⟩ := h.inv
    intro x hx
    rcases List.mem_cons.mp hx with rfl | hx
    · exact ⟨RD.nk e a1 a3, a4⟩
    · exact ih a5 x hx
theorem KVOk.length {xs : List (NestedKey × Addr × V)} {kvs : List (D × D)} (h : KVOk K F ρ xs kvs) : xs.length = kvs.length := by
  have := h.1.length
  simpa using this
theorem dct_cell {x : V} {d : D} {kvs : List (D × D)} (R : SR K Y F ρ S H) (r : RD K F ρ x d) (h : kvsD S d = some kvs) : ∃ a xs, x = .ref a ∧ DctH K H Y.hs a xs ∧ KVOk K F ρ xs kvs := by
  cases r with
  | @loc i a h1 =>
    have h : (match S[i]? with
      | some (.dct kvs) => some kvs
      | some (.dkf kvs) => some kvs
      | _ => none) = some kvs := h
    cases e : S[i]? with
    | none => rw [e] at h; cases h
    | some c =>
      rw [e] at h
      cases c with
      | dct kvs' =>
        cases h
        obtain ⟨k1, k0, xs, k2, k4, k5, k3⟩ := R.cell i _ _ h1 e
        exact ⟨_, xs, rfl, ⟨k0, .inl k2, k4, k3.nk R.ex, k5⟩, k3⟩
      | dkf kvs' =>
        cases h
        obtain ⟨o, xs, k1, k0, k4, k5, k3⟩ := R.cell i _ _ h1 e
        exact ⟨_, xs, rfl, ⟨k0, .inr ⟨o, R.ex _ _ k1⟩, k4, k3.nk R.ex, k5⟩, k3⟩
      | _ => cases h
  | _ => cases h
theorem key_rd {x : V} {d : D} {k : NestedKey} (e : Ex F H) (r : RD K F ρ x d) (h : keyT d = some k) : ∃ b, x = .ref b ∧ NkH K H k (.ref b) ∧ k.depth ≤ 8 ∧ keyD d = some k := by
  cases d with
  | tup ds =>
    have h : ((keyD (.tup ds)).bind fun k => if k.depth ≤ 8 then some k else none) = some k := h
    cases e1 : keyD (.tup ds) with
    | none => rw [e1] at h; cases h
    | some k1 =>
      rw [e1] at h
      have h : (if k1.depth ≤ 8 then some k1 else none) = some k := h
      by_cases z : k1.depth ≤ 8
      · rw [if_pos z] at h; cases h
        have n := RD.nk e r e1
        cases r with
        | tup r1 r2 => exact ⟨_, rfl, n, z, rfl⟩
      · rw [if_neg z] at h; cases h
  | _ => cases h
/-! ### in, not in -/
def dinD (neg : Bool) : Op2 := fun S x y => match keyT x, kvsD S y with
  | some k, some kvs => some (.bl (neg != (kfind kvs k).isSome))
  | _, _ => none
theorem din_ok (neg : Bool) : OpOk K Y (dinD neg) (rDIn K Y.hs neg) := fun F ρ S H x y dx dy d Q R rx ry e k => by
  unfold dinD at e
  cases e1 : keyT dx with
  | none => rw [e1] at e; cases e
  | some q =>
    rw [e1] at e
    cases e2 : kvsD S dy with
    | none => rw [e2] at e; cases e
    | some kvs =>
      rw [e2] at e
      cases e
      obtain ⟨b, rfl, nk, dp, _⟩ := key_rd R.ex rx e1
      obtain ⟨a, xs, rfl, dh, hk⟩ := dct_cell R ry e2
      refine ⟨q, a, xs, b, rfl, rfl, nk, dp, dh, ?_⟩
      rw [hk.isS q]
      exact k F H _ R (Nx.refl _ _ _) (.bl _)
theorem room64 {k : Nat} (C : Ok X W (k + 1)) : RoomN X := by
  have := room65 C.room
  show X.A.units + 64 < cLine
  omega
theorem sop_dIn {k : Nat} (C : Ok X W (k + 1)) (hw : Y.hs = NestedKey.hash X.w) : SOp Y X (compareOp .In) (dinD false) := ⟨_, op_dIn (room64 C) hw, din_ok false⟩
theorem sop_dNin {k : Nat} (C : Ok X W (k + 1)) (hw : Y.hs = NestedKey.hash X.w) : SOp Y X (compareOp .NotIn) (dinD true) := ⟨_, op_dNin (room64 C) hw, din_ok true⟩
/-! ### d[k] -/
def dgetD : Op2 := fun S x y => match kvsD S x, keyT y with
  | some kvs, some k => kfind kvs k
  | _, _ => none
theorem dget_ok : OpOk K Y dgetD (tDGetN K Y.hs) := fun F ρ S H x y dx dy d Q R rx ry e k => by
  unfold dgetD at e
  cases e2 : kvsD S dx with
  | none => rw [e2] at e; cases e
  | some kvs =>
    rw [e2] at e
    cases e1 : keyT dy with
    | none => rw [e1] at e; cases e
    | some q =>
      rw [e1] at e
      have e : kfind kvs q = some d := e
      obtain ⟨b, rfl, nk, dp, _⟩ := key_rd R.ex ry e1
      obtain ⟨a, xs, rfl, dh, hk⟩ := dct_cell R rx e2
      rcases hk.find (k := q) with ⟨e3, _⟩ | ⟨d', z, e3, e4, r⟩
      · rw [e3] at e; cases e
      · rw [e3] at e; cases e
        exact ⟨q, a, xs, b, z, rfl, rfl, nk, dp, dh, e4, k F H _ R (Nx.refl _ _ _) r⟩
theorem se_dgetD {k : Nat} (C : Ok X W (k + 1)) (hw : Y.hs = NestedKey.hash X.w) (ha : SE Y X W a ra) (hb : SE Y X W b rb) (hs : NoSl b := by first | exact fun _ _ => rfl | rfl | decide) : SE Y X W (.Subscript a b pos) (r2 dgetD ra rb) := by
  obtain ⟨ta, a1, a2⟩ := ha.ex
  obtain ⟨tb, b1, b2⟩ := hb.ex
  exact ⟨_, pe_dgetN (room64 C) hw a1 b1 hs, ev_op dget_ok a2 b2⟩
/-! ### d[k] = v -/
def dsetD : OpSet := fun S o i v => match o, keyT i with
  | .loc j, some k => match S[j]? with
    | some (.dct kvs) => if kvs.length < 10000000 then some (S.set j (.dct (kput kvs k i v))) else none
    | _ => none
  | _, _ => none
theorem sset_dct {k : Nat} (C : Ok X W (k + 1)) (hw : Y.hs = NestedKey.hash X.w) : SSet Y X dsetD := ⟨_, set_dctN (room64 C) hw, fun F ρ S S' H o i v dO dI dV Q R ro ri rv e k => by
  cases dO with
  | loc j =>
    cases e1 : keyT dI with
    | none => unfold dsetD at e; rw [e1] at e; cases e
    | some q =>
      unfold dsetD at e
      rw [e1] at e
      dsimp only at e
      cases e2 : S[j]? with
      | none => rw [e2] at e; cases e
      | some c =>
        rw [e2] at e
        cases c with
        | dct kvs =>
          dsimp only at e
          by_cases hl : kvs.length < 10000000
          · rw [if_pos hl] at e; cases e
            obtain ⟨b, rfl, nk, dp, kd⟩ := key_rd R.ex ri e1
            cases ro with
            | @loc _ a h1 =>
              obtain ⟨k1, k0, xs, k2, k4, k5, k3⟩ := R.cell j _ _ h1 e2
              have lx : xs.length < 10000000 := by rw [k3.length]; exact hl
              obtain ⟨R2, n2⟩ := R.write (c := .dct (kput kvs q dI dV)) (o := DctO Y.hs a (xput xs q b v)) h1 k1 ⟨k1, k0, _, upd_same, xput_nd k4, Nat.le_trans xput_len (by omega), k3.put ri rv kd dp⟩
              exact ⟨q, a, xs, b, rfl, rfl, nk, dp, k2, ⟨k0, .inl k2, k4, k3.nk R.ex, k5⟩, k F _ R2 n2⟩
          · rw [if_neg hl] at e; cases e
        | _ => cases e
  | _ => unfold dsetD at e; cases e⟩
/-! ### {} -/
def rDct0 : Ev → Store → Res D := fun _ S => .ok (.loc S.length) (S ++ [.dct []])
theorem se_dct0 : SE Y X W (.Dict [] [] pos) rDct0 := ⟨_, pe_dnewN (hs := Y.hs), fun F ρ S H σ env Q R E h p hp hm => by
  have fp : F p = none := by
    cases e : F p with
    | none => rfl
    | some u => rw [R.ex p u e] at hp; cases hp
  obtain ⟨R2, n2, e2⟩ := R.alloc (o := DctO Y.hs p []) (cc := .dct []) hp ⟨fp, hm, [], upd_same, List.nodup_nil, Nat.zero_le _, KVOk.nil⟩
  exact h _ _ _ R2 n2 _ (.loc e2)⟩
end
end L3
set_option Elab.async false
set_option linter.all false
set_option maxRecDepth 100000
set_option maxHeartbeats 2000000
/-! walking a dict whose keys are tuples: it stands still from then on -/
namespace L2
open PySem PySem.Spec PyProof.Rows L3
section
variable {X : Cx} {pins : List (Addr × Obj)} {σ : St} {H : Hp} {s : Shared} {d : Addr} {o : Obj}
theorem Inv.frzN {hs : NestedKey → Int} {xs : List (NestedKey × Addr × V)} (I : Inv X pins σ H s) (h : H d = some (.frz o (DctO hs d xs))) :
    s.heap.get? d = some o ∧ o.ExactDict ∧ ∃ (es : Array DictEntry) (ep : Nat), o.data = .dict es ep ∧ es.size = xs.length ∧ ∀ (i : Nat) (x : NestedKey × Addr × V), xs[i]? = some x → ∃ en : DictEntry, es[i]? = some en ∧ en.key = .ref x.2.1 := by
  obtain ⟨hd, p, _⟩ := I.hok d _ h
  obtain ⟨o', es, ep, ys, h1, h2, h3, h4, h5⟩ := p
  rw [hd] at h1; cases h1
  refine ⟨hd, h2, es, ep, h3, ?_, fun i x e => ?_⟩
  · have e1 := congrArg List.length h5
    have e2 := Paired.length h4
    simp at e1
    omega
  · obtain ⟨y, hy, q⟩ := paired_get h4 e
    refine ⟨⟨hs y.1, .ref y.2.1, y.2.2⟩, ?_, by rw [q.2.1]⟩
    rw [← Array.getElem?_toList, h5, List.getElem?_map, hy]; rfl
end
/-- the keys of the locked dict at d, in their order -/
def ItN (hs : NestedKey → Int) (d : Addr) (o : Obj) (xs : List (NestedKey × Addr × V)) : It :=
  ⟨fun i H => H d = some (.frz o (DctO hs d xs)) ∧ i < xs.length, fun i H x H' => H' = H ∧ ∃ y, xs[i]? = some y ∧ x = .ref y.2.1, fun i H => H d = some (.frz o (DctO hs d xs)) ∧ xs.length ≤ i⟩
section
variable {P : Program} {w : World} {K : PySem.W.Frag} {tg : Expr} {d : Addr} {o : Obj} {es : Array DictEntry} {ep : Nat}
theorem turn_N {hs : NestedKey → Int} {xs : List (NestedKey × Addr × V)} (it : Addr) (hod : o.data = .dict es ep) : Turn P w K tg (ItN hs d o xs) [it] it (fun i h => h.IsKeyIter it d i xs.length ep) where
  mem := by simp
  obj := fun i h st b hb => by
    have e : b = it := by simpa using hb
    subst e
    obtain ⟨oi, e, c, dd⟩ := st
    exact ⟨oi, e, fun v z => by rw [dd] at z; cases z⟩
  keep := fun i h h' st k => st.at fun oi e => k it (by simp) oi e
  item := by
    intro X hP hw hK hc i pins s σ H E I hf st hg
    subst hP hw hK
    obtain ⟨hd, hi⟩ := hg
    obtain ⟨f0, f1, f2, f3, f4, f5⟩ := hf it (by simp)
    obtain ⟨hgd, hx, es', ep', hdt, hsz, ent⟩ := I.frzN hd
    obtain ⟨rfl, rfl⟩ := dict_ep hod hdt
    obtain ⟨y, hy⟩ : ∃ p, xs[i]? = some p := ⟨xs[i], List.getElem?_eq_getElem hi⟩
    obtain ⟨en, hen, hkey⟩ := ent i y hy
    refine next_key_item st hgd hdt hsz hen fun h' st' sb => ?_
    have I1 : Inv X pins σ H { s with heap := h' } := I.turned (t' := s.toks) (fun b ob hb e => (sb.2 b hb).trans e) f0 f1 f3 f4 f5
    obtain ⟨oi, e, c, dd⟩ := id st'
    exact ⟨en.key, rfl, go_of (s := { s with heap := h' }) e c dd (by decide) ⟨.ref y.2.1, H, I1, hkey, ⟨rfl, y, hy, rfl⟩, st', fun b hb => (hf b hb).1⟩⟩
  done := by
    intro X hP hw hK hc i pins s σ H E I hf st hg
    subst hP hw hK
    obtain ⟨hd, hi⟩ := hg
    obtain ⟨f0, f1, f2, f3, f4, f5⟩ := hf it (by simp)
    obtain ⟨hgd, hx, es', ep', hdt, hsz, ent⟩ := I.frzN hd
    obtain ⟨rfl, rfl⟩ := dict_ep hod hdt
    exact next_key_end (I.ok.hd hc) st hgd hdt hsz hi fun h' eb => ⟨rfl, I.turned (t' := s.toks) (fun b ob hb e => eb b ob hb e) f0 f1 f3 f4 f5⟩
  self := fun A i s Q E st h => by
    refine wpAny_pyIter_slot st.typeIs F.slot_dict_keyiterator_iter (wpAny_call_entry F.slot_dict_keyiterator_iter st.typeIs F.entry_dict_keyiterator_iter ?_ (F.args_dict_keyiterator_iter_1 _))
    show wpAny _ _ (ret (.ref it)) _ _ s
    exact wpAny_pure ⟨_, rfl, "dict_keyiterator", _, st.typeIs, F.slot_dict_keyiterator_next.lookup, h⟩
end
/-- the dict is locked here, or was -/
def iDctN (hs : NestedKey → Int) (td : TE) : TI := fun σ H R => td σ H fun x H1 => ∃ d xs, x = .ref d ∧ (d == sysModules) = false ∧
  ((H1 d = some (DctO hs d xs) ∧ ∀ o, R (ItN hs d o xs) (upd H1 d (.frz o (DctO hs d xs)))) ∨ ∃ o, H1 d = some (.frz o (DctO hs d xs)) ∧ R (ItN hs d o xs) H1)
section
variable {X : Cx} {tg e : Expr} {td : TE}
theorem pi_dctN {hs : NestedKey → Int} (he : PE X e td) : PI X tg e (iDctN hs td) := by
  refine ⟨fun pins s σ H R I h => ?_⟩
  refine thn (he.run pins s σ H _ I h) fun u s1 ⟨x, H1, I1, rx, d, xs, ex, hsy, q⟩ => ?_
  subst ex
  obtain rfl : u = Value.ref d := rx
  have go : ∀ (o : Obj) (H2 : Hp), Inv X pins σ H2 s1 → H2 d = some (.frz o (DctO hs d xs)) → R (ItN hs d o xs) H2 → wpAny (model X.prog X.w) X.A (pyIter (.ref d)) (PIE X pins σ tg R) X.xe s1 := fun o H2 I2 hd q => by
    obtain ⟨hgd, hx, es, ep, hdt, hsz, ent⟩ := I2.frzN hd
    refine iter_keys hsy hgd hx hdt (pi_one (tk := s1.toks) I2 _ (turn_N _ hdt) ⟨_, Heap.get?_push_size _ rfl, rfl, ?_⟩ q)
    rw [hsz] <;> rfl
  rcases q with ⟨hd, q⟩ | ⟨o, hd, q⟩
  · obtain ⟨od, I2⟩ := I1.lock hd trivial
    exact go od _ I2 upd_same (q od)
  · exact go o H1 I1 hd q
end
end L2
namespace L3
open PySem PySem.Spec L2 PyProof.Rows
section
variable {Y : Pc} {X : Cx} {W : WX} {a b e v tg iter : Expr} {es : List Expr} {pos : Pos} {K : PySem.W.Frag} {F H : Hp} {ρ : List Addr} {S : Store} {ra rb : Ev → Store → Res D} {rs : Ev → Store → Res (List D)} {pins : List (Addr × Obj)} {σ : L2.St} {s : Shared}
/-- a dict of the store stays as it is from now on -/
theorem SR.lockD (R : SR K Y F ρ S H) {i : Nat} {a : Addr} {kvs : List (D × D)} {xs : List (NestedKey × Addr × V)} (hi : ρ[i]? = some a) (hs : S[i]? = some (.dct kvs)) (hH : H a = some (DctO Y.hs a xs)) (od : Obj)
    (fa : F a = none) (k0 : (a == sysModules) = false) (k4 : (xs.map (·.1)).Nodup) (k5 : xs.length ≤ 10000000) (hx : KVOk K F ρ xs kvs) :
    SR K Y (upd F a (.frz od (DctO Y.hs a xs))) ρ (S.set i (.dkf kvs)) (upd H a (.frz od (DctO Y.hs a xs))) ∧ Nx F ρ H (upd F a (.frz od (DctO Y.hs a xs))) ρ (upd H a (.frz od (DctO Y.hs a xs))) := by
  have hm : a ∈ ρ := List.mem_of_getElem? hi
  have e1 : Ex F (upd F a (.frz od (DctO Y.hs a xs))) := Ex.new fa
  refine ⟨⟨fun b u h => ?_, by simp [R.len], R.nd, fun b h => ?_, fun j b c' h1 h2 => ?_⟩, ⟨e1, fun _ _ h => h, fun b u h n => ?_, fun b h => ?_, fun _ h => .inl h, fun b h => ?_⟩⟩
  · by_cases e : b = a
    · subst e; rw [upd_same] at h ⊢; exact h
    · rw [upd_ne e] at h ⊢; exact R.ex b u h
  · by_cases e : b = a
    · subst e; rw [upd_same]; simp
    · rw [upd_ne e]; exact R.there b h
  · by_cases hj : j = i
    · subst hj
      rw [hi] at h1; cases h1
      rw [List.getElem?_set_self (by rw [← R.len]; exact (List.getElem?_eq_some_iff.mp hi).1)] at h2
      cases h2
      exact ⟨od, xs, upd_same, k0, k4, k5, hx.mono e1 fun _ _ h => h⟩
    · rw [List.getElem?_set_ne (Ne.symm hj)] at h2
      have hb : b ≠ a := fun e => by
        subst e
        obtain ⟨l1, e1⟩ := List.getElem?_eq_some_iff.mp hi
        obtain ⟨l2, e2⟩ := List.getElem?_eq_some_iff.mp h1
        exact hj ((List.getElem_inj R.nd).mp (e2.trans e1.symm))
      have k := R.cell j b c' h1 h2
      cases c' with
      | dead => trivial
      | lst ds =>
        obtain ⟨k1, xs, k2, k3⟩ := k
        exact ⟨by rw [upd_ne hb]; exact k1, xs, by rw [upd_ne hb]; exact k2, k3.mono e1 fun _ _ h => h⟩
      | ins c fs =>
        obtain ⟨k1, dx, vs, k2, k3⟩ := k
        exact ⟨by rw [upd_ne hb]; exact k1, dx, vs, by rw [upd_ne hb]; exact k2, k3.mono e1 fun _ _ h => h⟩
      | dct kvs =>
        obtain ⟨k1, k0, xs, k2, k4, k5, k3⟩ := k
        exact ⟨by rw [upd_ne hb]; exact k1, k0, xs, by rw [upd_ne hb]; exact k2, k4, k5, k3.mono e1 fun _ _ h => h⟩
      | dkf kvs =>
        obtain ⟨o, xs, k1, k0, k4, k5, k3⟩ := k
        exact ⟨o, xs, e1 _ _ k1, k0, k4, k5, k3.mono e1 fun _ _ h => h⟩
      | exn c => exact ⟨by rw [upd_ne hb]; exact k.1, by rw [upd_ne hb]; exact k.2⟩
      | tdk ks ds =>
        obtain ⟨k1, xs, k2, k4, k3⟩ := k
        exact ⟨by rw [upd_ne hb]; exact k1, xs, by rw [upd_ne hb]; exact k2, k4, k3.mono e1 fun _ _ h => h⟩
  · have hb : b ≠ a := fun e => n (e ▸ hm)
    rw [upd_ne hb]; exact h
  · by_cases e : b = a
    · subst e; exact .inr (.inr hm)
    · rw [upd_ne e] at h; exact .inl h
  · by_cases e : b = a
    · subst e; rw [upd_same]; simp
    · rw [upd_ne e]; exact h
theorem KVOk.get {kvs : List (D × D)} : ∀ {xs : List (NestedKey × Addr × V)} {i : Nat} {d : D}, KVOk K F ρ xs kvs → (kvs.map (·.1))[i]? = some d → ∃ x, xs[i]? = some x ∧ RD K F ρ (.ref x.2.1) d := by
  intro xs i d h e
  obtain ⟨v, e1, e2⟩ := h.1.get e
  rw [List.getElem?_map] at e1
  cases e3 : xs[i]? with
  | none => rw [e3] at e1; cases e1
  | some x => rw [e3] at e1; cases e1; exact ⟨x, rfl, e2⟩
theorem walks_N {hs : NestedKey → Int} {d : Addr} {od : Obj} {xs : List (NestedKey × Addr × V)} {kvs : List (D × D)} (h : F d = some (.frz od (DctO hs d xs))) (r : KVOk K F ρ xs kvs) : WalksJ K Y (ItN hs d od xs) F ρ (kvs.map (·.1)) := fun F1 ρ1 S1 H1 e p R i => by
  have q := R.ex _ _ (e _ _ h)
  refine ⟨fun dd hd => ?_, fun hi => ⟨q, by rw [r.length]; simpa using hi⟩⟩
  obtain ⟨x, hx, rx⟩ := r.get hd
  refine ⟨⟨q, (List.getElem?_eq_some_iff.mp hx).1⟩, fun v H' y => ?_⟩
  obtain ⟨rfl, z, hz, rfl⟩ := y
  rw [hx] at hz; cases hz
  exact ⟨F1, R, Nx.refl _ _ _, rx.mono e p⟩
def iDct (ra : Ev → Store → Res D) : Ev → Store → Res (List D) := fun env S => (ra env S).bind fun d S1 => match d with
  | .loc i => match S1[i]? with
    | some (.dct kvs) => .ok (kvs.map (·.1)) (S1.set i (.dkf kvs))
    | some (.dkf kvs) => .ok (kvs.map (·.1)) S1
    | _ => .stuck
  | _ => .stuck
theorem si_dct (ha : SE Y X W iter ra) : SI Y X W tg iter (iDct ra) := by
  obtain ⟨ta, a1, a2⟩ := ha.ex
  refine ⟨_, pi_dctN (hs := Y.hs) a1, fun F ρ S H σ env Q R E h => a2.then R E h fun d u S1 F1 ρ1 H1 R1 n1 E1 ru o1 => ?_⟩
  cases ru with
  | @loc i a h1 =>
    have o1 : Out X.K Y F1 ρ1 H1 (match S1[i]? with
      | some (.dct kvs) => .ok (kvs.map (·.1)) (S1.set i (.dkf kvs))
      | some (.dkf kvs) => .ok (kvs.map (·.1)) S1
      | _ => .stuck : Res (List D)) (fun items _ F' ρ' H' => ∀ J, WalksJ X.K Y J F' ρ' items → Q J H') (fun c H' => W c none σ H') := o1
    cases e : S1[i]? with
    | none => rw [e] at o1; exact False.elim o1
    | some c =>
      rw [e] at o1
      cases c with
      | dct kvs =>
        obtain ⟨k1, k0, xs, k2, k4, k5, k3⟩ := R1.cell i _ _ h1 e
        refine ⟨a, xs, rfl, k0, .inl ⟨k2, fun od => ?_⟩⟩
        obtain ⟨R2, n2⟩ := R1.lockD h1 e k2 od k1 k0 k4 k5 k3
        exact o1 _ _ _ R2 n2 _ (walks_N upd_same (k3.mono n2.ex n2.pre))
      | dkf kvs =>
        obtain ⟨od, xs, k1, k0, k4, k5, k3⟩ := R1.cell i _ _ h1 e
        exact ⟨a, xs, rfl, k0, .inr ⟨od, R1.ex _ _ k1, Out.now o1 R1 _ (walks_N k1 k3)⟩⟩
      | _ => exact False.elim o1
  | _ => exact False.elim o1
end
end L3
set_option Elab.async false
set_option linter.all false
set_option maxRecDepth 100000
set_option maxHeartbeats 4000000
/-! zip of a list and a tuple; a tuple once over; longer lists -/
namespace L2
open PySem PySem.Spec PyProof.Rows L3
abbrev ityp (t : Bool) : String := if t = true then "tuple_iterator" else "list_iterator"
/-- an iterator over a tuple (true), a list -/
def IsIt (t : Bool) (h : Heap) (it l : Addr) (i : Nat) : Prop := if t = true then h.IsTupleIter it l i else h.IsListIter it l i
def IsSq (t : Bool) (h : Heap) (l : Addr) (items : Array Value) : Prop := if t = true then h.IsTuple l items else h.IsList l items
def SqX (t : Bool) (K : PySem.W.Frag) (H : Hp) (l : Addr) (xs : List V) : Prop := if t = true then SqT K H l xs else SqL K H l xs
theorem IsIt.at {t : Bool} {h h' : Heap} {it l : Addr} {i : Nat} (x : IsIt t h it l i) (e : ∀ o, h.get? it = some o → h'.get? it = some o) : IsIt t h' it l i := by
  cases t
  · exact Heap.IsListIter.at x e
  · exact Heap.IsTupleIter.at x e
theorem IsIt.obj {t : Bool} {h : Heap} {it l : Addr} {i : Nat} (x : IsIt t h it l i) : ∃ o, h.get? it = some o ∧ ∀ v, o.data ≠ .cell v := by
  cases t
  · obtain ⟨o, e, _, d⟩ := (x : h.IsListIter it l i); exact ⟨o, e, fun v q => by rw [d] at q; cases q⟩
  · obtain ⟨o, e, _, d⟩ := (x : h.IsTupleIter it l i); exact ⟨o, e, fun v q => by rw [d] at q; cases q⟩
theorem Draws.sq {prog : Program} {w : World} {A : Around} (hh : A.handled = none) (t : Bool) (it l : Addr) (hne : l ≠ it) (items : Array Value) :
    Draws prog w A it [it, l] items.size (fun i v => items[i]? = some v) (fun i h => IsIt t h it l i ∧ IsSq t h l items) := by
  cases t
  · exact Draws.list hh it l hne items
  · exact Draws.tuple hh it l hne items
theorem Draws.sqAt {prog : Program} {w : World} {A : Around} (hh : A.handled = none) (t : Bool) (it l : Addr) (hne : l ≠ it) (items : Array Value) (i : Nat) :
    ∃ (n : Nat) (P : Nat → Value → Prop) (St : Nat → Heap → Prop), Draws prog w A it [it, l] n P St ∧ (∀ h, IsIt t h it l i → IsSq t h l items → St i h) ∧ i ≤ n ∧ (items.size ≤ i → i = n) := by
  by_cases hi : i < items.size
  · exact ⟨_, _, _, Draws.sq hh t it l hne items, fun h a b => ⟨a, b⟩, by omega, fun z => by omega⟩
  · refine ⟨i, fun _ _ => True, fun j h => (IsIt t h it l j ∧ IsSq t h l items) ∧ j = i, ⟨fun j h st => ?_, fun j h h' st hk => ?_, fun j s Q E hj st hQ => ?_, fun s Q E st hE => ?_⟩, fun h a b => ⟨⟨a, b⟩, rfl⟩, Nat.le_refl _, fun _ => rfl⟩
    · obtain ⟨o, e, _⟩ := st.1.1.obj; exact ⟨o, e⟩
    · exact ⟨(Draws.sq (prog := prog) (w := w) hh t it l hne items).frame j h h' st.1 hk, st.2⟩
    · exact absurd st.2 (Nat.ne_of_lt hj)
    · cases t
      · exact wpAny_nextOf_list_end hh st.1.1 st.1.2 (by simp; omega) hE
      · exact wpAny_nextOf_tuple_end hh st.1.1 st.1.2 (by simp; omega) hE
theorem IsSq.lt {t : Bool} {h : Heap} {l : Addr} {items : Array Value} (x : IsSq t h l items) : l < h.objs.size := by
  cases t
  · obtain ⟨o, e, _⟩ := (x : h.IsList l items); exact Heap.lt_size e
  · obtain ⟨o, e, _⟩ := (x : h.IsTuple l items); exact Heap.lt_size e
section
variable {X : Cx} {pins : List (Addr × Obj)} {σ : St} {H : Hp} {s : Shared}
theorem Inv.sq {t : Bool} {a : Addr} {xs : List V} (I : Inv X pins σ H s) (h : SqX t X.K H a xs) : ∃ its : List Value, Vals xs its ∧ IsSq t s.heap a its.toArray := by
  cases t
  · obtain ⟨its, r, p, _⟩ := I.list (h : SqL X.K H a xs); exact ⟨its, r, p.isList⟩
  · obtain ⟨its, r, p, _⟩ := I.tuple (h : SqT X.K H a xs); exact ⟨its, r, p⟩
theorem Inv.sq_inj {t : Bool} {a : Addr} {xs ys : List V} (I : Inv X pins σ H s) (h : SqX t X.K H a xs) (h' : SqX t X.K H a ys) : xs = ys := by
  cases t
  · exact I.list_inj h h'
  · exact I.tuple_inj h h'
end
/-- the things at a and b as they stand at each turn, the items in new pairs -/
def Itzx (t1 t2 : Bool) (K : PySem.W.Frag) (a b : Addr) : It :=
  ⟨fun i H => ∃ (xs ys : List V) (x y : V), SqX t1 K H a xs ∧ SqX t2 K H b ys ∧ xs[i]? = some x ∧ ys[i]? = some y,
    fun i H v H' => ∃ T x y, v = .ref T ∧ H T = none ∧ H' = upd H T (.tup [x, y]) ∧ (∀ xs, SqX t1 K H a xs → xs[i]? = some x) ∧ ∀ ys, SqX t2 K H b ys → ys[i]? = some y,
    fun i H => ∃ xs ys : List V, SqX t1 K H a xs ∧ SqX t2 K H b ys ∧ (xs.length ≤ i ∨ ys.length ≤ i)⟩
theorem sep_of {z TI TO i1 i2 a b : Addr} (D : ZipApart z TI TO i1 i2 a b) : ZipSep2 z TI TO i1 i2 [i1, a] [i2, b] where
  TIz := D.TIz
  TOz := D.TOz
  TITO := D.TITO
  TIi1 := D.TIi1
  mem1 := by simp
  zf1 := by simp; exact ⟨D.i1z.symm, D.l1z.symm⟩
  Tf1 := by simp; exact ⟨D.TOi1, D.l1TO.symm⟩
  TIi2 := D.TIi2
  mem2 := by simp
  zf2 := by simp; exact ⟨D.i2z.symm, D.l2z.symm⟩
  Tf2 := by simp; exact ⟨D.TOi2, D.l2TO.symm⟩
  sep1_2 := by simp; exact ⟨D.i12, D.l2i1.symm⟩
  sep2_1 := by simp; exact ⟨D.i12.symm, D.l1i2.symm⟩
theorem turn_zipx {P : Program} {w : World} {K : PySem.W.Frag} {elts : List Expr} {kk : Nat} {tpos : Pos} {a b z TI TO i1 i2 : Addr} (t1 t2 : Bool) (D : ZipApart z TI TO i1 i2 a b) :
    Turn P w K (.Tuple elts kk tpos) (Itzx t1 t2 K a b) [z, TI, TO, i1, i2] z (fun i h => IsZip h z TI TO .none ∧ IsPair h TI (.ref i1) (.ref i2) ∧ (∃ x y, IsPair h TO x y) ∧ IsIt t1 h i1 a i ∧ IsIt t2 h i2 b i) where
  mem := by simp
  obj := fun i h st c hc => by
    obtain ⟨hz, hTI, ⟨x, y, hTO⟩, h1, h2⟩ := st
    have e' : c = z ∨ c = TI ∨ c = TO ∨ c = i1 ∨ c = i2 := by simpa using hc
    rcases e' with q | q | q | q | q
    · rw [q]; exact ⟨_, hz, fun v q => nomatch q⟩
    · rw [q]; exact ⟨_, hTI, fun v q => nomatch q⟩
    · rw [q]; exact ⟨_, hTO, fun v q => nomatch q⟩
    · rw [q]; exact h1.obj
    · rw [q]; exact h2.obj
  keep := fun i h h' st k => by
    obtain ⟨hz, hTI, ⟨x, y, hTO⟩, h1, h2⟩ := st
    exact ⟨k z (by simp) _ hz, k TI (by simp) _ hTI, ⟨x, y, k TO (by simp) _ hTO⟩, h1.at fun o q => k i1 (by simp) o q, h2.at fun o q => k i2 (by simp) o q⟩
  item := by
    intro X hP hw hK hc i pins s σ H E I hf st hg
    subst hP hw hK
    obtain ⟨hz, hTI, ⟨x0, y0, hTO⟩, h1, h2⟩ := st
    obtain ⟨xs, ys, x, y, hqx, hqy, hx, hy⟩ := hg
    obtain ⟨its, rv, p⟩ := I.sq hqx
    obtain ⟨its2, rv2, p2⟩ := I.sq hqy
    obtain ⟨u, hu, ru⟩ := rv.get hx
    obtain ⟨u2, hu2, ru2⟩ := rv2.get hy
    have hzl : z < s.heap.objs.size := Heap.lt_size hz
    have hh : X.A.in1.handled = none := I.ok.hd hc
    refine wpAny_pyNext_zipD2_item (sep_of D) (Draws.sq hh t1 i1 a D.l1i1 its.toArray) (Draws.sq hh t2 i2 b D.l2i2 its2.toArray) hz hTI hTO ⟨h1, p⟩ ⟨h2, p2⟩
      (by have := (List.getElem?_eq_some_iff.mp hu).1; simpa using this) (by have := (List.getElem?_eq_some_iff.mp hu2).1; simpa using this) fun v1 v2 h' tk q1 q2 z' TO' h1' h2' hT hsz hk => ?_
    have e1 : v1 = u := by simp at q1; rw [hu] at q1; exact (Option.some.inj q1).symm
    have e2 : v2 = u2 := by simp at q2; rw [hu2] at q2; exact (Option.some.inj q2).symm
    subst e1 e2
    refine ⟨_, rfl, wpAny_letOwnedTupleGo_zip (s := { s with heap := h', toks := tk }) z' fun h'' z'' sb => ?_⟩
    have hT2 : h''.get? s.heap.objs.size = some { cls := .type "tuple", data := .seq #[v1, v2] } := (sb.2 _ (Nat.ne_of_gt hzl)).trans hT
    have new : ObjOk X.prog X.w (upd H s.heap.objs.size (.tup [x, y])) h'' s.heap.objs.size (.tup [x, y]) :=
      ⟨by show 2 ≤ sizeLine; decide, [v1, v2], .cons ru (.cons ru2 .nil), ⟨_, hT2, rfl, _, rfl⟩⟩
    have I1 : Inv X pins σ (upd H s.heap.objs.size (.tup [x, y])) { s with heap := h'', toks := tk } :=
      I.turnedNew (t' := tk) (ch := [z, TI, TO, i1, i2]) (fun c o hb q => (sb.2 c (fun q' => hb (by simp [q']))).trans (hk c o (fun q' => hb (by simp [q'])) (fun q' => hb (by simp [q'])) (fun q' => hb (by simp [q'])) (fun q' => hb (by simp [q'])) q)) hf (Nat.le_refl _) new
    refine ⟨.ref s.heap.objs.size, _, I1, rfl, ⟨_, x, y, rfl, I.hok.fresh (Nat.le_refl _), rfl, fun l hl => by rw [I.sq_inj hl hqx]; exact hx, fun l hl => by rw [I.sq_inj hl hqy]; exact hy⟩, ⟨z'', ?_, ⟨v1, v2, ?_⟩, ?_, ?_⟩, fun c hcm => ?_⟩
    · exact (sb.2 _ D.TIz).trans (hk _ _ D.TIz D.TITO D.TIi1 D.TIi2 hTI)
    · exact (sb.2 _ D.TOz).trans TO'
    · exact h1'.1.at fun o q => (sb.2 _ D.i1z).trans q
    · exact h2'.1.at fun o q => (sb.2 _ D.i2z).trans q
    · have hlt : c < s.heap.objs.size := by
        have e' : c = z ∨ c = TI ∨ c = TO ∨ c = i1 ∨ c = i2 := by simpa using hcm
        rcases e' with q | q | q | q | q
        · rw [q]; exact hzl
        · rw [q]; exact Heap.lt_size hTI
        · rw [q]; exact Heap.lt_size hTO
        · rw [q]; obtain ⟨_, e1, _⟩ := h1.obj; exact Heap.lt_size e1
        · rw [q]; obtain ⟨_, e2, _⟩ := h2.obj; exact Heap.lt_size e2
      rw [upd_ne (Nat.ne_of_lt hlt)]
      exact (hf c hcm).1
  done := by
    intro X hP hw hK hc i pins s σ H E I hf st hg
    subst hP hw hK
    obtain ⟨hz, hTI, ⟨x0, y0, hTO⟩, h1, h2⟩ := st
    obtain ⟨xs, ys, hqx, hqy, hend⟩ := hg
    obtain ⟨its, rv, p⟩ := I.sq hqx
    obtain ⟨its2, rv2, p2⟩ := I.sq hqy
    have l1 := rv.length
    have l2 := rv2.length
    have hh : X.A.in1.handled = none := I.ok.hd hc
    obtain ⟨n1, P1, St1, D1, s1, b1, c1⟩ := Draws.sqAt (prog := X.prog) (w := X.w) hh t1 i1 a D.l1i1 its.toArray i
    obtain ⟨n2, P2, St2, D2, s2, b2, c2⟩ := Draws.sqAt (prog := X.prog) (w := X.w) hh t2 i2 b D.l2i2 its2.toArray i
    refine wpAny_pyNext_zipD2_end (sep_of D) D1 D2 hz hTI hTO (s1 _ h1 p) (s2 _ h2 p2) b1 b2 (by
      rcases hend with q | q
      · exact .inl (c1 (by simp; omega))
      · exact .inr (c2 (by simp; omega))) fun h' tk hk => ⟨rfl, I.turnedL (t' := tk) (ch := [z, TI, TO, i1, i2]) (fun c o hb q =>
      hk c o (fun q' => hb (by simp [q'])) (fun q' => hb (by simp [q'])) (fun q' => hb (by simp [q'])) (fun q' => hb (by simp [q'])) q) hf⟩
  self := fun A i s Q E st h => wpAny_pyIter_zip st.1 h
abbrev zxO (t : Bool) (l : Addr) : Obj := { cls := .type (if t = true then "tuple_iterator" else "list_iterator"), data := .fields #[.ref l, .int 0 0] }
abbrev zxH1 (t1 : Bool) (h : Heap) (l1 : Addr) : Heap := h.push (zxO t1 l1)
abbrev zxH2 (t1 t2 : Bool) (h : Heap) (l1 l2 : Addr) : Heap := (zxH1 t1 h l1).push (zxO t2 l2)
abbrev zxH3 (t1 t2 : Bool) (h : Heap) (l1 l2 : Addr) : Heap := (zxH2 t1 t2 h l1 l2).push { cls := .type "tuple", data := .seq #[.ref h.objs.size, .ref (zxH1 t1 h l1).objs.size] }
abbrev zxH4 (t1 t2 : Bool) (h : Heap) (l1 l2 : Addr) : Heap := (zxH3 t1 t2 h l1 l2).push { cls := .type "tuple", data := .seq #[.none, .none] }
abbrev zxH5 (t1 t2 : Bool) (h : Heap) (l1 l2 : Addr) : Heap := (zxH4 t1 t2 h l1 l2).push { cls := .type "zip", data := .fields #[.none, .bool false, .bool false, .ref (zxH2 t1 t2 h l1 l2).objs.size, .ref (zxH3 t1 t2 h l1 l2).objs.size] }
theorem meets_zip_lt (l1 l2 : Addr) (xs ys : Array Value) :
    Meets (Builtin.«zip.__new__» ⟨[.type "zip", .ref l1, .ref l2], []⟩) (fun _ R s => s.heap.IsList l1 xs ∧ s.heap.IsTuple l2 ys ∧
      R (.ok (.ret (.ref (zxH4 false true s.heap l1 l2).objs.size))) { s with heap := zxH5 false true s.heap l1 l2 }) :=
  .of_wp fun prog w A R s h => by
    obtain ⟨hp, g, d, tk, os⟩ := s; obtain ⟨hl1, hl2, h⟩ := h
    have hsub := sub_zip
    have hL1 : Heap.IsList (Shared.heap ⟨hp, g, d, tk, os⟩) l1 xs := hl1
    have hL2 : Heap.IsTuple (Shared.heap ⟨hp.push { cls := .type "list_iterator", data := .fields #[.ref l1, .int 0 0] }, g, d, tk, os⟩) l2 ys := Heap.IsTuple.push hl2 _
    wp_walk using wpAny_pyIter_list hL1, wpAny_pyIter_tuple hL2
    exact ⟨_, rfl, h⟩
theorem meets_zip_tl (l1 l2 : Addr) (xs ys : Array Value) :
    Meets (Builtin.«zip.__new__» ⟨[.type "zip", .ref l1, .ref l2], []⟩) (fun _ R s => s.heap.IsTuple l1 xs ∧ s.heap.IsList l2 ys ∧
      R (.ok (.ret (.ref (zxH4 true false s.heap l1 l2).objs.size))) { s with heap := zxH5 true false s.heap l1 l2 }) :=
  .of_wp fun prog w A R s h => by
    obtain ⟨hp, g, d, tk, os⟩ := s; obtain ⟨hl1, hl2, h⟩ := h
    have hsub := sub_zip
    have hL1 : Heap.IsTuple (Shared.heap ⟨hp, g, d, tk, os⟩) l1 xs := hl1
    have hL2 : Heap.IsList (Shared.heap ⟨hp.push { cls := .type "tuple_iterator", data := .fields #[.ref l1, .int 0 0] }, g, d, tk, os⟩) l2 ys := Heap.IsList.push hl2 _
    wp_walk using wpAny_pyIter_tuple hL1, wpAny_pyIter_list hL2
    exact ⟨_, rfl, h⟩
section
variable {prog : Program} {w : World} {A : Around} {E : Value → Shared → Prop} {s : Shared}
theorem call_zipx (t1 t2 : Bool) (ht : t1 ≠ t2) {l1 l2 : Addr} {xs ys : Array Value} {Q : Value → Shared → Prop} (hl1 : IsSq t1 s.heap l1 xs) (hl2 : IsSq t2 s.heap l2 ys)
    (h : ∀ h', IsZip h' (s.heap.objs.size + 4) (s.heap.objs.size + 2) (s.heap.objs.size + 3) .none → IsPair h' (s.heap.objs.size + 2) (.ref s.heap.objs.size) (.ref (s.heap.objs.size + 1)) →
      IsPair h' (s.heap.objs.size + 3) .none .none → IsIt t1 h' s.heap.objs.size l1 0 → IsIt t2 h' (s.heap.objs.size + 1) l2 0 → h'.objs.size = s.heap.objs.size + 5 →
      (∀ c o, s.heap.get? c = some o → h'.get? c = some o) → Q (.ref (s.heap.objs.size + 4)) { s with heap := h' }) :
    wpAny (model prog w) A (call (.type "zip") [.ref l1, .ref l2]) Q E s := by
  have z1 : (zxH1 t1 s.heap l1).objs.size = s.heap.objs.size + 1 := Heap.size_push ..
  have z2 : (zxH2 t1 t2 s.heap l1 l2).objs.size = s.heap.objs.size + 2 := by rw [Heap.size_push, z1]
  have z3 : (zxH3 t1 t2 s.heap l1 l2).objs.size = s.heap.objs.size + 3 := by rw [Heap.size_push, z2]
  have z4 : (zxH4 t1 t2 s.heap l1 l2).objs.size = s.heap.objs.size + 4 := by rw [Heap.size_push, z3]
  have z5 : (zxH5 t1 t2 s.heap l1 l2).objs.size = s.heap.objs.size + 5 := by rw [Heap.size_push, z4]
  have g5 : (zxH5 t1 t2 s.heap l1 l2).get? (zxH4 t1 t2 s.heap l1 l2).objs.size = some _ := Heap.get?_push_size _ rfl
  have g4 : (zxH5 t1 t2 s.heap l1 l2).get? (zxH3 t1 t2 s.heap l1 l2).objs.size = some _ := Heap.get?_push_of_some _ (Heap.get?_push_size _ rfl)
  have g3 : (zxH5 t1 t2 s.heap l1 l2).get? (zxH2 t1 t2 s.heap l1 l2).objs.size = some _ := Heap.get?_push_of_some _ (Heap.get?_push_of_some _ (Heap.get?_push_size _ rfl))
  have g2 : (zxH5 t1 t2 s.heap l1 l2).get? (zxH1 t1 s.heap l1).objs.size = some _ := Heap.get?_push_of_some _ (Heap.get?_push_of_some _ (Heap.get?_push_of_some _ (Heap.get?_push_size _ rfl)))
  have g1 : (zxH5 t1 t2 s.heap l1 l2).get? s.heap.objs.size = some _ := Heap.get?_push_of_some _ (Heap.get?_push_of_some _ (Heap.get?_push_of_some _ (Heap.get?_push_of_some _ (Heap.get?_push_size _ rfl))))
  have zz := z4
  rw [z2, z3, z4] at g5
  rw [z1, z2] at g3
  rw [z3] at g4
  rw [z1] at g2
  have q1 : IsIt t1 (zxH5 t1 t2 s.heap l1 l2) s.heap.objs.size l1 0 := by cases t1 <;> exact ⟨_, g1, rfl, rfl⟩
  have q2 : IsIt t2 (zxH5 t1 t2 s.heap l1 l2) (s.heap.objs.size + 1) l2 0 := by cases t2 <;> exact ⟨_, g2, rfl, rfl⟩
  have fin := h _ g5 g3 g4 q1 q2 z5 fun c o x =>
    Heap.get?_push_of_some _ (Heap.get?_push_of_some _ (Heap.get?_push_of_some _ (Heap.get?_push_of_some _ (Heap.get?_push_of_some _ x))))
  cases t1 <;> cases t2
  · exact absurd rfl ht
  · refine callType_new F.called_zip (by decide) (F.typeCall_zip_2 _ _) (F.newCall_zip_2 _ _) (fun obj => F.args_object_init_3 obj _ _) F.entry_zip_new (meets_zip_lt l1 l2 xs ys) ⟨hl1, hl2, ?_⟩
    show _ ∧ _
    rw [zz]
    exact ⟨⟨_, g5, rfl⟩, fin⟩
  · refine callType_new F.called_zip (by decide) (F.typeCall_zip_2 _ _) (F.newCall_zip_2 _ _) (fun obj => F.args_object_init_3 obj _ _) F.entry_zip_new (meets_zip_tl l1 l2 xs ys) ⟨hl1, hl2, ?_⟩
    show _ ∧ _
    rw [zz]
    exact ⟨⟨_, g5, rfl⟩, fin⟩
  · exact absurd rfl ht
end
def iZipx (t1 t2 : Bool) (K : PySem.W.Frag) (ta : TA) : TI := fun σ H R => ta σ H fun vs H1 => ∃ a b xs ys, vs = [.ref a, .ref b] ∧ SqX t1 K H1 a xs ∧ SqX t2 K H1 b ys ∧ R (Itzx t1 t2 K a b) H1
theorem pi_zipx (t1 t2 : Bool) (ht : t1 ≠ t2) {X : Cx} {e e2 : Expr} {ta : TA} {p pos tpos : Pos} {elts : List Expr} {kk : Nat} (hg : Gl X "zip") (hm : X.mg "zip" = none) (ha : PA X [e, e2] ta)
    (hs : starEach [e, e2] X.env = (false, eval e X.env) :: starEach [e2] X.env := by rfl) (hpl : (backTo pos (starEach [e2] X.env)).any (·.1) = false := by rfl) :
    PI X (.Tuple elts kk tpos) (.Call (.Name "zip" p) [e, e2] [] pos) (iZipx t1 t2 X.K ta) := by
  refine ⟨fun pins s σ H R I h => ?_⟩
  refine Call_ (ld_blt I hg hm PyProof.Rows.boot_zip (PyProof.Rows.callWith_type1 (thn (ha.run pos pins s σ H _ I h) fun us s1 ⟨vs, H1, I1, r1, q1⟩ => ?_) hs hpl))
  obtain ⟨a, b, xs, ys, ex, hqx, hqy, q⟩ := q1
  subst ex
  cases r1 with
  | cons r rr =>
    cases rr with
    | cons r' rr =>
      cases rr
      cases r
      cases r'
      obtain ⟨its, rv, p1⟩ := I1.sq hqx
      obtain ⟨its2, rv2, p2⟩ := I1.sq hqy
      have la : a < s1.heap.objs.size := p1.lt
      have lb : b < s1.heap.objs.size := p2.lt
      refine call_zipx t1 t2 ht p1 p2 fun h' hz hTI hTO h1 h2 hsz hk => wpAny_pyIter_zip hz ?_
      have I2 : Inv X pins σ H1 { s1 with heap := h' } := I1.kept (t' := s1.toks) hk
      refine ⟨s1.heap.objs.size + 4, [s1.heap.objs.size + 4, s1.heap.objs.size + 2, s1.heap.objs.size + 3, s1.heap.objs.size, s1.heap.objs.size + 1], _, _, H1, rfl, I2, turn_zipx t1 t2 (PySem.W.ktu_apart s1.heap.objs.size a b la lb), ⟨hz, hTI, ⟨_, _, hTO⟩, h1, h2⟩, fun c hcm => ?_, q⟩
      have e' : c = s1.heap.objs.size + 4 ∨ c = s1.heap.objs.size + 2 ∨ c = s1.heap.objs.size + 3 ∨ c = s1.heap.objs.size ∨ c = s1.heap.objs.size + 1 := by simpa using hcm
      have hle : s1.heap.objs.size ≤ c := by
        rcases e' with z | z | z | z | z
        · rw [z]; exact Nat.le_add_right _ _
        · rw [z]; exact Nat.le_add_right _ _
        · rw [z]; exact Nat.le_add_right _ _
        · rw [z]; exact Nat.le_refl _
        · rw [z]; exact Nat.le_add_right _ _
      exact I1.fpOk hle (I1.hok.fresh hle)
end L2
set_option Elab.async false
set_option linter.all false
set_option maxRecDepth 100000
set_option maxHeartbeats 4000000
/-! by their data: zip of what stands still, a tuple some times over, longer lists -/
namespace L2
open PySem PySem.Spec PyProof.Rows L3
theorem tuple_mul1 (l : Addr) (items : Array Value) (n : Nat) (dd : Option Addr) (sl : Array (Option Value)) (u : Tok) :
    Meets (Builtin.«tuple.__mul__» ⟨[.ref l, .int 1 u], []⟩) (fun _ R s => s.heap.get? l = some { cls := .type "tuple", dict := dd, data := .seq items n, slots := sl } ∧ R (.ok (.ret (Value.ref l))) s) :=
  .of_wp fun prog w A R s h => by
    obtain ⟨hp, g, d, tk, os⟩ := s
    obtain ⟨hl, h⟩ := h
    have f1 := AutoSeq1.idx_int
    have c1 : (items.isEmpty || (1 : Int) == 1) = true := by simp
    wp_walk using wpAny_loadPart' hl
    repeat (first
      | (refine wpAny_ite_true c1 ?_; wp_walk using wpAny_loadPart' hl)
      | (refine wpAny_ite_true (decide_eq_true c1) ?_; wp_walk using wpAny_loadPart' hl))
    exact ⟨_, rfl, h⟩
def rRepT1 (K : PySem.W.Frag) : R2 := fun x y H Q => ∃ l xs, x = .ref l ∧ y = .int 1 ∧ SqT K H l xs ∧ Q (.ref l) H
theorem op_repT1 {X : Cx} : OpR X (binaryOp .Mult) (rRepT1 X.K) := by
  intro pins s σ H x y v u Q I rx ry h
  obtain ⟨l, xs, rfl, rfl, hT, q⟩ := h
  cases rx
  obtain ⟨t, rfl⟩ := ry
  obtain ⟨its, r, ⟨⟨cls, dd, data, sl⟩, ho, hc, n, hd⟩, hs⟩ := I.tuple hT
  simp only at hc hd
  subst hc hd
  refine wpAny_binaryOp_repeat_ref (T := "tuple") (U := "int") (by decide) ⟨_, ho, rfl⟩ (fun s' => typeIs_int s' 1 t) noFill_tuple_mul F.fills_int_mul F.slot_int_rmul repeat_tuple F.slot_int_index.lookup
    (call_meets F.slot_int_rmul (typeIs_int s 1 t) F.entry_int_rmul (F.args_int_rmul_2 _ _) (int_rmul_tuple 1 t l its.toArray n dd sl)
      ⟨ho, rfl, ⟨_, ho, rfl⟩, call_meets F.slot_tuple_mul ⟨_, ho, rfl⟩ F.entry_tuple_mul (F.args_tuple_mul_2 _ _) (tuple_mul1 l its.toArray n dd sl t) ⟨ho, ?_⟩⟩)
  exact ⟨.ref l, H, I, rfl, q⟩
end L2
namespace L3
open PySem PySem.Spec L2 PyProof.Rows
section
variable {Y : Pc} {X : Cx} {W : WX} {a b e v tg iter : Expr} {es : List Expr} {pos : Pos} {K : PySem.W.Frag} {F H : Hp} {ρ : List Addr} {S : Store} {ra rb : Ev → Store → Res D} {rs : Ev → Store → Res (List D)} {pins : List (Addr × Obj)} {σ : L2.St} {s : Shared}
/-- a tuple some times over -/
def mulTD : Op2 := fun _ x y => match x, y with
  | .tup xs, .int k => if xs ≠ [] ∧ xs.length ≤ 1000 ∧ 1 ≤ k ∧ k ≤ 1000 then some (.tup (List.replicate k.toNat xs).flatten) else none
  | _, _ => none
theorem sop_mulT : SOp Y X (binaryOp .Mult) mulTD := ⟨_, op_repT1.or op_repT, fun F ρ S H x y dx dy d Q R rx ry e k => by
  cases rx <;> cases ry <;> try (cases e; done)
  rename_i a xs ds h1 h2 kk
  have e : (if ds ≠ [] ∧ ds.length ≤ 1000 ∧ 1 ≤ kk ∧ kk ≤ 1000 then some (D.tup (List.replicate kk.toNat ds).flatten) else none) = some d := e
  by_cases h : ds ≠ [] ∧ ds.length ≤ 1000 ∧ 1 ≤ kk ∧ kk ≤ 1000
  · rw [if_pos h] at e; cases e
    obtain ⟨g1, g2, g3, g4⟩ := h
    by_cases hk : kk = 1
    · subst hk
      refine .inl ⟨a, xs, rfl, rfl, ex_t R.ex h1, k F H _ R (Nx.refl _ _ _) ?_⟩
      have : (List.replicate (Int.toNat 1) ds).flatten = ds := by simp
      rw [this]
      exact .tup h1 h2
    · refine .inr ⟨a, kk, xs, rfl, rfl, ex_t R.ex h1, fun z => g1 ?_, by omega, g4, by rw [h2.length]; exact g2, fun p hp => now_tup R (h2.rep kk.toNat) hp k⟩
      subst z; cases h2; rfl
  · rw [if_neg h] at e; cases e⟩
/-- zip of what stands still -/
def iZipA (rs : Ev → Store → Res (List D)) : Ev → Store → Res (List D) := fun env S => (rs env S).bind fun ds S1 => match ds with
  | [.lst xs, .lst ys] => .ok (zipD xs ys) S1
  | [.lst xs, .tup ys] => .ok (zipD xs ys) S1
  | [.tup xs, .lst ys] => .ok (zipD xs ys) S1
  | _ => .stuck
theorem walks_zx (t1 t2 : Bool) {a b : Addr} {xs ys : List V} {dx dy : List D} (h1 : SqX t1 K F a xs) (h2 : SqX t2 K F b ys) (rx : RDs K F ρ xs dx) (ry : RDs K F ρ ys dy)
    (inj1 : ∀ H l, Ex F H → SqX t1 K H a l → l = l) : WalksJ K Y (Itzx t1 t2 K a b) F ρ (zipD dx dy) := fun F2 ρ2 S2 H2 e p R2 i => by
  have up : ∀ (t : Bool) (a : Addr) (xs : List V), SqX t K F a xs → SqX t K H2 a xs := fun t a xs h => by
    cases t
    · exact ex_l (e.trans R2.ex) h
    · exact ex_t (e.trans R2.ex) h
  have q1 := up t1 a xs h1
  have q2 := up t2 b ys h2
  refine ⟨fun d hd => ?_, fun hi => ⟨_, _, q1, q2, ?_⟩⟩
  · obtain ⟨x, y, hx, hy, rfl⟩ := zip_get _ _ _ _ hd
    obtain ⟨v, hv, rv⟩ := rx.get hx
    obtain ⟨w, hw, rw'⟩ := ry.get hy
    refine ⟨⟨_, _, v, w, q1, q2, hv, hw⟩, fun z H' yl => ?_⟩
    obtain ⟨T, x', y', rfl, hT, rfl, y1, y2⟩ := yl
    have e1 := y1 _ q1
    have e2 := y2 _ q2
    rw [hv] at e1; cases e1
    rw [hw] at e2; cases e2
    obtain ⟨R3, n3, e3⟩ := R2.new (o := .tup [v, w]) hT
    exact ⟨_, R3, n3, .tup (Or.inl (Or.inl e3)) (.cons ((rv.mono e p).mono n3.ex n3.pre) (.cons ((rw'.mono e p).mono n3.ex n3.pre) .nil))⟩
  · rw [zip_len] at hi
    rw [rx.length, ry.length]
    omega
theorem si_zipA {p tpos : Pos} {elts : List Expr} {kk : Nat} (hm : X.mg "zip" = none) (ha : SA Y X W [a, b] rs) (hg : Gl X "zip" := by rfl)
    (hs : starEach [a, b] X.env = (false, eval a X.env) :: starEach [b] X.env := by rfl) (hpl : (backTo pos (starEach [b] X.env)).any (·.1) = false := by rfl) :
    SI Y X W (.Tuple elts kk tpos) (.Call (.Name "zip" p) [a, b] [] pos) (iZipA rs) := by
  have hz := si_zip (W := W) (Y := Y) (rs := rs) (elts := elts) (kk := kk) (tpos := tpos) (p := p) (pos := pos) hm ha hg hs hpl
  obtain ⟨wz, z1, z2⟩ := hz.ex
  obtain ⟨ta, a1, a2⟩ := ha.ex
  refine ⟨_, (z1.or (pi_zipx false true (by decide) hg hm a1 hs hpl)).or (pi_zipx true false (by decide) hg hm a1 hs hpl), fun F ρ S H σ env Q R E h => ?_⟩
  have h' := h
  unfold iZipA at h'
  cases e : rs env S with
  | stuck => rw [e] at h'; exact False.elim h'
  | exc c S1 =>
    refine .inl (.inl (z2 F ρ S H σ env _ R E ?_))
    unfold iZipR
    rw [e] at h' ⊢
    exact h'
  | ok ds S1 =>
    rw [e] at h'
    rcases ds with _ | ⟨x, _ | ⟨y, _ | ⟨z, l⟩⟩⟩
    · exact False.elim h'
    · cases x <;> exact False.elim h'
    · cases x with
      | lst xs =>
        cases y with
        | lst ys =>
          refine .inl (.inl (z2 F ρ S H σ env _ R E ?_))
          unfold iZipR
          rw [e]
          exact h'
        | tup ys =>
          refine .inl (.inr (a2 F ρ S H σ env _ R E ?_))
          rw [e]
          intro F1 ρ1 H1 R1 n1 us ru
          match us, ru with
          | [.ref a, .ref b], .cons (.lst h1 h2) (.cons (.tup g1 g2) .nil) =>
            exact ⟨_, _, _, _, rfl, SqL.of (R1.ex _ _ h1), ex_t R1.ex g1, h' F1 ρ1 H1 R1 n1 _ (walks_zx false true (SqL.of h1) g1 h2 g2 fun _ _ _ _ => rfl)⟩
        | _ => exact False.elim h'
      | tup xs =>
        cases y with
        | lst ys =>
          refine .inr (a2 F ρ S H σ env _ R E ?_)
          rw [e]
          intro F1 ρ1 H1 R1 n1 us ru
          match us, ru with
          | [.ref a, .ref b], .cons (.tup h1 h2) (.cons (.lst g1 g2) .nil) =>
            exact ⟨_, _, _, _, rfl, ex_t R1.ex h1, SqL.of (R1.ex _ _ g1), h' F1 ρ1 H1 R1 n1 _ (walks_zx true false h1 (SqL.of g1) h2 g2 fun _ _ _ _ => rfl)⟩
        | _ => exact False.elim h'
      | _ => exact False.elim h'
    · cases x <;> cases y <;> exact False.elim h'
/-- l.append for longer lists -/
def appBD : OpM := fun S x xs => match x, xs with
  | .loc i, [d] => match S[i]? with
    | some (.lst ds) => if ds.length < 16000000 then some (.non, S.set i (.lst (ds ++ [d]))) else none
    | _ => none
  | _, _ => none
theorem smt_appB : SMt Y X "list" "list.append" tyList appBD := ⟨⟨_, mt_append, fun F ρ S S' H x dx d xs ds Q R rx rxs e k => by
  match dx, ds, rxs, rx, e with
  | .loc i, [y], .cons ry .nil, rx, e =>
    have e : (match S[i]? with
      | some (.lst ds) => if ds.length < 16000000 then some (D.non, S.set i (.lst (ds ++ [y]))) else none
      | _ => none) = some (d, S') := e
    cases e1 : S[i]? with
    | none => rw [e1] at e; cases e
    | some c =>
      rw [e1] at e
      cases c with
      | lst ds =>
        dsimp only at e
        obtain ⟨a, vs, rfl, hi, fa, ha, hx⟩ := cell_rd R rx e1
        by_cases h : ds.length < 16000000
        · rw [if_pos h] at e; cases e
          refine ⟨a, vs, _, rfl, rfl, ha, Nat.lt_of_lt_of_le (by rw [hx.length]; exact h) (by rw [sizeLine_eq]; decide), now_non (R.wlst hi fa (hx.snoc ry)) k⟩
        · rw [if_neg h] at e; cases e
      | _ => cases e⟩, tyList_ok⟩
/-- long texts put together -/
def addSD : Op2 := fun _ x y => match x, y with
  | .str s, .str t => if s.length + t.length ≤ 16000000 then some (.str (s ++ t)) else none
  | _, _ => none
theorem sop_addS : SOp Y X (binaryOp .Add) addSD := ⟨_, op_add_str, fun F ρ S H x y dx dy d Q R rx ry e k => by
  cases rx <;> cases ry <;> try (cases e; done)
  rename_i s hs t ht
  have e : (if s.length + t.length ≤ 16000000 then some (D.str (s ++ t)) else none) = some d := e
  by_cases h : s.length + t.length ≤ 16000000
  · rw [if_pos h] at e; cases e
    refine ⟨_, _, rfl, rfl, by rw [tx_len, tx_len, sizeLine_eq]; omega, ?_⟩
    rw [tx_app]
    exact k F H _ R (Nx.refl _ _ _) (.str _ fun c hc => by
      rcases List.mem_append.mp hc with hc | hc
      · exact hs c hc
      · exact ht c hc)
  · rw [if_neg h] at e; cases e⟩
end
end L3
set_option Elab.async false
set_option linter.all false
set_option maxRecDepth 100000
set_option maxHeartbeats 2000000
/-! d.get(k), d.get(k, x); a text stripped of signs that are all its own -/
namespace L2
open PySem PySem.Spec PyProof.Rows L3
def xval (z : V) (xs : List (NestedKey × Addr × V)) (k : NestedKey) : V := match xfind xs k with
  | none => z
  | some x => x.2.2
def tDGetM1 (K : PySem.W.Frag) (hs : NestedKey → Int) (td ty : TE) : TE := fun σ H Q => td σ H fun x H1 => ∃ a xs, x = .ref a ∧ DctH K H1 hs a xs ∧ ty σ H1 fun y H2 => ∃ k b xs2, y = .ref b ∧ NkH K H2 k (.ref b) ∧ k.depth ≤ 8 ∧ DctH K H2 hs a xs2 ∧ Q (xval .non xs2 k) H2
def tDGetM2 (K : PySem.W.Frag) (hs : NestedKey → Int) (td ty tx : TE) : TE := fun σ H Q => td σ H fun x H1 => ∃ a xs, x = .ref a ∧ DctH K H1 hs a xs ∧ ty σ H1 fun y H2 => tx σ H2 fun z H3 => ∃ k b xs2, y = .ref b ∧ NkH K H3 k (.ref b) ∧ k.depth ≤ 8 ∧ DctH K H3 hs a xs2 ∧ Q (xval z xs2 k) H3
section
variable {X : Cx} {o e f : Expr} {apos cpos : Pos} {td ty tx : TE} {pins : List (Addr × Obj)} {σ : St} {H : Hp} {s : Shared}
theorem dctTy {hs : NestedKey → Int} {a : Addr} {xs : List (NestedKey × Addr × V)} (h : DctH X.K H hs a xs) (hw : hs = NestedKey.hash X.w) (I : Inv X pins σ H s) :
    s.TypeIs (.ref a) "dict" ∧ (∀ b, Value.ref a = .ref b → ∃ ob, s.heap.get? b = some ob ∧ ob.dict = none) := by
  obtain ⟨ys, _, dd⟩ := h.at hw I
  refine ⟨dd.typeIs, fun b q => ?_⟩
  cases q
  obtain ⟨ob, _, _, h1, h2, _⟩ := dd
  exact ⟨ob, h1, h2.2.1⟩
theorem xval_rel {xs : List (NestedKey × Addr × V)} {ys : List (NestedKey × Addr × Value)} {k : NestedKey} {z : V} {u : Value} (p : Paired XYR xs ys) (r : RelV z u) : RelV (xval z xs k) ((valueAt (pairsH ys) k).getD u) := by
  rw [valueAt_pairsH]
  unfold xval
  rcases xy_at (k := k) p with ⟨e1, e2⟩ | ⟨x, w, e1, e2, r2⟩
  · rw [e1, e2]; exact r
  · rw [e1, e2]; exact r2
theorem pe_dgetM1 {hs : NestedKey → Int} (hu : RoomN X) (hw : hs = NestedKey.hash X.w) (ho : PE X o td) (he : PE X e ty) (m : M1 X o "get" apos e cpos) : PE X (.Call (.Attribute o "get" apos) [e] [] cpos) (tDGetM1 X.K hs td ty) := by
  refine ⟨fun pins s σ H Q I h => ?_⟩
  refine wpAny_Call_method m.base m.few m.line PySem.F.plainAttrs_dict PySem.F.slot_dict_get PySem.F.type_dict_get (thn (ho.run pins s σ H _ I h) fun u s1 ⟨x, H1, I1, rx, a, xs, ex, d, q1⟩ => ?_)
  subst ex
  obtain rfl : u = Value.ref a := rx
  obtain ⟨t1, t2⟩ := dctTy d hw I1
  refine ⟨t1, t2, ?_⟩
  rw [m.trees]
  refine Calls.callWith_builtin rfl (Calls.evalArgs_plain (Calls.spliced_cons (thn (he.run pins s1 σ H1 _ I1 q1) fun iv s2 ⟨y, H2, I2, ry, k, b, xs2, ey, nk, dp, dh, q2⟩ => Calls.spliced_nil ?_)))
  subst ey
  obtain rfl : iv = Value.ref b := ry
  obtain ⟨ys, pr, hm⟩ := dh.at hw I2
  exact get_keyed (knd := nestedKind X.prog X.w) (show X.A.units + 1 + 8 < cLine by have : X.A.units + 64 < cLine := hu; omega) ⟨NkH.reads I2 k _ _ nk rfl, dp⟩ dh.sys ⟨ys, hm, rfl⟩ ⟨_, H2, I2.tok _, xval_rel pr (show RelV .non Value.none from rfl), q2⟩
theorem pe_dgetM2 {hs : NestedKey → Int} (hu : RoomN X) (hw : hs = NestedKey.hash X.w) (ho : PE X o td) (he : PE X e ty) (hf : PE X f tx) (m : M2 X o "get" apos e f cpos) : PE X (.Call (.Attribute o "get" apos) [e, f] [] cpos) (tDGetM2 X.K hs td ty tx) := by
  refine ⟨fun pins s σ H Q I h => ?_⟩
  refine wpAny_Call_method m.base m.few m.line PySem.F.plainAttrs_dict PySem.F.slot_dict_get PySem.F.type_dict_get (thn (ho.run pins s σ H _ I h) fun u s1 ⟨x, H1, I1, rx, a, xs, ex, d, q1⟩ => ?_)
  subst ex
  obtain rfl : u = Value.ref a := rx
  obtain ⟨t1, t2⟩ := dctTy d hw I1
  refine ⟨t1, t2, ?_⟩
  rw [m.trees]
  refine Calls.callWith_builtin rfl (Calls.evalArgs_plain (Calls.spliced_cons (thn (he.run pins s1 σ H1 _ I1 q1) fun iv s2 ⟨y, H2, I2, ry, q2⟩ =>
    Calls.spliced_cons (thn (hf.run pins s2 σ H2 _ I2 q2) fun fv s3 ⟨z, H3, I3, rz, k, b, xs2, ey, nk, dp, dh, q3⟩ => Calls.spliced_nil ?_))))
  subst ey
  obtain rfl : iv = Value.ref b := ry
  obtain ⟨ys, pr, hm⟩ := dh.at hw I3
  exact getOr_keyed (knd := nestedKind X.prog X.w) (show X.A.units + 1 + 8 < cLine by have : X.A.units + 64 < cLine := hu; omega) ⟨NkH.reads I3 k _ _ nk rfl, dp⟩ dh.sys ⟨ys, hm, rfl⟩ ⟨_, H3, I3.tok _, xval_rel pr rz, q3⟩
end
end L2
namespace L3
open PySem PySem.Spec L2 PyProof.Rows
section
variable {Y : Pc} {X : Cx} {W : WX} {a b c o e f : Expr} {es : List Expr} {pos apos cpos : Pos} {K : PySem.W.Frag} {F H : Hp} {ρ : List Addr} {S : Store} {ra rb rc : Ev → Store → Res D} {rs : Ev → Store → Res (List D)}
/-- what d.get(k, z) answers -/
def dgetOr (S : Store) (x y z : D) : Option D := match kvsD S x, keyT y with
  | some kvs, some k => some ((kfind kvs k).getD z)
  | _, _ => none
def rDGet1 (ra rb : Ev → Store → Res D) : Ev → Store → Res D := fun env S => (ra env S).bind fun x S1 => match kvsD S1 x with
  | none => .stuck
  | some _ => (rb env S1).bind fun y S2 => lift (dgetOr S2 x y .non) S2
def rDGet2 (ra rb rc : Ev → Store → Res D) : Ev → Store → Res D := fun env S => (ra env S).bind fun x S1 => match kvsD S1 x with
  | none => .stuck
  | some _ => (rb env S1).bind fun y S2 => (rc env S2).bind fun z S3 => lift (dgetOr S3 x y z) S3
theorem dgetOr_rd {x y : V} {z : V} {dx dy dz d : D} (R : SR K Y F ρ S H) (rx : RD K F ρ x dx) (ry : RD K F ρ y dy) (rz : RD K F ρ z dz) (e : dgetOr S dx dy dz = some d) :
    ∃ k a b xs, x = .ref a ∧ y = .ref b ∧ NkH K H k (.ref b) ∧ k.depth ≤ 8 ∧ DctH K H Y.hs a xs ∧ RD K F ρ (xval z xs k) d := by
  unfold dgetOr at e
  cases e2 : kvsD S dx with
  | none => rw [e2] at e; cases e
  | some kvs =>
    rw [e2] at e
    cases e1 : keyT dy with
    | none => rw [e1] at e; cases e
    | some q =>
      rw [e1] at e
      have e := Option.some.inj e
      obtain ⟨b, rfl, nk, dp, _⟩ := key_rd R.ex ry e1
      obtain ⟨a, xs, rfl, dh, hk⟩ := dct_cell R rx e2
      refine ⟨q, a, b, xs, rfl, rfl, nk, dp, dh, ?_⟩
      unfold xval
      rcases hk.find (k := q) with ⟨e3, e4⟩ | ⟨d', w, e3, e4, r⟩
      · rw [e4]; rw [e3] at e; rw [← e]; exact rz
      · rw [e4]; rw [e3] at e; rw [← e]; exact r
theorem se_dget1 {k : Nat} (C : Ok X W (k + 1)) (hw : Y.hs = NestedKey.hash X.w) (ha : SE Y X W o ra) (hb : SE Y X W e rb) (m : M1 X o "get" apos e cpos := by exact ⟨rfl, rfl, rfl, rfl⟩) : SE Y X W (.Call (.Attribute o "get" apos) [e] [] cpos) (rDGet1 ra rb) := by
  obtain ⟨ta, a1, a2⟩ := ha.ex
  obtain ⟨tb, b1, b2⟩ := hb.ex
  refine ⟨_, pe_dgetM1 (room64 C) hw a1 b1 m, fun F ρ S H σ env Q R E h => a2.then R E h fun d u S1 F1 ρ1 H1 R1 n1 E1 ru o1 => ?_⟩
  cases ek : kvsD S1 d with
  | none => rw [ek] at o1; exact False.elim o1
  | some kvs =>
    rw [ek] at o1
    obtain ⟨a, xs, rfl, dh, _⟩ := dct_cell R1 ru ek
    refine ⟨a, xs, rfl, dh, b2.then R1 E1 o1 fun d2 u2 S2 F2 ρ2 H2 R2 n2 E2 ru2 o2 => ?_⟩
    obtain ⟨v, ev, q⟩ := lift_out o2
    obtain ⟨k, a', b', xs2, ea, rfl, nk, dp, dh2, rv⟩ := dgetOr_rd R2 (ru.mono n2.ex n2.pre) ru2 .non ev
    cases ea
    exact ⟨k, b', xs2, rfl, nk, dp, dh2, q F2 ρ2 H2 R2 (Nx.refl _ _ _) _ rv⟩
theorem se_dget2 {k : Nat} (C : Ok X W (k + 1)) (hw : Y.hs = NestedKey.hash X.w) (ha : SE Y X W o ra) (hb : SE Y X W e rb) (hc : SE Y X W f rc) (m : M2 X o "get" apos e f cpos := by exact ⟨rfl, rfl, rfl, rfl⟩) : SE Y X W (.Call (.Attribute o "get" apos) [e, f] [] cpos) (rDGet2 ra rb rc) := by
  obtain ⟨ta, a1, a2⟩ := ha.ex
  obtain ⟨tb, b1, b2⟩ := hb.ex
  obtain ⟨tc, c1, c2⟩ := hc.ex
  refine ⟨_, pe_dgetM2 (room64 C) hw a1 b1 c1 m, fun F ρ S H σ env Q R E h => a2.then R E h fun d u S1 F1 ρ1 H1 R1 n1 E1 ru o1 => ?_⟩
  cases ek : kvsD S1 d with
  | none => rw [ek] at o1; exact False.elim o1
  | some kvs =>
    rw [ek] at o1
    obtain ⟨a, xs, rfl, dh, _⟩ := dct_cell R1 ru ek
    refine ⟨a, xs, rfl, dh, b2.then R1 E1 o1 fun d2 u2 S2 F2 ρ2 H2 R2 n2 E2 ru2 o2 => c2.then R2 E2 o2 fun d3 u3 S3 F3 ρ3 H3 R3 n3 E3 ru3 o3 => ?_⟩
    obtain ⟨v, ev, q⟩ := lift_out o3
    obtain ⟨k, a', b', xs2, ea, rfl, nk, dp, dh2, rv⟩ := dgetOr_rd R3 ((ru.mono n2.ex n2.pre).mono n3.ex n3.pre) (ru2.mono n3.ex n3.pre) ru3 ev
    cases ea
    exact ⟨k, b', xs2, rfl, nk, dp, dh2, q F3 ρ3 H3 R3 (Nx.refl _ _ _) _ rv⟩
theorem tw_all {p : Nat → Bool} : ∀ {s : List Nat}, (∀ c ∈ s, p c = true) → s.takeWhile p = s
  | [], _ => rfl
  | c :: s, h => by
    rw [List.takeWhile_cons, if_pos (h c (List.mem_cons_self ..)), tw_all fun c' hc => h c' (List.mem_cons_of_mem _ hc)]
theorem strip_all {s t : List Nat} (h : s.all (fun c => decide (c ∈ t)) = true) : Txt.stripChars (tx s) (tx t) = tx [] := by
  have hg : ∀ c ∈ s, (tx t).cps.contains c = true := fun c hc => by
    have := List.all_eq_true.mp h c hc
    simp only [decide_eq_true_eq] at this
    rw [Array.contains_iff_mem]
    simpa using this
  have tw : s.takeWhile (tx t).cps.contains = s := tw_all hg
  unfold Txt.stripChars Txt.stripBy
  have e0 : (tx s).cps.toList = s := by simp
  have lo : PySem.stripLo (tx t).cps.contains true (tx s) = s.length := by
    simp [PySem.stripLo, tw]
  have hi : PySem.stripHi (tx t).cps.contains true (tx s) s.length = s.length := by
    simp [PySem.stripHi, PySem.Str.length]
  unfold PySem.stripSame PySem.stripped
  rw [lo, hi]
  cases s with
  | nil => rfl
  | cons c s => rw [if_neg (by simp)]; simp [PySem.Builtin.Str.strSub]
def stripD : OpM := fun S x xs => match x, xs with
  | .str s, [.str t] => if s.all (fun c => decide (c ∈ t)) = true ∧ s.length ≤ 90000 then some (.str [], S) else none
  | _, _ => none
theorem smt_strip : SMt Y X "str" "str.strip" tyStr stripD := ⟨⟨_, mt_stripChars, fun F ρ S S' H x dx d xs ds Q R rx rxs e k => by
  match dx, ds, rxs, rx, e with
  | .str s, .str t0 :: d2 :: ds2, _, _, e => cases e
  | .str s, [.str t], .cons (.str _ ht) .nil, .str _ hs, e =>
    have e : (if s.all (fun c => decide (c ∈ t)) = true ∧ s.length ≤ 90000 then some (D.str [], S) else none) = some (d, S') := e
    by_cases h : s.all (fun c => decide (c ∈ t)) = true ∧ s.length ≤ 90000
    · rw [if_pos h] at e; cases e
      refine ⟨tx s, tx t, rfl, rfl, by rw [tx_len]; exact Nat.le_trans h.2 (by decide), ?_⟩
      rw [strip_all h.1]
      exact now_str R (fun c hc => nomatch hc) k
    · rw [if_neg h] at e; cases e⟩, tyStr_ok⟩
end
end L3
set_option Elab.async false
set_option linter.all false
set_option maxRecDepth 100000
set_option maxHeartbeats 2000000
/-! {k: v} with one key, a tuple -/
namespace L2
open PySem PySem.Spec PyProof.Rows L3
def tDisp1 (K : PySem.W.Frag) (hs : NestedKey → Int) (ta tb : TE) : TE := fun σ H Q => ∀ p, H p = none → (p == sysModules) = false → ta σ (upd H p (DctO hs p [])) fun x H1 => tb σ H1 fun y H2 =>
  ∃ k b, x = .ref b ∧ NkH K H2 k (.ref b) ∧ k.depth ≤ 8 ∧ H2 p = some (DctO hs p []) ∧ DctH K H2 hs p [] ∧ Q (.ref p) (upd H2 p (DctO hs p (xput [] k b y)))
section
variable {X : Cx} {a b : Expr} {pos : Pos} {ta tb : TE}
theorem pe_disp1 {hs : NestedKey → Int} (hu : RoomN X) (hw : hs = NestedKey.hash X.w) (ha : PE X a ta) (hb : PE X b tb) : PE X (.Dict [some a] [b] pos) (tDisp1 X.K hs ta tb) := by
  refine ⟨fun pins s σ H Q I h => ?_⟩
  have hn := I.hok.fresh (Nat.le_refl s.heap.objs.size)
  have hsy : (s.heap.objs.size == sysModules) = false := beq_eq_false_iff_ne.mpr (Ne.symm (Nat.ne_of_lt I.big))
  have I1 := I.laid (a := s.heap.objs.size) (o := DctO hs s.heap.objs.size []) (h' := s.heap.push { cls := .type "dict", data := .dict #[] }) (t' := s.toks) (fun _ _ q => Heap.get?_push_of_some _ q) (Nat.le_refl _) (dct_new ⟨_, #[], 0, [], Heap.get?_push_size _ rfl, ⟨rfl, rfl, rfl⟩, rfl, .nil, rfl⟩)
  have hu2 : X.A.units + 8 < cLine := by have : X.A.units + 64 < cLine := hu; omega
  rw [arm_eval_Dict, zip_pairTrees [some a] [b] X.env pos rfl rfl, dictDisplay_pairs (pairTrees [some a] [b] X.env pos) (by simp [pairTrees]) (by simp [pairTrees])]
  refine wpAny_bind (wpAny_standAt (wpAny_bind (wpAny_subDictH (knd := nestedKind X.prog X.w) (Q := fun d s' => wpAny (model X.prog X.w) X.A (pure (Value.ref d)) (fun u s' => ∃ x H', Inv X pins σ H' s' ∧ RelV x u ∧ Q x H') X.xe s') hu2 (by simp [pairTrees])
    (pairTrees_cons_walk (thn (ha.run pins _ σ _ _ I1 (h _ hn hsy)) fun u s1 ⟨x, H1, I1, rx, q1⟩ => thn (hb.run pins s1 σ H1 _ I1 q1) fun w2 s2 ⟨y, H2, I2, ry, k, c, ex, nk, dp, hp, dh, q2⟩ => pairTrees_nil_walk ?_)))))
  subst ex
  obtain rfl : u = Value.ref c := rx
  obtain ⟨ys, pr, hm⟩ := dh.at hw I2
  cases pr
  refine ⟨[(k, c, w2)], ⟨rfl, rfl, ⟨NkH.reads I2 k _ _ nk rfl, dp⟩, trivial⟩, hm, fun h' tk hm' sb => wpAny_pure ?_⟩
  obtain ⟨o', es, ep, h1, h2, h3, h4, h5, h6⟩ := hm'
  have p : DctP hs s.heap.objs.size (xput [] k c y) h' := ⟨o', es, ep, _, h1, h2, h3, xy_put .nil ry, by rw [h4, hw]; rfl⟩
  exact ⟨.ref s.heap.objs.size, _, I2.write (x := s.heap.objs.size) (e := s.heap.objs.size) (t' := tk) (by rw [hp]; trivial) (.inl rfl) (fun c u hc hu => (sb.2 c hc).trans hu) ⟨_, h1⟩ (dct_new p), rfl, q2⟩
end
end L2
namespace L3
open PySem PySem.Spec L2 PyProof.Rows
section
variable {Y : Pc} {X : Cx} {W : WX} {a b c e f g : Expr} {pos : Pos} {K : PySem.W.Frag} {F H : Hp} {ρ : List Addr} {S : Store} {ra rb rc rd : Ev → Store → Res D}
def rDct1 (ra rb : Ev → Store → Res D) : Ev → Store → Res D := fun env S => (ra env (S ++ [.dct []])).bind fun x S1 => (rb env S1).bind fun y S2 => match S2[S.length]?, keyT x with
  | some (.dct []), some q => .ok (.loc S.length) (S2.set S.length (.dct (kput [] q x y)))
  | _, _ => .stuck
theorem se_dct1 {k : Nat} (C : Ok X W (k + 1)) (hw : Y.hs = NestedKey.hash X.w) (ha : SE Y X W a ra) (hb : SE Y X W b rb) : SE Y X W (.Dict [some a] [b] pos) (rDct1 ra rb) := by
  obtain ⟨ta, a1, a2⟩ := ha.ex
  obtain ⟨tb, b1, b2⟩ := hb.ex
  refine ⟨_, pe_disp1 (room64 C) hw a1 b1, fun F ρ S H σ env Q R E h p hp hm => ?_⟩
  have fp : F p = none := by
    cases e : F p with
    | none => rfl
    | some u => rw [R.ex p u e] at hp; cases hp
  obtain ⟨R0, n0, e0⟩ := R.alloc (o := DctO Y.hs p []) (cc := .dct []) hp ⟨fp, hm, [], upd_same, List.nodup_nil, Nat.zero_le _, KVOk.nil⟩
  unfold rDct1 at h
  refine a2.then R0 (E.nx n0) (h.later n0) fun d u S1 F1 ρ1 H1 R1 n1 E1 ru o1 => b2.then R1 E1 o1 fun d2 u2 S2 F2 ρ2 H2 R2 n2 E2 ru2 o2 => ?_
  cases e2 : S2[S.length]? with
  | none => rw [e2] at o2; exact False.elim o2
  | some c =>
    rw [e2] at o2
    cases c with
    | dct kvs =>
      cases kvs with
      | nil =>
        cases e1 : keyT d with
        | none => rw [e1] at o2; exact False.elim o2
        | some q =>
          rw [e1] at o2
          obtain ⟨b', rfl, nk, dp, kd⟩ := key_rd R2.ex (ru.mono n2.ex n2.pre) e1
          have ep := n2.pre _ _ (n1.pre _ _ e0)
          obtain ⟨k1, k0, xs, k2, k4, k5, k3⟩ := R2.cell _ _ _ ep e2
          have ex := k3.snil
          subst ex
          obtain ⟨R3, n3⟩ := R2.write (c := .dct (kput [] q d d2)) (o := DctO Y.hs p (xput [] q b' u2)) ep k1 ⟨k1, k0, _, upd_same, xput_nd k4, Nat.le_trans xput_len (by decide), k3.put (ru.mono n2.ex n2.pre) ru2 kd dp⟩
          exact ⟨q, b', rfl, nk, dp, k2, ⟨k0, .inl k2, k4, k3.nk R2.ex, k5⟩, o2 F2 ρ2 _ R3 n3 _ (.loc ep)⟩
      | cons _ _ => exact False.elim o2
    | _ => exact False.elim o2
end
end L3
set_option Elab.async false
set_option linter.all false
set_option maxRecDepth 100000
set_option maxHeartbeats 2000000
/-! a op b op c op d -/
namespace L2
open PySem PySem.Spec PyProof.Rows
section
variable {X : Cx} {a b c d : Expr} {pos : Pos} {ta tb tc td : TE}
def tChain3 (r r' r'' : R2) (ta tb tc td : TE) : TT := fun σ H Q => ta σ H fun x H1 => tb σ H1 fun y H2 => r x y H2 fun z H3 => ∃ k, z = .bl k ∧
  (if k = true then tc σ H3 fun w' H4 => r' y w' H4 fun z' H5 => ∃ k', z' = .bl k' ∧ (if k' = true then td σ H5 fun v' H6 => r'' w' v' H6 fun z'' H7 => ∃ k'', z'' = .bl k'' ∧ Q k'' H7 else Q false H5) else Q false H3)
theorem pt_chain3 {op op' op'' : CmpOp} {r r' r'' : R2} (ho : OpR X (compareOp op) r) (ho' : OpR X (compareOp op') r') (ho'' : OpR X (compareOp op'') r'') (ha : PE X a ta) (hb : PE X b tb) (hc : PE X c tc) (hd : PE X d td)
    (hm : lastMarks [op, op', op''] [b, c, d] = false := by with_unfolding_all rfl) : PT X (.Compare a [op, op', op''] [b, c, d] pos) (tChain3 r r' r'' ta tb tc td) := by
  refine ⟨fun pins s σ H Q I h => ?_⟩
  refine isTrue_chain (thn (ha.run pins s σ H _ I h) fun v s1 ⟨x, H1, I1, r1, q1⟩ => test_link (thn (hb.run pins s1 σ H1 _ I1 q1) fun u s2 ⟨y, H2, I2, r2, q2⟩ =>
    thn (ho pins s2 σ H2 x y v u _ I2 r1 r2 q2) fun d s3 ⟨z, H3, I3, r3, k, e, q3⟩ => ?_)) hm
  subst e
  cases r3
  refine wpAny_truthy_bool ?_
  cases k with
  | false => exact ite_ff ⟨H3, I3, q3⟩
  | true =>
    refine ite_tt (test_link (thn (hc.run pins s3 σ H3 _ I3 q3) fun w' s4 ⟨z', H4, I4, r4, q4⟩ => thn (ho' pins s4 σ H4 y z' u w' _ I4 r2 r4 q4) fun d' s5 ⟨z2, H5, I5, r5, k2, e2, q5⟩ => ?_))
    subst e2
    cases r5
    refine wpAny_truthy_bool ?_
    cases k2 with
    | false => exact ite_ff ⟨H5, I5, q5⟩
    | true =>
      refine ite_tt (test_last (thn (hd.run pins s5 σ H5 _ I5 q5) fun w6 s6 ⟨z6, H6, I6, r6, q6⟩ => thn (ho'' pins s6 σ H6 z' z6 w' w6 _ I6 r4 r6 q6) fun d7 s7 ⟨z7, H7, I7, r7, k7, e7, q7⟩ => ?_))
      subst e7
      cases r7
      exact wpAny_truthy_bool ⟨H7, I7, q7⟩
end
end L2
namespace L3
open PySem PySem.Spec L2 PyProof.Rows
section
variable {Y : Pc} {X : Cx} {W : WX} {a b c d : Expr} {pos : Pos} {ra rb rc rd : Ev → Store → Res D}
def tChain3R (g g' g'' : Op2) (ra rb rc rd : Ev → Store → Res D) : Ev → Store → Res Bool := fun env S => (ra env S).bind fun x S1 => (rb env S1).bind fun y S2 => (lift (g S2 x y) S2).bind fun z S3 => match z with
  | .bl true => (rc env S3).bind fun w S4 => (lift (g' S4 y w) S4).bind fun z S5 => match z with
    | .bl true => (rd env S5).bind fun v S6 => (lift (g'' S6 w v) S6).bind fun z S7 => match z with
      | .bl k => .ok k S7
      | _ => .stuck
    | .bl false => .ok false S5
    | _ => .stuck
  | .bl false => .ok false S3
  | _ => .stuck
theorem sb_chain3 {op op' op'' : CmpOp} {g g' g'' : Op2} (ho : SOp Y X (compareOp op) g) (ho' : SOp Y X (compareOp op') g') (ho'' : SOp Y X (compareOp op'') g'') (ha : SE Y X W a ra) (hb : SE Y X W b rb) (hc : SE Y X W c rc) (hd : SE Y X W d rd)
    (hm : lastMarks [op, op', op''] [b, c, d] = false := by with_unfolding_all rfl) : SB Y X W (.Compare a [op, op', op''] [b, c, d] pos) (tChain3R g g' g'' ra rb rc rd) := by
  obtain ⟨r, h1, h2⟩ := ho.ex
  obtain ⟨r', h1', h2'⟩ := ho'.ex
  obtain ⟨r'', h1'', h2''⟩ := ho''.ex
  obtain ⟨ta, a1, a2⟩ := ha.ex
  obtain ⟨tb, b1, b2⟩ := hb.ex
  obtain ⟨tc, c1, c2⟩ := hc.ex
  obtain ⟨td, d1, d2⟩ := hd.ex
  refine ⟨_, pt_chain3 h1 h1' h1'' a1 b1 c1 d1 hm, fun F ρ S H σ env Q R E h => ?_⟩
  unfold tChain3R at h
  refine a2.then R E h fun d u S1 F1 ρ1 H1 R1 n1 E1 ru o1 => b2.then R1 E1 o1 fun d' u' S2 F2 ρ2 H2 R2 n2 E2 ru' o2 => ?_
  have o2 := o2.bind
  obtain ⟨z, hz, k⟩ := lift_out o2
  refine h2 F2 ρ2 S2 H2 u u' d d' z _ R2 (ru.mono n2.ex n2.pre) ru' hz fun F' H' w R' n' r' => ?_
  have o3 := k F' ρ2 H' R' n'
  cases r' with
  | bl kk =>
    refine ⟨kk, rfl, ?_⟩
    cases kk with
    | false => exact Out.now o3 R'
    | true =>
      refine c2.then R' (E2.nx n') o3 fun d3 u3 S4 F4 ρ4 H4 R4 n4 E4 ru3 o4 => ?_
      have o4 := o4.bind
      obtain ⟨z, hz, k⟩ := lift_out o4
      refine h2' F4 ρ4 S4 H4 u' u3 d' d3 z _ R4 ((ru'.mono n'.ex n'.pre).mono n4.ex n4.pre) ru3 hz fun F5 H5 w R5 n5 r5 => ?_
      have o5 := k F5 ρ4 H5 R5 n5
      cases r5 with
      | bl kk =>
        refine ⟨kk, rfl, ?_⟩
        cases kk with
        | false => exact Out.now o5 R5
        | true =>
          refine d2.then R5 (E4.nx n5) o5 fun d6 u6 S6 F6 ρ6 H6 R6 n6 E6 ru6 o6 => ?_
          have o6 := o6.bind
          obtain ⟨z, hz, k⟩ := lift_out o6
          refine h2'' F6 ρ6 S6 H6 u3 u6 d3 d6 z _ R6 ((ru3.mono n5.ex n5.pre).mono n6.ex n6.pre) ru6 hz fun F7 H7 w R7 n7 r7 => ?_
          have o7 := k F7 ρ6 H7 R7 n7
          cases r7 with
          | bl kk => exact ⟨kk, rfl, Out.now o7 R7⟩
          | _ => exact False.elim o7
      | _ => exact False.elim o5
  | _ => exact False.elim o3
end
end L3
set_option Elab.async false
set_option linter.all false
set_option maxRecDepth 100000
set_option maxHeartbeats 4000000
/-! the set of a list of ints, put in order -/
namespace L2
open PySem PySem.Spec PyProof.Rows
/-- a set just made -/
abbrev nwS (w : World) : Obj := { cls := .type "set", dict := none, data := .set #[] 0 (.fresh 0 0 (!w.params.followText "set-order")) }
section
variable {P : Program} {w : World} {A : Around} {E : Value → Shared → Prop} {s : Shared}
theorem set_of_list {l : Addr} {xs : Array Value} (ns : List Int) {Q : Value → Shared → Prop} (nh : A.handled = none) (il : s.heap.IsList l xs) (ia : IntsAre xs.toList ns) (bd : ns.length + 1 < scanBound)
    (fin : ∀ (g : Heap) (t n : Nat), SetR w g s.heap.objs.size (fun j => decide (j ∈ ns)) n → n ≤ ns.length → (∀ b o, s.heap.get? b = some o → g.get? b = some o) → Q (.ref s.heap.objs.size) { s with heap := g, toks := t }) : wpAny (model P w) A (call (.type "set") [.ref l]) Q E s := by
  have sz : xs.size = ns.length := by have q := IntsAre.length ia; rw [Array.length_toList] at q; exact q
  obtain ⟨c, tl, m1⟩ := F.called_set.mro
  have m2 := F.called_set.made
  have m3 := F.called_set.sub
  refine wpAny_call (codeAny_of_tree ?_); show wpAny _ _ (callAny (.type "set") _) _ _ _
  refine wpAny_pure ⟨Code.quiet_builtin _ (by decide +kernel), codeAny_builtin F.entry_type_call ?_⟩; rw [Around.under_plain (weight_type_call_type "set" [.ref l] []) rfl]
  have m4 := F.called_set.notType
  have m5 := F.called_set.canCreate
  have m6 := F.typeCall_set_1 (.ref l)
  repeat (any_goals (first | assumption | wp_step))
  refine codeAny_mono (code_set_led1 (.ref l) (E := E) (Q₁ := fun x t => x = .ref s.heap.objs.size ∧ t = { s with heap := s.heap.push (nwS w) }) ⟨rfl, rfl⟩) fun r t hr => ?_
  cases r with
  | error e => exact hr
  | ok fl =>
    cases fl with
    | ret obj =>
      obtain ⟨rfl, rfl⟩ := hr
      have g0 : (s.heap.push (nwS w)).get? s.heap.objs.size = some (nwS w) := Heap.get?_push_size _ rfl
      have ty : Shared.TypeIs { s with heap := s.heap.push (nwS w) } (.ref s.heap.objs.size) "set" := ⟨_, g0, rfl⟩
      have m7 := F.called_set.init.lookup
      have m8 := F.called_set.init.bind (.ref s.heap.objs.size)
      repeat (any_goals (first | assumption | wp_step))
      refine codeAny_mono (codeAny_call_builtin (R := wants (fun r u => r = .none ∧ ∃ g t n, u = { s with heap := g, toks := t } ∧ SetR w g s.heap.objs.size (fun j => decide (j ∈ ns)) n ∧ n ≤ ns.length ∧ (∀ b o, s.heap.get? b = some o → g.get? b = some o)) E) F.called_set.init.plain F.entry_set_init (check_set_init_1 ty ?_)) fun r u hu => ?_
      · obtain ⟨ol, gl, cl, nl, dl⟩ := il
        obtain ⟨lc, ld, lv, lsl⟩ := ol
        simp only at cl dl
        subst cl; subst dl
        have gl2 : (s.heap.push (nwS w)).get? l = some { cls := .type "list", dict := ld, data := .seq xs nl, slots := lsl } := Heap.get?_push_of_some _ gl
        have n1 := F.sub_list_set
        have n2 := F.sub_list_frozenset
        have n3 : (Value.type "list" == Value.type "dict") = false := by decide
        have il2 : (s.heap.push (nwS w)).IsList l xs := ⟨_, gl2, rfl, nl, rfl⟩
        unfold Builtin.«set.__init__» noKeywords Builtin.Frozenset.updateFrom
        generalize hPI : pyIter = PI
        wp_walk
        subst hPI
        refine wpAny_pyIter_list il2 ?_; refine wpAny_bind (wpAny_runValue ?_)
        have ll : l < s.heap.objs.size := Heap.lt_size gl
        have nh3 : A.in1.in1.in1.handled = none := by simp [nh]
        have ps : (s.heap.push (nwS w)).objs.size = s.heap.objs.size + 1 := Heap.size_push ..
        have li : l ≠ (s.heap.push (nwS w)).objs.size := by rw [ps]; exact Nat.ne_of_lt (Nat.lt_succ_of_lt ll)
        have nf : s.heap.objs.size ∉ [(s.heap.push (nwS w)).objs.size, l] := by
          rw [ps]; simp only [List.mem_cons, List.not_mem_nil, or_false, not_or]
          exact ⟨Nat.ne_of_lt (Nat.lt_succ_self _), Nat.ne_of_gt ll⟩
        have vals : ∀ (i : Nat) (v : Value), xs[i]? = some v → ∃ k t, ns[i]? = some k ∧ v = .int k t := fun i v hv => by
          have hi : i < ns.length := by rw [← sz]; exact (Array.getElem?_eq_some_iff.mp hv).1
          obtain ⟨t, e⟩ := PyProof.Rows.IntsAre.int_at ia i v (by rw [Array.getElem?_toList]; exact hv)
          refine ⟨ns[i], t, List.getElem?_eq_getElem hi, ?_⟩; rw [e, List.getD_eq_getElem?_getD, List.getElem?_eq_getElem hi] <;> rfl
        refine set_update_ints ((Walks.list nh3 _ l li xs).toS) s.heap.objs.size nf ns sz bd vals (xs.size - 0) 0 _ (by omega) (Nat.zero_le _) ⟨⟨_, Heap.get?_push_size _ rfl, rfl, rfl⟩, (il2.push _)⟩ ?st ?go
        case st => exact ⟨0, Nat.le_refl 0, setR_new_at (Heap.get?_push_of_some _ g0)⟩
        case go =>
          intro v n hm hn hS
          obtain ⟨g, g2, d2, t2, o2⟩ := v
          have e1 : g2 = s.gens := hm.gens
          have e2 : d2 = s.drawn := hm.drawn
          have e3 : o2 = s.os := hm.os
          subst e1; subst e2; subst e3
          show wpAny _ _ _ _ _ _; refine wpAny_pure ?_; show wpAny _ _ (ret Value.none) _ _ _
          rw [sz] at hn
          refine wpAny_pure ⟨rfl, g, t2, n, rfl, hS, hn, fun b o e => ?_⟩
          have b0 : b < s.heap.objs.size := Heap.lt_size e
          have b2 : b ≠ (s.heap.push (nwS w)).objs.size := by rw [ps]; exact Nat.ne_of_lt (Nat.lt_succ_of_lt b0)
          exact hm.heap b o (by simp only [List.mem_cons, List.not_mem_nil, or_false, not_or]; exact ⟨Nat.ne_of_lt b0, b2⟩) (Heap.get?_push_of_some _ (Heap.get?_push_of_some _ e))
      · cases r with
        | error e => exact hu
        | ok f2 =>
          cases f2 with
          | ret r =>
            obtain ⟨rfl, g, t, n, rfl, hS, hn, hk⟩ := hu
            repeat (any_goals (first | assumption | wp_step))
            exact fin _ _ _ hS hn hk
          | _ => exact hu.elim
    | _ => exact hr.elim
end
end L2
set_option Elab.async false
set_option linter.all false
set_option maxRecDepth 100000
set_option maxHeartbeats 2000000
/-! sorted(set(xs)), xs a list of ints -/
namespace L2
open PySem PySem.Spec PyProof.Rows
def rSetLI (K : PySem.W.Frag) (w : World) : List V → Hp → VK → Prop := fun vs H Q => ∃ (p : Addr) (ns : List Int), vs = [.ref p] ∧ SqL K H p (ns.map V.int) ∧ ns.length ≤ 1000 ∧ ∀ a n, H a = none → n ≤ ns.length → Q (.ref a) (upd H a (SetO w a (fun j => decide (j ∈ ns)) n))
theorem cr_setLI {X : Cx} (hc : X.calm = true) : CallR X (.type "set") (rSetLI X.K X.w) := by
  intro pins s σ H vs us Q I r h
  obtain ⟨p, ns, rfl, hq, hl, q⟩ := h
  rw [Vals.ref1 r]
  obtain ⟨its, rv, pl, hz⟩ := I.list hq
  refine set_of_list ns (I.ok.hd hc) pl.isList (ints_of_vals rv) (by unfold scanBound; omega) fun g t n hS hn hk => ?_
  exact ⟨.ref _, _, I.laid (t' := t) (fun b u e => hk b u e) (Nat.le_refl _) (setO_new hS), rfl, q _ n (I.hok.fresh (Nat.le_refl _)) hn⟩
end L2
namespace L3
open PySem PySem.Spec L2 PyProof.Rows
def insU (x : Int) : List Int → List Int
  | [] => [x]
  | y :: r => if x < y then x :: y :: r else if x = y then y :: r else y :: insU x r
def usort (ns : List Int) : List Int := ns.foldr insU []
theorem insU_mem {x k : Int} : ∀ {l : List Int}, k ∈ insU x l ↔ k = x ∨ k ∈ l
  | [] => by simp [insU]
  | y :: r => by
    unfold insU
    split
    · simp
    · split
      · rename_i h; subst h; simp
      · rw [List.mem_cons, insU_mem, List.mem_cons]
        constructor <;> rintro (h | h | h) <;> simp [h]
theorem insU_up {x : Int} : ∀ {l : List Int}, l.Pairwise (· < ·) → (insU x l).Pairwise (· < ·)
  | [], _ => List.pairwise_singleton _ _
  | y :: r, h => by
    obtain ⟨h1, h2⟩ := List.pairwise_cons.mp h
    unfold insU
    split
    · rename_i hl
      refine List.pairwise_cons.mpr ⟨fun z hz => ?_, h⟩
      rcases List.mem_cons.mp hz with e | hz
      · rw [e]; exact hl
      · have := h1 z hz; omega
    · split
      · exact h
      · refine List.pairwise_cons.mpr ⟨fun z hz => ?_, insU_up h2⟩
        rcases insU_mem.mp hz with e | hz
        · rw [e]; omega
        · exact h1 z hz
theorem usort_mem {k : Int} : ∀ {l : List Int}, k ∈ usort l ↔ k ∈ l
  | [] => Iff.rfl
  | x :: l => by
    show k ∈ insU x (usort l) ↔ _
    rw [insU_mem, usort_mem, List.mem_cons]
theorem usort_up : ∀ l : List Int, (usort l).Pairwise (· < ·)
  | [] => .nil
  | x :: l => insU_up (usort_up l)
theorem up_uniq : ∀ {l m : List Int}, l.Pairwise (· < ·) → m.Pairwise (· < ·) → (∀ k, k ∈ l ↔ k ∈ m) → l = m
  | [], [], _, _, _ => rfl
  | [], y :: m, _, _, h => by have := (h y).mpr List.mem_cons_self; cases this
  | x :: l, [], _, _, h => by have := (h x).mp List.mem_cons_self; cases this
  | x :: l, y :: m, hl, hm, h => by
    obtain ⟨a1, a2⟩ := List.pairwise_cons.mp hl
    obtain ⟨b1, b2⟩ := List.pairwise_cons.mp hm
    have e : x = y := by
      rcases List.mem_cons.mp ((h x).mp List.mem_cons_self) with e | hx
      · exact e
      · rcases List.mem_cons.mp ((h y).mpr List.mem_cons_self) with e | hy
        · exact e.symm
        · have := a1 y hy
          have := b1 x hx
          omega
    subst e
    congr 1
    refine up_uniq a2 b2 fun k => ⟨fun hk => ?_, fun hk => ?_⟩
    · rcases List.mem_cons.mp ((h k).mp (List.mem_cons_of_mem _ hk)) with e | z
      · have := a1 k hk; omega
      · exact z
    · rcases List.mem_cons.mp ((h k).mpr (List.mem_cons_of_mem _ hk)) with e | z
      · have := b1 k hk; omega
      · exact z
section
variable {Y : Pc} {X : Cx} {W : WX} {e : Expr} {pos q1 q2 pi : Pos} {K : PySem.W.Frag} {F H : Hp} {ρ : List Addr} {S : Store} {rs : Ev → Store → Res (List D)}
/-- what sorted(set(xs)) answers -/
def sortSetD : OpN := fun S xs => match xs with
  | [.lst ds] => (intsOf ds).bind fun ns => if ns.length < 64 then some (.lst ((usort ns).map .int)) else none
  | _ => none
theorem se_sortSet {k : Nat} (C : Ok X W (k + 1)) (m1 : X.mg "sorted" = none) (m2 : X.mg "set" = none) (v1 : bootBuiltins "sorted" = some (.builtin "sorted")) (v2 : bootBuiltins "set" = some (.type "set")) (ha : SA Y X W [e] rs) (g1 : Gl X "sorted" := by rfl) (g2 : Gl X "set" := by rfl)
    (he : starEach [e] X.env = (false, eval e X.env) :: starEach [] X.env := by rfl) : SE Y X W (.Call (.Name "sorted" q1) [.Call (.Name "set" q2) [e] [] pi] [] pos) (rCB sortSetD rs) := by
  obtain ⟨ta, a1, a2⟩ := ha.ex
  refine ⟨_, pe_callB (cr_sortedSet C.calm) g1 m1 v1 (pa_cons (pe_callTy (cr_setLI C.calm) g2 m2 v2 a1 (by decide) (by decide) he rfl) pa_nil rfl) (by decide) (by decide) rfl rfl, fun F ρ S H σ env Q R E h => ?_⟩
  refine a2.then R E h fun ds us S1 F1 ρ1 H1 R1 n1 E1 ru o1 => ?_
  obtain ⟨z, hz, kk⟩ := lift_out o1
  match ds, ru, hz with
  | [.lst zs], .cons (.lst h1 h2) .nil, hz =>
    have hz : ((intsOf zs).bind fun ns => if ns.length < 64 then some (D.lst ((usort ns).map .int)) else none) = some z := hz
    cases e1 : intsOf zs with
    | none => rw [e1] at hz; cases hz
    | some ns =>
      rw [e1] at hz
      have hz : (if ns.length < 64 then some (D.lst ((usort ns).map .int)) else none) = some z := hz
      by_cases hl : ns.length < 64
      · rw [if_pos hl] at hz; cases hz
        have ex := ints_rd h2 e1
        subst ex
        refine ⟨_, ns, rfl, SqL.of (R1.ex _ _ h1), by omega, fun a n hn hle => ⟨a, _, n, rfl, upd_same, by omega, fun ms q up mem _ hq => ?_⟩⟩
        obtain ⟨R2, n2⟩ := R1.grown (o := SetO X.w a (fun j => decide (j ∈ ns)) n) hn
        have em : ms = usort ns := up_uniq up (usort_up ns) fun j => by rw [mem, usort_mem, decide_eq_true_eq]
        subst em
        exact now_lst R2 (rd_ints _) hq fun F' H' u R' n' r' => kk F' ρ1 H' R' (n2.trans n') u r'
      · rw [if_neg hl] at hz; cases hz
end
end L3
set_option Elab.async false
set_option linter.all false
set_option maxRecDepth 100000
set_option maxHeartbeats 4000000
/-! d.items() where the keys are tuples; a dict held against {}; a pair of a tuple and a thing as a target -/
namespace L2
open PySem PySem.Spec PyProof.Rows PySem.W L3
section
variable {X : Cx} {pins : List (Addr × Obj)} {σ : St} {H : Hp} {s : Shared} {d : Addr} {o : Obj}
theorem Inv.frzNv {hs : NestedKey → Int} {xs : List (NestedKey × Addr × V)} (I : Inv X pins σ H s) (h : H d = some (.frz o (DctO hs d xs))) :
    s.heap.get? d = some o ∧ o.ExactDict ∧ ∃ (es : Array DictEntry) (ep : Nat), o.data = .dict es ep ∧ es.size = xs.length ∧ ∀ (i : Nat) (x : NestedKey × Addr × V), xs[i]? = some x → ∃ en : DictEntry, es[i]? = some en ∧ en.key = .ref x.2.1 ∧ RelV x.2.2 en.val := by
  obtain ⟨hd, p, _⟩ := I.hok d _ h
  obtain ⟨o', es, ep, ys, h1, h2, h3, h4, h5⟩ := p
  rw [hd] at h1; cases h1
  refine ⟨hd, h2, es, ep, h3, ?_, fun i x e => ?_⟩
  · have e1 := congrArg List.length h5
    have e2 := Paired.length h4
    simp at e1
    omega
  · obtain ⟨y, hy, q⟩ := paired_get h4 e
    refine ⟨⟨hs y.1, .ref y.2.1, y.2.2⟩, ?_, by rw [q.2.1], q.2.2⟩
    rw [← Array.getElem?_toList, h5, List.getElem?_map, hy]; rfl
end
/-- the entries of the locked dict at d, each in a new pair -/
def Itni (hs : NestedKey → Int) (d : Addr) (o : Obj) (xs : List (NestedKey × Addr × V)) : It :=
  ⟨fun i H => H d = some (.frz o (DctO hs d xs)) ∧ i < xs.length, fun i H x H' => ∃ T y, xs[i]? = some y ∧ x = .ref T ∧ H T = none ∧ H' = upd H T (.tup [.ref y.2.1, y.2.2]), fun i H => H d = some (.frz o (DctO hs d xs)) ∧ xs.length ≤ i⟩
section
variable {P : Program} {w : World} {K : PySem.W.Frag} {d : Addr} {o : Obj} {es : Array DictEntry} {ep : Nat}
theorem turn_Ni {hs : NestedKey → Int} {xs : List (NestedKey × Addr × V)} {elts : List Expr} {kk : Nat} {tpos : Pos} (it : Addr) (hod : o.data = .dict es ep) :
    Turn P w K (.Tuple elts kk tpos) (Itni hs d o xs) [it] it (fun i h => ∃ ok ov, IsItemIter h it d i xs.length ep ok ov) where
  mem := by simp
  obj := fun i h st b hb => by
    have e : b = it := by simpa using hb
    subst e
    obtain ⟨ok, ov, e⟩ := st
    exact ⟨_, e, fun v z => nomatch z⟩
  keep := fun i h h' st k => let ⟨ok, ov, e⟩ := st; ⟨ok, ov, k it (by simp) _ e⟩
  item := by
    intro X hP hw hK hc i pins s σ H E I hf st hg
    subst hP hw hK
    obtain ⟨hd, hi⟩ := hg
    obtain ⟨f0, f1, f2, f3, f4, f5⟩ := hf it (by simp)
    obtain ⟨hgd, hx, es', ep', hdt, hsz, ent⟩ := I.frzNv hd
    obtain ⟨rfl, rfl⟩ := dict_ep hod hdt
    obtain ⟨y, hy⟩ : ∃ p, xs[i]? = some p := ⟨xs[i], List.getElem?_eq_getElem hi⟩
    obtain ⟨en, hen, hkey, hval⟩ := ent i y hy
    obtain ⟨ok, ov, he⟩ := st
    rw [← hsz] at he
    have hlt : it < s.heap.objs.size := Heap.lt_size he
    have hlt' : i < es'.size := by rw [hsz]; exact hi
    have een : es'[i] = en := by
      rw [Array.getElem?_eq_getElem hlt'] at hen
      exact Option.some.inj hen
    refine wpAny_pyNext_items_item_raw he ⟨o, hgd, hx, hdt⟩ hlt' fun h' ho hT hz hk => ?_
    refine ⟨_, rfl, wpAny_letOwnedTupleGo_items (s := { s with heap := h' }) ho fun h'' he' sb => ?_⟩
    rw [een] at hT
    have hT2 : h''.get? s.heap.objs.size = some { cls := .type "tuple", data := .seq #[en.key, en.val] } := (sb.2 _ (Nat.ne_of_gt hlt)).trans hT
    have new : ObjOk X.prog X.w (upd H s.heap.objs.size (.tup [.ref y.2.1, y.2.2])) h'' s.heap.objs.size (.tup [.ref y.2.1, y.2.2]) :=
      ⟨by show 2 ≤ sizeLine; decide, [en.key, en.val], .cons hkey (.cons hval .nil), ⟨_, hT2, rfl, _, rfl⟩⟩
    have I1 : Inv X pins σ (upd H s.heap.objs.size (.tup [.ref y.2.1, y.2.2])) { s with heap := h'' } :=
      I.turnedNew (t' := s.toks) (ch := [it]) (fun b ob hb e => (sb.2 b (by simpa using hb)).trans (hk b ob (by simpa using hb) e)) hf (Nat.le_refl _) new
    refine ⟨.ref s.heap.objs.size, _, I1, rfl, ⟨_, y, hy, rfl, I.hok.fresh (Nat.le_refl _), rfl⟩, ⟨es'[i].key, es'[i].val, ?_⟩, fun b hb => ?_⟩
    · rw [← hsz]; exact he'
    · have e : b = it := by simpa using hb
      rw [e, upd_ne (Nat.ne_of_lt hlt)]
      exact (hf it (by simp)).1
  done := by
    intro X hP hw hK hc i pins s σ H E I hf st hg
    subst hP hw hK
    obtain ⟨hd, hi⟩ := hg
    obtain ⟨f0, f1, f2, f3, f4, f5⟩ := hf it (by simp)
    obtain ⟨hgd, hx, es', ep', hdt, hsz, ent⟩ := I.frzNv hd
    obtain ⟨rfl, rfl⟩ := dict_ep hod hdt
    obtain ⟨ok, ov, he⟩ := st
    rw [← hsz] at he
    exact wpAny_pyNext_items_end_raw (I.ok.hd hc) he ⟨o, hgd, hx, hdt⟩ (by omega) fun h' eb => ⟨rfl, I.turned (t' := s.toks) (fun b ob hb e => eb b ob hb e) f0 f1 f3 f4 f5⟩
  self := fun A i s Q E st h => let ⟨_, _, e⟩ := st; PySem.W.kcp_self e h
end
/-- the dict is locked here, or was -/
def iItemsN (hs : NestedKey → Int) (td : TE) : TI := fun σ H R => td σ H fun x H1 => ∃ d xs, x = .ref d ∧ (d == sysModules) = false ∧
  ((H1 d = some (DctO hs d xs) ∧ ∀ o, R (Itni hs d o xs) (upd H1 d (.frz o (DctO hs d xs)))) ∨ ∃ o, H1 d = some (.frz o (DctO hs d xs)) ∧ R (Itni hs d o xs) H1)
section
variable {X : Cx} {e : Expr} {td : TE} {apos cpos : Pos}
theorem pi_itemsN {hs : NestedKey → Int} {elts : List Expr} {kk : Nat} {tpos : Pos} (he : PE X e td) (hbase : attributeBase e "items" X.env (eval e X.env) = eval e X.env := by rfl) (hline : (apos.endLine == cpos.line) = true := by rfl) :
    PI X (.Tuple elts kk tpos) (.Call (.Attribute e "items" apos) [] [] cpos) (iItemsN hs td) := by
  refine ⟨fun pins s σ H R I h => ?_⟩
  refine wpAny_Call_method (T := "dict") (id := "dict.items") hbase rfl hline F.plainAttrs_dict F.slot_dict_items F.type_dict_items (thn (he.run pins s σ H _ I h) fun u s1 ⟨x, H1, I1, rx, d, xs, ex, hsy, q⟩ => ?_)
  subst ex
  obtain rfl : u = Value.ref d := rx
  obtain ⟨o, H2, I2, hd2, q2⟩ : ∃ o H2, Inv X pins σ H2 s1 ∧ H2 d = some (.frz o (DctO hs d xs)) ∧ R (Itni hs d o xs) H2 := by
    rcases q with ⟨hd, q⟩ | ⟨o, hd, q⟩
    · obtain ⟨od, I2⟩ := I1.lock hd trivial
      exact ⟨od, _, I2, upd_same, q od⟩
    · exact ⟨o, H1, I1, hd, q⟩
  obtain ⟨hgd, hx, es, ep, hdt, hsz, ent⟩ := I2.frzNv hd2
  have raw : s1.heap.DictRaw d es ep := ⟨o, hgd, hx, hdt⟩
  refine ⟨raw.typeIs, fun b e => by cases e; exact ⟨o, hgd, hx.2.1⟩, ?_⟩
  have I3 : Inv X pins σ H2 { s1 with heap := s1.heap.push { cls := .type "dict_items", data := .fields #[.ref d] } } := I2.kept (t' := s1.toks) fun b ob q => Heap.get?_push_of_some _ q
  have fin : wpAny (model X.prog X.w) X.A (pyIter (.ref s1.heap.objs.size)) (PIE X pins σ (.Tuple elts kk tpos) R) X.xe { s1 with heap := s1.heap.push { cls := .type "dict_items", data := .fields #[.ref d] } } := by
    refine wpAny_pyIter_items_raw (d := d) (es := es) (ep := ep) ⟨_, Heap.get?_push_size _ rfl, rfl, rfl⟩ (raw.at fun o q => Heap.get?_push_of_some _ q) (pi_one (tk := s1.toks) I3 _ (turn_Ni _ hdt) ⟨.none, .none, ?_⟩ q2)
    rw [← hsz]
    exact Heap.get?_push_size _ rfl
  show wpAny _ _ (callWith cpos (.builtin "dict.items") [.ref d] [] []) _ X.xe s1
  exact method_meetsIn F.slot_dict_items F.entry_dict_items rfl (PySem.evalArgs_none ⟨rfl, raw.typeIs, F.args_dict_items_1 _, _, meets_dict_items_raw d hsy, ⟨⟨es, ep, raw⟩, fin⟩⟩)
end
section
variable {prog : Program} {w : World} {A : Around} {E : Value → Shared → Prop} {s : Shared}
theorem same_empty {nm : String} {a b : Addr} {es es' : Array DictEntry} {ep ep' : Nat} {Q : Bool → Shared → Prop} (ha : (a == sysModules) = false) (hb : (b == sysModules) = false)
    (da : s.heap.DictRaw a es ep) (db : s.heap.DictRaw b es' ep') (e0 : es'.size = 0) (h : Q (es.size == 0) s) :
    wpAny (model prog w) A (Builtin.Dict.samePairs nm a b) Q E s := by
  obtain ⟨oa, hoa, _, hda⟩ := da
  obtain ⟨ob, hob, _, hdb⟩ := db
  unfold Builtin.Dict.samePairs Builtin.Dict.showsAll
  rw [if_neg (show ¬ (a == sysModules) = true by rw [ha]; exact Bool.false_ne_true), if_neg (show ¬ (b == sysModules) = true by rw [hb]; exact Bool.false_ne_true)]
  refine wpAny_bind (wpAny_pure (wpAny_bind (wpAny_pure ?_)))
  refine wpAny_bind (wpAny_dictEntries hoa hda ?_)
  dsimp only
  refine wpAny_bind (wpAny_dictEntries hob hdb ?_)
  by_cases hsz : es.size = 0
  case neg =>
    rw [if_pos (by rw [e0]; simpa using hsz)]
    have hbf : (es.size == 0) = false := by simpa using hsz
    rw [hbf] at h
    exact wpAny_bind (wpAny_rule (wpAny_pure h))
  case pos =>
    rw [if_neg (by rw [hsz, e0]; simp)]
    refine wpAny_bind (wpAny_dictEpoch hoa hda ?_)
    refine wpAny_bind ?_
    rw [Std.Legacy.Range.forIn_eq_forIn_range']
    simp only [Std.Legacy.Range.size, Nat.sub_zero, Nat.add_sub_cancel, Nat.div_one, hsz, List.range'_zero, List.forIn_nil]
    refine wpAny_pure ?_
    have h2 : Q true s := by simpa [hsz] using h
    exact wpAny_pure h2
theorem ne_empty {a b : Addr} {es es' : Array DictEntry} {ep ep' : Nat} {Q : Value → Shared → Prop} (ha : (a == sysModules) = false) (hb : (b == sysModules) = false)
    (da : s.heap.DictRaw a es ep) (db : s.heap.DictRaw b es' ep') (e0 : es'.size = 0) (hu : A.units < cLine) (h : Q (.bool (!(es.size == 0))) s) :
    wpAny (model prog w) A (compareOp .NotEq (.ref a) (.ref b)) Q E s := by
  refine wpAny_richCompare_same_room (op := .NotEq) da.typeIs db.typeIs PySem.F.slot_dict_ne (wpAny_call_entry PySem.F.slot_dict_ne da.typeIs PySem.F.entry_dict_ne ?_ (PySem.F.args_dict_ne_2 _ _)) hu
  show wpAny _ _ (Builtin.Dict.dictSlotArgs "__ne__" ⟨[.ref a, .ref b], []⟩ >>= _) _ _ s
  refine wpAny_bind ?_
  unfold Builtin.Dict.dictSlotArgs
  refine wpAny_bind (wpAny_notOrdered_dict da.typeIs ?_)
  show wpAny _ _ (pure (Value.ref a, Value.ref b)) _ _ s
  refine wpAny_pure ?_
  refine wpAny_bind (wpAny_isInstance (T := "dict") db.typeIs PySem.F.sub_dict_dict ?_)
  simp only [Bool.not_true, Bool.false_eq_true, if_false]
  refine wpAny_bind (wpAny_pure (wpAny_bind (wpAny_pure ?_)))
  refine wpAny_bind (same_empty ha hb da db e0 ?_)
  refine wpAny_pure ⟨_, rfl, ?_, ?_⟩
  · exact fun x => nomatch x
  · simpa using h
end
end L2
namespace L3
open PySem PySem.Spec L2 PyProof.Rows
section
variable {Y : Pc} {X : Cx} {W : WX} {a b e v tg iter : Expr} {es : List Expr} {pos : Pos} {K : PySem.W.Frag} {F H : Hp} {ρ : List Addr} {S : Store} {ra rb : Ev → Store → Res D} {rs : Ev → Store → Res (List D)} {pins : List (Addr × Obj)} {σ : L2.St} {s : Shared}
theorem DctH.raw {hs : NestedKey → Int} {a : Addr} {xs : List (NestedKey × Addr × V)} (h : DctH X.K H hs a xs) (I : Inv X pins σ H s) : ∃ es ep, s.heap.DictRaw a es ep ∧ es.size = xs.length := by
  have p : DctP hs a xs s.heap := by
    rcases h.is with e | ⟨o, e⟩
    · exact (I.hok a _ e).1
    · exact (I.hok a _ e).2.1
  obtain ⟨o, es, ep, ys, h1, h2, h3, h4, h5⟩ := p
  refine ⟨es, ep, ⟨o, h1, h2, h3⟩, ?_⟩
  have e1 := congrArg List.length h5
  have e2 := Paired.length h4
  simp at e1
  omega
/-! ### d != {} -/
def rDNe0 (K : PySem.W.Frag) (hs : NestedKey → Int) : R2 := fun x y H Q => ∃ a xs b, x = .ref a ∧ y = .ref b ∧ DctH K H hs a xs ∧ DctH K H hs b [] ∧ Q (.bl (!(xs.length == 0))) H
theorem op_dNe0 {hs : NestedKey → Int} (hu : RoomN X) : OpR X (compareOp .NotEq) (rDNe0 X.K hs) := by
  intro pins s σ H x y v u Q I rx ry h
  obtain ⟨a, xs, b, rfl, rfl, d1, d2, q⟩ := h
  cases rx; cases ry
  obtain ⟨es, ep, r1, z1⟩ := d1.raw I
  obtain ⟨es2, ep2, r2, z2⟩ := d2.raw I
  refine ne_empty d1.sys d2.sys r1 r2 (by rw [z2]; rfl) (by have : X.A.units + 64 < cLine := hu; omega) ⟨.bl _, H, I.tok _, ?_, q⟩
  show Value.bool _ = Value.bool _
  rw [z1]
def dneD : Op2 := fun S x y => match kvsD S x, kvsD S y with
  | some kvs, some [] => some (.bl (!(kvs.length == 0)))
  | _, _ => none
theorem dne_ok : OpOk K Y dneD (rDNe0 K Y.hs) := fun F ρ S H x y dx dy d Q R rx ry e k => by
  unfold dneD at e
  cases e1 : kvsD S dx with
  | none => rw [e1] at e; cases e
  | some kvs =>
    rw [e1] at e
    cases e2 : kvsD S dy with
    | none => rw [e2] at e; cases e
    | some kvs2 =>
      rw [e2] at e
      cases kvs2 with
      | cons _ _ => cases e
      | nil =>
        cases e
        obtain ⟨a, xs, rfl, dh, hk⟩ := dct_cell R rx e1
        obtain ⟨b, xs2, rfl, dh2, hk2⟩ := dct_cell R ry e2
        cases hk2.snil
        refine ⟨a, xs, b, rfl, rfl, dh, dh2, ?_⟩
        rw [hk.length]
        exact k F H _ R (Nx.refl _ _ _) (.bl _)
theorem sop_dNe0 {k : Nat} (C : Ok X W (k + 1)) : SOp Y X (compareOp .NotEq) dneD := ⟨_, op_dNe0 (room64 C), dne_ok⟩
/-! ### d.items() -/
theorem RDs.get2 {kvs : List (D × D)} : ∀ {xs : List (NestedKey × Addr × V)} {i : Nat} {p : D × D}, KVOk K F ρ xs kvs → kvs[i]? = some p → ∃ x, xs[i]? = some x ∧ RD K F ρ (.ref x.2.1) p.1 ∧ RD K F ρ x.2.2 p.2 := by
  induction kvs with
  | nil => intro xs i p _ e; cases e
  | cons q kvs ih =>
    intro xs i p h e
    obtain ⟨x, ys, rfl⟩ := h.scons
    obtain ⟨a1, a2, _, _, a5⟩ := h.inv
    cases i with
    | zero => cases e; exact ⟨x, rfl, a1, a2⟩
    | succ i =>
      obtain ⟨z, hz, r1, r2⟩ := ih (i := i) (p := p) a5 e
      exact ⟨z, hz, r1, r2⟩
abbrev pairDD (p : D × D) : D := .tup [p.1, p.2]
theorem walks_Ni {hs : NestedKey → Int} {d : Addr} {od : Obj} {xs : List (NestedKey × Addr × V)} {kvs : List (D × D)} (h : F d = some (.frz od (DctO hs d xs))) (r : KVOk K F ρ xs kvs) : WalksJ K Y (Itni hs d od xs) F ρ (kvs.map pairDD) := fun F1 ρ1 S1 H1 e p R i => by
  have q := R.ex _ _ (e _ _ h)
  refine ⟨fun dd hd => ?_, fun hi => ⟨q, by rw [r.length]; simpa using hi⟩⟩
  rw [List.getElem?_map] at hd
  cases e3 : kvs[i]? with
  | none => rw [e3] at hd; cases hd
  | some pp =>
    rw [e3] at hd
    cases hd
    obtain ⟨x, hx, r1, r2⟩ := RDs.get2 r e3
    refine ⟨⟨q, (List.getElem?_eq_some_iff.mp hx).1⟩, fun v H' y => ?_⟩
    obtain ⟨T, z, hz, rfl, hT, rfl⟩ := y
    rw [hx] at hz; cases hz
    obtain ⟨R3, n3, e4⟩ := R.new (o := .tup [.ref x.2.1, x.2.2]) hT
    exact ⟨_, R3, n3, .tup (Or.inl (Or.inl e4)) (.cons ((r1.mono e p).mono n3.ex n3.pre) (.cons ((r2.mono e p).mono n3.ex n3.pre) .nil))⟩
def iDctI (ra : Ev → Store → Res D) : Ev → Store → Res (List D) := fun env S => (ra env S).bind fun d S1 => match d with
  | .loc i => match S1[i]? with
    | some (.dct kvs) => .ok (kvs.map pairDD) (S1.set i (.dkf kvs))
    | some (.dkf kvs) => .ok (kvs.map pairDD) S1
    | _ => .stuck
  | _ => .stuck
theorem si_dctI {elts : List Expr} {kk : Nat} {tpos apos : Pos} (ha : SE Y X W a ra) (hbase : attributeBase a "items" X.env (eval a X.env) = eval a X.env := by rfl) (hline : (apos.endLine == pos.line) = true := by rfl) :
    SI Y X W (.Tuple elts kk tpos) (.Call (.Attribute a "items" apos) [] [] pos) (iDctI ra) := by
  obtain ⟨ta, a1, a2⟩ := ha.ex
  refine ⟨_, pi_itemsN (hs := Y.hs) a1 hbase hline, fun F ρ S H σ env Q R E h => a2.then R E h fun d u S1 F1 ρ1 H1 R1 n1 E1 ru o1 => ?_⟩
  cases ru with
  | @loc i a h1 =>
    have o1 : Out X.K Y F1 ρ1 H1 (match S1[i]? with
      | some (.dct kvs) => .ok (kvs.map pairDD) (S1.set i (.dkf kvs))
      | some (.dkf kvs) => .ok (kvs.map pairDD) S1
      | _ => .stuck : Res (List D)) (fun items _ F' ρ' H' => ∀ J, WalksJ X.K Y J F' ρ' items → Q J H') (fun c H' => W c none σ H') := o1
    cases e : S1[i]? with
    | none => rw [e] at o1; exact False.elim o1
    | some c =>
      rw [e] at o1
      cases c with
      | dct kvs =>
        obtain ⟨k1, k0, xs, k2, k4, k5, k3⟩ := R1.cell i _ _ h1 e
        refine ⟨a, xs, rfl, k0, .inl ⟨k2, fun od => ?_⟩⟩
        obtain ⟨R2, n2⟩ := R1.lockD h1 e k2 od k1 k0 k4 k5 k3
        exact o1 _ _ _ R2 n2 _ (walks_Ni upd_same (k3.mono n2.ex n2.pre))
      | dkf kvs =>
        obtain ⟨od, xs, k1, k0, k4, k5, k3⟩ := R1.cell i _ _ h1 e
        exact ⟨a, xs, rfl, k0, .inr ⟨od, R1.ex _ _ k1, Out.now o1 R1 _ (walks_Ni k1 k3)⟩⟩
      | _ => exact False.elim o1
  | _ => exact False.elim o1
/-! ### (a, b, ..), c as a target -/
theorem tg_two {k1 k2 : Nat} {p1 p2 : Pos} {is : List Nat} (j : Nat) {x : Str} (hc : X.calm = true) (h : STgs X es is) (hN : X.N.Nodup)
    (hi : X.N[j]? = some x := by rfl) (hx : Loc X.env.scope x := by first | exact Or.inl rfl | exact Or.inr rfl) (hf : X.fn x = true ∨ X.env.scope.names.lookup x = some .local := by first | exact .inl rfl | exact .inr rfl)
    (hn1 : (assignEach es X.env).length = is.length := by rfl) (hst1 : (assignEach es X.env).findIdx? (·.1) = none := by rfl)
    (hs1 : (assignEach [.Name x p2] X.env).map (·.2) = assign (.Name x p2) X.env :: (assignEach [] X.env).map (·.2) := by rfl)
    (hs2 : (assignEach [.Tuple es k1 p1, .Name x p2] X.env).map (·.2) = assign (.Tuple es k1 p1) X.env :: (assignEach [.Name x p2] X.env).map (·.2) := by rfl)
    (hn2 : (assignEach [.Tuple es k1 p1, .Name x p2] X.env).length = 2 := by rfl) (hst2 : (assignEach [.Tuple es k1 p1, .Name x p2] X.env).findIdx? (·.1) = none := by rfl) :
    STg X (.Tuple [.Tuple es k1 p1, .Name x p2] k2 pos) (.two is j) := by
  obtain ⟨g, h1, h2⟩ := h.ex
  refine ⟨_, pg_tup hc (pgs_cons (pg_tup hc h1 hn1 hst1) (pgs_cons (pg_name hN hi hx hf) pgs_nil hs1) hs2) hn2 hst2, fun F ρ H H0 σ env env' u d Q ex E r h k => ?_⟩
  cases r with
  | @tup a xs ds h3 h4 =>
    have h : (match ds with
      | [.tup ds, x] => (setAll env is ds).map fun e => e.set j (some x)
      | _ => none) = some env' := by
      rcases ds with _ | ⟨d1, _ | ⟨d2, _ | ⟨d3, ds⟩⟩⟩
      · cases h
      · cases d1 <;> cases h
      · cases d1 <;> first | exact h | cases h
      · cases d1 <;> cases h
    cases h4 with
    | nil => cases h
    | cons r1 rr =>
      cases rr with
      | nil => cases r1 <;> cases h
      | cons r2 rr =>
        cases rr with
        | cons _ _ => cases r1 <;> cases h
        | nil =>
          cases r1 with
          | @tup a1 xs1 ds1 g3 g4 =>
            cases e : setAll env is ds1 with
            | none => have h : (setAll env is ds1).map _ = some env' := h; rw [e] at h; cases h
            | some env1 =>
              have h : (setAll env is ds1).map _ = some env' := h
              rw [e] at h
              cases h
              have sl : ∀ {is : List Nat} {ds : List D} {env env' : Ev}, setAll env is ds = some env' → ds.length = is.length := fun {is} => by
                induction is with
                | nil => intro ds env env' h; cases ds with
                  | nil => rfl
                  | cons _ _ => cases h
                | cons i is ih => intro ds env env' h; cases ds with
                  | nil => cases h
                  | cons d ds => simp [ih h]
              refine ⟨_, _, rfl, ex_t ex h3, rfl, _, _, rfl, ⟨_, _, rfl, ex_t ex g3, ?_, h2 F ρ H σ env env1 _ _ _ E g4 e fun σ' E' o => ⟨_, _, rfl, ⟨rfl, ?_⟩⟩⟩⟩
              · rw [g4.length]; exact sl e
              · refine k _ (E'.set j r2) ⟨by simp [o.1], fun q hq => ?_⟩
                have hq1 : q ≠ j := fun z => hq (by rw [z]; exact List.mem_cons_self)
                have hq2 : q ∉ is := fun z => hq (List.mem_cons_of_mem _ z)
                rw [List.getElem?_set_ne (Ne.symm hq1)]
                exact o.2 q hq2
          | _ => cases h
  | _ => cases h
end
end L3
set_option Elab.async false
set_option linter.all false
set_option maxRecDepth 100000
set_option maxHeartbeats 4000000
/-! list(range(a, b)), sum, sorted of whole numbers -/
namespace L3
open PySem PySem.Spec L2 PyProof.Rows
section
variable {Y : Pc} {X : Cx} {W : WX} {a b e v tg iter : Expr} {es : List Expr} {pos : Pos} {K : PySem.W.Frag} {F H : Hp} {ρ : List Addr} {S : Store} {ra rb : Ev → Store → Res D} {rs : Ev → Store → Res (List D)} {pins : List (Addr × Obj)} {σ : L2.St} {s : Shared}
def rgI (i j : Int) : List Int := (List.range (j - i).toNat).map fun k => i + (k : Nat)
def lRg2D : Op2 := fun _ x y => match x, y with
  | .int i, .int j => if 0 ≤ i ∧ i ≤ 1000000 ∧ 0 ≤ j ∧ j ≤ 1000000 then some (.lst ((rgI i j).map .int)) else none
  | _, _ => none
theorem rgV_map (i j : Int) : rgV i j = (rgI i j).map V.int := by
  unfold rgV rgI
  rw [List.map_map]
  rfl
theorem se_listRg2 {q1 q2 p2 : Pos} {k : Nat} (C : Ok X W k) (m1 : X.mg "list" = none) (m2 : X.mg "range" = none) (ha : SE Y X W a ra) (hb : SE Y X W b rb) (g1 : Gl X "list" := by rfl) (g2 : Gl X "range" := by rfl)
    (na : starEach [a, b] X.env = (false, eval a X.env) :: starEach [b] X.env := by rfl) (nb : starEach [b] X.env = (false, eval b X.env) :: starEach [] X.env := by rfl) (hp : (backTo p2 (starEach [b] X.env)).any (·.1) = false := by rfl)
    (nc : starEach [.Call (.Name "range" q2) [a, b] [] p2] X.env = (false, eval (.Call (.Name "range" q2) [a, b] [] p2) X.env) :: starEach [] X.env := by rfl) :
    SE Y X W (.Call (.Name "list" q1) [.Call (.Name "range" q2) [a, b] [] p2] [] pos) (r2 lRg2D ra rb) := by
  obtain ⟨ta, a1, a2⟩ := ha.ex
  obtain ⟨tb, b1, b2⟩ := hb.ex
  refine ⟨_, pe_listRg C.calm g1 m1 (prg_2 g2 m2 a1 b1 na nb hp) nc, fun F ρ S H σ env Q R E h => ?_⟩
  refine a2.then R E h fun d u S1 F1 ρ1 H1 R1 n1 E1 ru o1 => b2.then R1 E1 o1 fun d' u' S2 F2 ρ2 H2 R2 n2 E2 ru' o2 => ?_
  obtain ⟨z, hz, kk⟩ := lift_out o2
  cases ru <;> try (cases hz; done)
  cases ru' <;> try (cases hz; done)
  rename_i i j
  have hz : (if 0 ≤ i ∧ i ≤ 1000000 ∧ 0 ≤ j ∧ j ≤ 1000000 then some (D.lst ((rgI i j).map .int)) else none) = some z := hz
  by_cases hl : 0 ≤ i ∧ i ≤ 1000000 ∧ 0 ≤ j ∧ j ≤ 1000000
  · rw [if_pos hl] at hz; cases hz
    refine ⟨i, j, rfl, rfl, ⟨by omega, by omega, by omega, by omega, by omega⟩, fun q hq => ?_⟩
    rw [rgV_map]
    exact now_lst R2 (rd_ints _) hq fun F' H' u R' n' r' => kk F' ρ2 H' R' n' u r'
  · rw [if_neg hl] at hz; cases hz
def sumD : OpN := fun S xs => match xs with
  | [x] => (seqD S x).bind fun ds => (intsOf ds).map fun ns => .int ns.sum
  | _ => none
theorem scall_sum {k : Nat} (C : Ok X W k) : SCall Y X (.builtin "sum") sumD := ⟨_, cr_sum C.calm, fun F ρ S H xs ds d Q R rx e k => by
  match ds, rx, e with
  | [x], .cons r .nil, e =>
    have e : ((seqD S x).bind fun ds => (intsOf ds).map fun ns => D.int ns.sum) = some d := e
    cases e1 : seqD S x with
    | none => rw [e1] at e; cases e
    | some ds =>
      rw [e1] at e
      have e : ((intsOf ds).map fun ns => D.int ns.sum) = some d := e
      cases e2 : intsOf ds with
      | none => rw [e2] at e; cases e
      | some ns =>
        rw [e2] at e; cases e
        obtain ⟨p, ys, rfl, hp, hx⟩ := seq_rd R r e1
        have ex := ints_rd hx e2
        subst ex
        exact ⟨p, ns, rfl, SqL.of hp, now_int R k⟩⟩
def insZ (x : Int) : List Int → List Int
  | [] => [x]
  | y :: r => if x ≤ y then x :: y :: r else y :: insZ x r
def sortZ (ns : List Int) : List Int := ns.foldr insZ []
theorem insZ_perm (x : Int) : ∀ l : List Int, (insZ x l).Perm (x :: l)
  | [] => .refl _
  | y :: r => by
    unfold insZ
    split
    · exact .refl _
    · exact ((insZ_perm x r).cons y).trans (.swap x y r)
theorem insZ_up {x : Int} : ∀ {l : List Int}, l.Pairwise (· ≤ ·) → (insZ x l).Pairwise (· ≤ ·)
  | [], _ => List.pairwise_singleton _ _
  | y :: r, h => by
    obtain ⟨h1, h2⟩ := List.pairwise_cons.mp h
    unfold insZ
    split
    · rename_i hl
      refine List.pairwise_cons.mpr ⟨fun z hz => ?_, h⟩
      rcases List.mem_cons.mp hz with e | hz
      · rw [e]; exact hl
      · have := h1 z hz; omega
    · rename_i hl
      refine List.pairwise_cons.mpr ⟨fun z hz => ?_, insZ_up h2⟩
      rcases List.mem_cons.mp ((insZ_perm x r).mem_iff.mp hz) with e | hz
      · rw [e]; omega
      · exact h1 z hz
theorem sortZ_perm : ∀ l : List Int, (sortZ l).Perm l
  | [] => .refl _
  | x :: l => (insZ_perm x _).trans ((sortZ_perm l).cons x)
theorem sortZ_up : ∀ l : List Int, (sortZ l).Pairwise (· ≤ ·)
  | [] => .nil
  | x :: l => insZ_up (sortZ_up l)
theorem sortZ_eq {l m : List Int} (p : m.Perm l) (u : m.Pairwise (· ≤ ·)) : m = sortZ l :=
  (p.trans (sortZ_perm l).symm).eq_of_pairwise (fun a b _ _ h1 h2 => by omega) u (sortZ_up l)
def sortZD : OpN := fun S xs => match xs with
  | [x] => (seqD S x).bind fun ds => (intsOf ds).bind fun ns => if ns.length < 64 then some (.lst ((sortZ ns).map .int)) else none
  | _ => none
theorem scall_sortZ {k : Nat} (C : Ok X W k) : SCall Y X (.builtin "sorted") sortZD := ⟨_, cr_sorted, fun F ρ S H xs ds d Q R rx e k => by
  match ds, rx, e with
  | [x], .cons r .nil, e =>
    have e : ((seqD S x).bind fun ds => (intsOf ds).bind fun ns => if ns.length < 64 then some (D.lst ((sortZ ns).map .int)) else none) = some d := e
    cases e1 : seqD S x with
    | none => rw [e1] at e; cases e
    | some ds =>
      rw [e1] at e
      have e : ((intsOf ds).bind fun ns => if ns.length < 64 then some (D.lst ((sortZ ns).map .int)) else none) = some d := e
      cases e2 : intsOf ds with
      | none => rw [e2] at e; cases e
      | some ns =>
        rw [e2] at e
        have e : (if ns.length < 64 then some (D.lst ((sortZ ns).map .int)) else none) = some d := e
        by_cases h : ns.length < 64
        · rw [if_pos h] at e; cases e
          obtain ⟨p, ys, rfl, hp, hx⟩ := seq_rd R r e1
          have ex := ints_rd hx e2
          subst ex
          refine ⟨p, ns, rfl, SqL.of hp, h, fun zs q hz hs hq => ?_⟩
          have := sortZ_eq hz hs
          subst this
          exact now_lst R (rd_ints _) hq k
        · rw [if_neg h] at e; cases e⟩
end
end L3
set_option Elab.async false
set_option linter.all false
set_option maxRecDepth 100000
set_option maxHeartbeats 4000000
/-! sorted of data, sorted(d.values()) of one entry, len(set(..)), str of a list; dicts whose keys are texts -/
namespace L2
open PySem PySem.Spec PyProof.Rows PySem.W PySem.Calls
section
variable {X : Cx} {a e : Expr} {pos apos cpos : Pos}
/-! ### sorted of data -/
def rSortP (K : PySem.W.Frag) : List V → Hp → VK → Prop := fun vs H Q => ∃ (l : Addr) (xs : List V) (ds : List PyData), vs = [.ref l] ∧ SqL K H l xs ∧ DpAll K H xs ds ∧ xs.length ≤ 10000000 ∧ AllAlike ds ∧ PySem.W.Sortable ds ∧ (∀ d ∈ ds, d.depth ≤ 60) ∧
  ∀ p, H p = none → Q (.ref p) (upd H p (.lst (((xs.zip ds).mergeSort (dataLe false Prod.snd)).map Prod.fst)))
theorem each_zip {R : Value → V × PyData → Prop} (hR : ∀ v u d, RelV v u → R u (v, d)) : ∀ {xs : List V} {ds : List PyData} {us : List Value}, Vals xs us → xs.length = ds.length → EachIs R us (xs.zip ds)
  | [], [], _, .nil, _ => .nil
  | x :: xs, d :: ds, _, .cons r t, h => .cons (hR _ _ _ r) (each_zip hR t (by simpa using h))
theorem dpAll_len {K : PySem.W.Frag} {H : Hp} : ∀ {xs : List V} {ds : List PyData}, DpAll K H xs ds → xs.length = ds.length
  | _, _, .nil => rfl
  | _, _, .cons _ t => by simp [dpAll_len t]
theorem each_reads {pins : List (Addr × Obj)} {σ : St} {H : Hp} {s : Shared} (I : Inv X pins σ H s) : ∀ {xs : List V} {ds : List PyData} {us : List Value}, DpAll X.K H xs ds → Vals xs us → EachIs (fun u (b : V × PyData) => ∃ as, Reads s.heap u b.2 as) us (xs.zip ds)
  | _, _, _, .nil, .nil => .nil
  | _, _, _, .cons d t, .cons r rs => .cons (Dp.reads I _ _ _ d r) (each_reads I t rs)
theorem each_vals : ∀ {us : List Value} {bs : List (V × PyData)}, EachIs (fun u (b : V × PyData) => RelV b.1 u) us bs → Vals (bs.map Prod.fst) us
  | _, _, .nil => .nil
  | _, _, .cons r t => .cons r (each_vals t)
theorem zip_snd {α β : Type} : ∀ {xs : List α} {ds : List β}, xs.length = ds.length → (xs.zip ds).map Prod.snd = ds
  | [], [], _ => rfl
  | x :: xs, d :: ds, h => by simp [zip_snd (show xs.length = ds.length by simpa using h)]
theorem cr_sortP (hu : X.A.units + 64 < cLine) : CallR X (.builtin "sorted") (rSortP X.K) := by
  intro pins s σ H vs us Q I r h
  obtain ⟨l, xs, ds, rfl, hq, dp, hl, al, so, de, q⟩ := h
  rw [Vals.ref1 r]
  obtain ⟨its, rv, pl, hz⟩ := I.list hq
  have hlen := dpAll_len dp
  have sn := zip_snd hlen
  have bl : (xs.zip ds).length = xs.length := by rw [List.length_zip, hlen, Nat.min_self]
  refine sorted_data (enc := Prod.snd) (R := fun u (b : V × PyData) => RelV b.1 u) pl.isList (each_zip (fun _ _ _ z => z) rv hlen) (each_reads I dp rv) (by rw [sn]; exact al) (by rw [sn]; exact so) (by rw [bl]; exact Nat.le_trans hl (by rw [sizeLine_eq]; omega)) (fun b hb => ?_) fun out ho hr => ?_
  · have m : b.2 ∈ ds := by rw [← sn]; exact List.mem_map.mpr ⟨b, hb, rfl⟩
    have := de _ m
    omega
  · obtain ⟨ep, he⟩ := PyProof.Rows.sortedAll_at s.heap its out.toArray
    have hv := each_vals hr
    have h3 : (((xs.zip ds).mergeSort (dataLe false Prod.snd)).map Prod.fst).length ≤ sizeLine := by
      rw [List.length_map, List.length_mergeSort, bl, sizeLine_eq]; omega
    exact ⟨.ref _, upd H (s.heap.objs.size + 1) (.lst (((xs.zip ds).mergeSort (dataLe false Prod.snd)).map Prod.fst)), I.laid (t' := s.toks) (fun _ _ => PyProof.Rows.sortedAll_old) (Nat.le_succ _) ⟨h3, out, ep, hv, he⟩, rfl, q _ (I.hok.fresh (Nat.le_succ _))⟩
/-! ### len of a set of ints -/
def rLenSet (w : World) : List V → Hp → VK → Prop := fun vs H Q => ∃ (p : Addr) (S : Int → Bool) (n : Nat), vs = [.ref p] ∧ H p = some (SetO w p S n) ∧ n ≤ 1000 ∧ ∀ ks : List Int, ks.Nodup → (∀ k, k ∈ ks ↔ S k = true) → ks.length = n → Q (.int n) H
theorem cr_lenSet : CallR X (.builtin "len") (rLenSet X.w) := by
  intro pins s σ H vs us Q I r h
  obtain ⟨p, S, n, rfl, ha, hn, q⟩ := h
  have R := setO_get I ha
  rw [Vals.ref1 r]
  obtain ⟨o, es, ep, t, ho, hex, hd, g, nd, hm, hb, hf, e, _⟩ := R
  exact call_len_set ho hex hd hf (by omega) ⟨.int n, H, I.tok _, ⟨_, by rw [e]⟩, q (es.toList.map keyOf) nd (fun k => (hm k).symm) (by simp [e])⟩
/-! ### str of a list -/
def rStrP (K : PySem.W.Frag) : List V → Hp → VK → Prop := fun vs H Q => ∃ (p : Addr) (d : PyData), vs = [.ref p] ∧ Dp K H (.ref p) d ∧ d.canLay0 = true ∧ d.showable = true ∧ d.depth ≤ 60 ∧ d.shown.length ≤ 1000 ∧ Q (.str d.shown) H
theorem cr_strP (gd : X.A.guards = some []) (hu : X.A.units + 64 < cLine) : CallR X (.type "str") (rStrP X.K) := by
  intro pins s σ H vs us Q I r h
  obtain ⟨p, d, rfl, dp, lay, sh, de, ln, q⟩ := h
  rw [Vals.ref1 r]
  obtain ⟨as, rd⟩ := Dp.reads I d (.ref p) (.ref p) dp rfl
  exact str_of_reads rd sh (PyData.noDict_hsm (PyData.hasDict_of_canLay d lay)) gd (by omega) (fun _ _ e => e) (fun h' u tk hk => ⟨.str d.shown, H, I.kept (t' := tk) hk, ⟨_, rfl⟩, q⟩) (Nat.le_trans ln (by rw [sizeLine_eq]; omega))
/-! ### d.values(), and sorted of it -/
abbrev VwO (q d : Addr) : HO := .ext fun h => h.IsValuesView q d
def tVw (td : TE) : TE := fun σ H Q => td σ H fun x H1 => ∃ d kvs, x = .ref d ∧ H1 d = some (.dK kvs) ∧ ∀ q, H1 q = none → Q (.ref q) (upd H1 q (VwO q d))
theorem pe_vw {td : TE} (he : PE X e td) (hbase : attributeBase e "values" X.env (eval e X.env) = eval e X.env := by rfl) (hline : (apos.endLine == cpos.line) = true := by rfl) : PE X (.Call (.Attribute e "values" apos) [] [] cpos) (tVw td) := by
  refine ⟨fun pins s σ H Q I h => ?_⟩
  refine wpAny_Call_method (T := "dict") (id := "dict.values") hbase rfl hline F.plainAttrs_dict F.slot_dict_values F.type_dict_values (thn (he.run pins s σ H _ I h) fun u s1 ⟨x, H1, I1, rx, d, kvs, ex, hd, q⟩ => ?_)
  subst ex
  obtain rfl : u = Value.ref d := rx
  obtain ⟨z, hs, vs, kv, dof⟩ := dk_of I1.hok hd
  refine ⟨dof.typeIs, dof.mapOf.noDict, ?_⟩
  show wpAny _ _ (callWith cpos (.builtin "dict.values") [.ref d] [] []) _ X.xe s1
  have new : (s1.heap.push { cls := .type "dict_values", data := .fields #[.ref d] }).IsValuesView s1.heap.objs.size d := ⟨_, Heap.get?_push_size _ rfl, rfl, rfl⟩
  refine Calls.callWith_builtin rfl (PySem.evalArgs_none ?_)
  refine call_meetsIn F.slot_dict_values dof.typeIs F.entry_dict_values (F.args_dict_values_1 _) (meets_dict_values (mixKind X.prog X.w) d hs) ⟨⟨vs, dof⟩, ?_⟩
  exact ⟨.ref s1.heap.objs.size, upd H1 s1.heap.objs.size (VwO s1.heap.objs.size d), I1.laid (t' := s1.toks) (fun b u e => Heap.get?_push_of_some _ e) (Nat.le_refl _) ⟨new, ⟨_, Heap.get?_push_size _ rfl⟩, fun h1 h2 ⟨o, ho, r⟩ k => ⟨o, k o ho, r⟩⟩, rfl, q _ (I1.hok.fresh (Nat.le_refl _))⟩
def rSortVw (K : PySem.W.Frag) : List V → Hp → VK → Prop := fun vs H Q => ∃ (p d : Addr) (k : Key) (v : V) (x : PyData), vs = [.ref p] ∧ H p = some (VwO p d) ∧ H d = some (.dK [(k, v)]) ∧ Dp K H v x ∧ PySem.W.alike x x = true ∧ PySem.W.Sortable [x] ∧ x.depth ≤ 60 ∧
  ∀ q, H q = none → Q (.ref q) (upd H q (.lst [v]))
theorem cr_sortVw (hc : X.calm = true) (hu : X.A.units + 64 < cLine) : CallR X (.builtin "sorted") (rSortVw X.K) := by
  intro pins s σ H vs us Q I r h
  obtain ⟨p, d, k, v, x, rfl, hp, hd, dp, al, so, de, q⟩ := h
  rw [Vals.ref1 r]
  obtain ⟨vw, _, _⟩ : ObjOk X.prog X.w H s.heap p (VwO p d) := I.hok p _ hp
  obtain ⟨z, hs, ws, kv, dof⟩ := dk_of I.hok hd
  obtain ⟨ep, hat⟩ := dof.dictAt
  cases kv with
  | @cons _ w1 _ wr h1 h2 =>
    cases h2
    obtain ⟨k1, u⟩ := w1
    obtain ⟨e1, ru⟩ := h1
    have ru : RelV v u := ru
    refine call_function_entry kind_sorted plain_sorted entry_sorted (args_sorted1 _) ?_
    unfold Builtin.«sorted»
    refine wpAny_bind (m := checkCount "sorted" 1 1 _) (wpAny_pure ?_)
    refine wpAny_bind (kdu_collect (A := X.A.in1) (kdl_values (knd := mixKind X.prog X.w) (r := p) (d := d) (kvs := [(k1, u)]) (ep := ep)) (I.ok.hd hc) ⟨vw, hat⟩ (by rw [sizeLine_eq]; show 1 ≤ _; omega) fun h' tk acc hk hacc => ?_)
    have ea : acc.toList = [u] := by
      have n1 : acc.toList.length = 1 := by rw [Array.length_toList]; exact hacc.1
      obtain ⟨y, ey⟩ := List.length_eq_one_iff.mp n1
      obtain ⟨k2, e2⟩ := hacc.2 0 y (by rw [← Array.getElem?_toList, ey]; rfl)
      cases e2
      exact ey
    rw [ea]
    refine wpAny_bind (wpAny_newList ?_ (by rw [sizeLine_eq]; show 1 ≤ _; omega))
    obtain ⟨as, rd⟩ := Dp.reads I x v u dp ru
    have hD : ∀ b ∈ as, b ≠ h'.objs.size := fun b hb => by
      obtain ⟨o, ho⟩ := PyProof.On.reads_mem_get rd b hb
      exact Nat.ne_of_lt (Heap.lt_size (hk b o ho))
    have gone : s.heap.get? h'.objs.size = none := by
      cases q : s.heap.get? h'.objs.size with
      | none => rfl
      | some o => exact absurd (Heap.lt_size (hk _ o q)) (Nat.lt_irrefl _)
    have keep : ∀ b o, s.heap.get? b = some o → (h'.push { cls := .type "list", data := .seq [u].toArray }).get? b = some o := fun b o e => Heap.get?_push_of_some _ (hk b o e)
    have er : EachIs (fun y (b : Unit) => ∃ as, Reads (h'.push { cls := .type "list", data := .seq [u].toArray }) y x as ∧ h'.objs.size ∉ as) [u] [()] := .cons ⟨as, PyProof.Rows.Reads.keeps keep rd, fun m => hD _ m rfl⟩ .nil
    have hob : (h'.push { cls := .type "list", data := .seq [u].toArray }).get? h'.objs.size = some (seqObj "list" [u].toArray 0) := Heap.get?_push_size _ rfl
    refine wpAny_bind (wpAny_holding ?_)
    refine list_sort_data (s := { s with heap := h'.push { cls := .type "list", data := .seq [u].toArray }, toks := tk }) (enc := fun _ => x) (R := fun y (_ : Unit) => y = u) (bs := [()]) hob (.cons rfl .nil) er
      (fun d1 m1 d2 m2 => by rw [List.mem_singleton.mp m1, List.mem_singleton.mp m2]; exact al) so (by rw [sizeLine_eq]; show 1 ≤ _; omega) (fun b _ => by show X.A.in1.units + 1 + x.depth < _; show X.A.units + 1 + 1 + x.depth < _; omega) fun out ho hr => ?_
    have eo : out = [u] := by
      obtain ⟨y, ey⟩ := List.length_eq_one_iff.mp ho
      subst ey
      rw [List.mergeSort_singleton] at hr
      cases hr with
      | cons e _ => rw [e]
    subst eo
    obtain ⟨ep2, he⟩ := PyProof.Rows.sortedHeap_at (vs := [u]) (out := [u].toArray) hob
    refine wpAny_pure ⟨_, rfl, .ref h'.objs.size, upd H h'.objs.size (.lst [v]), I.laidN (t' := tk) (fun b o e => ?_) gone (I.hok.gone gone) ⟨by rw [sizeLine_eq]; show 1 ≤ _; omega, [u], ep2, .cons ru .nil, he⟩, rfl, q _ (I.hok.gone gone)⟩
    have lt := Heap.lt_size (hk b o e)
    rw [PyProof.Rows.sortedHeap_old (Nat.ne_of_lt lt) (Heap.lt_size (keep b o e))]
    exact keep b o e
/-! ### dicts whose keys are texts -/
def rKIn (neg : Bool) : R2 := fun y x H Q => ∃ d o, x = .ref d ∧ DGet H d y o ∧ Q (.bl (o.isSome != neg)) H
theorem op_kIn (hu : X.A.units + 64 < cLine) : OpR X (compareOp .In) (rKIn false) := by
  intro pins s σ H y x v u Q I ry rx h
  obtain ⟨d, o, rfl, g, q⟩ := h
  obtain rfl : u = Value.ref d := rx
  exact d_in (by omega) I g ry fun s3 I3 => ⟨.bl _, H, I3, by show Value.bool _ = Value.bool _; simp, q⟩
theorem op_kNin (hu : X.A.units + 64 < cLine) : OpR X (compareOp .NotIn) (rKIn true) := by
  intro pins s σ H y x v u Q I ry rx h
  obtain ⟨d, o, rfl, g, q⟩ := h
  obtain rfl : u = Value.ref d := rx
  exact d_notIn (by omega) I g ry fun s3 I3 => ⟨.bl _, H, I3, by show Value.bool _ = Value.bool _; simp, q⟩
end
end L2
set_option Elab.async false
set_option linter.all false
set_option maxRecDepth 100000
set_option maxHeartbeats 4000000
/-! what is never reached; dicts whose keys are texts (one entry at most); sorted of data; str of a list; len(set(..)); list(range(n)); == where lists of the store lie in a list -/
namespace L3
open PySem PySem.Spec L2 PyProof.Rows
section
variable {Y : Pc} {X : Cx} {W : WX} {a b e v : Expr} {es : List Expr} {sts : List Stmt} {pos : Pos} {K : PySem.W.Frag} {F H : Hp} {ρ : List Addr} {S : Store} {ra rb : Ev → Store → Res D} {rs : Ev → Store → Res (List D)}
def sStuck : SM := fun _ _ => none
theorem sss_stuck : SSs Y X W sts sStuck := ⟨fun _ _ _ => False, ⟨fun _ _ _ _ _ _ h => h.elim⟩, fun _ _ _ _ _ _ _ _ _ h => h⟩
/-! ### text keys -/
def rTdk0 : Ev → Store → Res D := fun _ S => .ok (.loc S.length) (S ++ [.tdk [] []])
theorem se_tdk0 : SE Y X W (.Dict [] [] pos) rTdk0 := ⟨_, pe_dnewK, fun F ρ S H σ env Q R E h p hp => by
  have fp : F p = none := by
    cases e : F p with
    | none => rfl
    | some u => rw [R.ex p u e] at hp; cases hp
  obtain ⟨R2, n2, e2⟩ := R.alloc (o := .dK []) (cc := .tdk [] []) hp ⟨fp, [], upd_same, rfl, .nil⟩
  exact h _ _ _ R2 n2 _ (.loc e2)⟩
theorem tx_injT {s t : List Nat} (h : tx s = tx t) : s = t := by
  have : (tx s).cps.toList = (tx t).cps.toList := by rw [h]
  simpa using this
theorem tdk_nil {i : Nat} {p : Addr} (R : SR K Y F ρ S H) (hi : ρ[i]? = some p) (e : S[i]? = some (.tdk [] [])) : F p = none ∧ H p = some (.dK []) := by
  obtain ⟨k1, xs, k2, k4, k3⟩ := R.cell i _ _ hi e
  cases xs with
  | nil => exact ⟨k1, k2⟩
  | cons _ _ => cases k4
theorem tdk_one {i : Nat} {p : Addr} {k : List Nat} {d : D} (R : SR K Y F ρ S H) (hi : ρ[i]? = some p) (e : S[i]? = some (.tdk [k] [d])) : F p = none ∧ ∃ v, H p = some (.dK [(Sum.inr (tx k), v)]) ∧ RD K F ρ v d := by
  obtain ⟨k1, xs, k2, k4, k3⟩ := R.cell i _ _ hi e
  match xs, k2, k4, k3 with
  | [(q, v)], k2, k4, .cons r .nil =>
    cases k4
    exact ⟨k1, v, k2, r⟩
theorem val_one {k s : List Nat} {v : V} : valV [((Sum.inr (tx k) : Key), v)] (Sum.inr (tx s)) = if k = s then some v else none := by
  by_cases h : k = s
  · subst h; rw [if_pos rfl]; exact valV_pos rfl
  · rw [if_neg h, valV_neg (fun z => h (tx_injT (Sum.inr.inj z)))]; rfl
def tinD (neg : Bool) : Op2 := fun S x y => match x, y with
  | .str s, .loc i => match S[i]? with
    | some (.tdk [] []) => some (.bl (false != neg))
    | some (.tdk [k] [_]) => some (.bl (decide (k = s) != neg))
    | _ => none
  | _, _ => none
theorem tin_ok (neg : Bool) : OpOk K Y (tinD neg) (rKIn neg) := fun F ρ S H x y dx dy d Q R rx ry e k => by
  cases rx <;> try (cases e; done)
  rename_i s hs
  cases ry with
  | @loc i p hi =>
    have e : (match S[i]? with
      | some (.tdk [] []) => some (.bl (false != neg))
      | some (.tdk [k] [_]) => some (.bl (decide (k = s) != neg))
      | _ => none) = some d := e
    split at e
    · rename_i e1
      cases e
      obtain ⟨_, q⟩ := tdk_nil R hi e1
      exact ⟨p, none, rfl, DGet.k (k := Sum.inr (tx s)) q, now_bl R k⟩
    · rename_i k' d' e1
      cases e
      obtain ⟨_, v, q, r⟩ := tdk_one R hi e1
      have g := DGet.k (k := Sum.inr (tx s)) q
      rw [val_one] at g
      refine ⟨p, _, rfl, g, ?_⟩
      by_cases h : k' = s
      · rw [if_pos h, decide_eq_true h] at *; exact now_bl R k
      · rw [if_neg h, decide_eq_false h] at *; exact now_bl R k
    · cases e
  | _ => cases e
theorem sop_tIn {k : Nat} (C : Ok X W k) : SOp Y X (compareOp .In) (tinD false) := ⟨_, op_kIn C.room.units, tin_ok false⟩
theorem sop_tNin {k : Nat} (C : Ok X W k) : SOp Y X (compareOp .NotIn) (tinD true) := ⟨_, op_kNin C.room.units, tin_ok true⟩
def tgetD : Op2 := fun S x y => match x, y with
  | .loc i, .str s => match S[i]? with
    | some (.tdk [k] [d]) => if k = s then some d else none
    | _ => none
  | _, _ => none
theorem tget_ok : OpOk K Y tgetD (fun x y H Q => ∃ a v, x = .ref a ∧ DGet H a y (some v) ∧ Q v H) := fun F ρ S H x y dx dy d Q R rx ry e k => by
  cases ry <;> try (cases rx <;> cases e; done)
  rename_i s hs
  cases rx with
  | @loc i p hi =>
    have e : (match S[i]? with
      | some (.tdk [k] [d]) => if k = s then some d else none
      | _ => none) = some d := e
    split at e
    · rename_i k' d' e1
      obtain ⟨_, v, q, r⟩ := tdk_one R hi e1
      by_cases h : k' = s
      · rw [if_pos h] at e; cases e
        have g := DGet.k (k := Sum.inr (tx s)) q
        rw [val_one, if_pos h] at g
        exact ⟨p, v, rfl, g, k F H v R (Nx.refl _ _ _) r⟩
      · rw [if_neg h] at e; cases e
    · cases e
  | _ => cases e
theorem se_tgetD {k : Nat} (C : Ok X W k) (ha : SE Y X W a ra) (hb : SE Y X W b rb) (hs : NoSl b := by first | exact fun _ _ => rfl | rfl | decide) : SE Y X W (.Subscript a b pos) (r2 tgetD ra rb) := by
  obtain ⟨ta, a1, a2⟩ := ha.ex
  obtain ⟨tb, b1, b2⟩ := hb.ex
  exact ⟨_, pe_dget (by have := C.room.units; omega) a1 b1 hs, ev_op tget_ok a2 b2⟩
def tsetD : OpSet := fun S o i v => match o, i with
  | .loc j, .str s => match S[j]? with
    | some (.tdk [] []) => some (S.set j (.tdk [s] [v]))
    | some (.tdk [k] [_]) => if k = s then some (S.set j (.tdk [s] [v])) else none
    | _ => none
  | _, _ => none
theorem sset_tdk {k : Nat} (C : Ok X W k) : SSet Y X tsetD := ⟨_, set_dict (by have := C.room.units; omega), fun F ρ S S' H o i v dO dI dV Q R ro ri rv e k => by
  cases ri <;> try (cases ro <;> cases e; done)
  rename_i s hs
  cases ro with
  | @loc j p hi =>
    have e : (match S[j]? with
      | some (.tdk [] []) => some (S.set j (.tdk [s] [dV]))
      | some (.tdk [k] [_]) => if k = s then some (S.set j (.tdk [s] [dV])) else none
      | _ => none) = some S' := e
    split at e
    · rename_i e1
      cases e
      obtain ⟨fp, q⟩ := tdk_nil R hi e1
      have g := DPut.k (k := Sum.inr (tx s)) (v := v) q (by rw [sizeLine_eq]; show 0 < _; omega)
      obtain ⟨R2, n2⟩ := R.write (c := .tdk [s] [dV]) (o := .dK [(Sum.inr (tx s), v)]) hi fp ⟨fp, _, upd_same, rfl, .cons rv .nil⟩
      exact ⟨p, _, rfl, g, k F _ R2 n2⟩
    · rename_i k' d' e1
      by_cases h : k' = s
      · rw [if_pos h] at e; cases e
        subst h
        obtain ⟨fp, w, q, r⟩ := tdk_one R hi e1
        have g := DPut.k (k := Sum.inr (tx k')) (v := v) q (by rw [sizeLine_eq]; show 1 < _; omega)
        have ep : putK [((Sum.inr (tx k') : Key), w)] (Sum.inr (tx k')) v = [(Sum.inr (tx k'), v)] := by simp [putK]
        rw [ep] at g
        obtain ⟨R2, n2⟩ := R.write (c := .tdk [k'] [dV]) (o := .dK [(Sum.inr (tx k'), v)]) hi fp ⟨fp, _, upd_same, rfl, .cons rv .nil⟩
        exact ⟨p, _, rfl, g, k F _ R2 n2⟩
      · rw [if_neg h] at e; cases e
    · cases e
  | _ => cases e⟩
/-! ### sorted(d.values()), one entry -/
def soloD (d : D) : Bool := match d with
  | .tup (_ :: _) => d.flat && PySem.W.alike d.py d.py && decide (d.py.depth ≤ 60)
  | _ => false
def svalsD : Op1 := fun S x => match x with
  | .loc i => match S[i]? with
    | some (.tdk [_] [d]) => if soloD d = true then some (.lst [d]) else none
    | _ => none
  | _ => none
theorem se_svals {q1 apos cpos : Pos} {k : Nat} (C : Ok X W k) (m1 : X.mg "sorted" = none) (ha : SE Y X W a ra) (g1 : Gl X "sorted" := by rfl) (hbase : attributeBase a "values" X.env (eval a X.env) = eval a X.env := by rfl) (hline : (apos.endLine == cpos.line) = true := by rfl)
    (he : starEach [.Call (.Attribute a "values" apos) [] [] cpos] X.env = (false, eval (.Call (.Attribute a "values" apos) [] [] cpos) X.env) :: starEach [] X.env := by rfl) (v1 : bootBuiltins "sorted" = some (.builtin "sorted") := by decide +kernel) :
    SE Y X W (.Call (.Name "sorted" q1) [.Call (.Attribute a "values" apos) [] [] cpos] [] pos) (r1 svalsD ra) := by
  obtain ⟨ta, a1, a2⟩ := ha.ex
  refine ⟨_, pe_callB (cr_sortVw C.calm C.room.units) g1 m1 v1 (pa_cons (pe_vw a1 hbase hline) pa_nil he) (by decide) (by decide) he rfl, fun F ρ S H σ env Q R E h => ?_⟩
  refine a2.then R E h fun d u S1 F1 ρ1 H1 R1 n1 E1 ru o1 => ?_
  obtain ⟨z, hz, kk⟩ := lift_out o1
  cases ru with
  | @loc i p hi =>
    have hz : (match S1[i]? with
      | some (.tdk [_] [d]) => if soloD d = true then some (.lst [d]) else none
      | _ => none) = some z := hz
    split at hz
    · rename_i k' d' e1
      by_cases hs : soloD d' = true
      · rw [if_pos hs] at hz; cases hz
        obtain ⟨fp, v, q, r⟩ := tdk_one R1 hi e1
        refine ⟨p, _, rfl, q, fun w hw => ?_⟩
        have np : p ≠ w := ne_of_none q hw
        obtain ⟨R2, n2⟩ := R1.grown (o := VwO w p) hw
        match d', hs, r with
        | .tup (t :: ts), hs, r =>
          have hs : ((D.tup (t :: ts)).flat && PySem.W.alike (D.tup (t :: ts)).py (D.tup (t :: ts)).py && decide ((D.tup (t :: ts)).py.depth ≤ 60)) = true := hs
          simp only [Bool.and_eq_true, decide_eq_true_eq] at hs
          obtain ⟨⟨s1, s2⟩, s3⟩ := hs
          have dp := (RD.dp R2.ex (r.mono n2.ex n2.pre) s1).1
          refine ⟨w, p, Sum.inr (tx k'), v, (D.tup (t :: ts)).py, rfl, upd_same, by rw [upd_ne np]; exact q, dp, s2, .inl fun x hx => ?_, s3, fun q2 hq2 => ?_⟩
          · rw [List.mem_singleton.mp hx]
            exact ⟨t.py, D.pys ts, rfl⟩
          · exact now_lst R2 (.cons (r.mono n2.ex n2.pre) .nil) hq2 fun F' H' u R' n' r' => kk F' ρ1 H' R' (n2.trans n') u r'
      · rw [if_neg hs] at hz; cases hz
    · cases hz
  | _ => cases hz
/-! ### str of a list -/
def strPD : OpN := fun _ xs => match xs with
  | [.lst ds] => if (D.lst ds).flat = true ∧ (D.lst ds).py.showable = true ∧ (D.lst ds).py.depth ≤ 60 ∧ (D.lst ds).py.shown.length ≤ 1000 ∧ (D.lst ds).py.shown.cps.toList.all (fun c => decide (c < 1114112)) = true then some (.str (D.lst ds).py.shown.cps.toList) else none
  | _ => none
theorem scall_strP {k : Nat} (C : Ok X W k) : SCall Y X (.type "str") strPD := ⟨_, cr_strP C.gd C.room.units, fun F ρ S H xs ds d Q R rx e k => by
  match ds, rx, e with
  | [.lst zs], .cons (.lst h1 h2) .nil, e =>
    unfold strPD at e
    dsimp only at e
    split at e
    · rename_i c
      cases e
      obtain ⟨c1, c2, c3, c4, c5⟩ := c
      obtain ⟨dp, lay⟩ := RD.dp (ρ := ρ) R.ex (.lst h1 h2) c1
      have et : (D.lst zs).py.shown = tx (D.lst zs).py.shown.cps.toList := Str.ext' (by simp)
      refine ⟨_, _, rfl, dp, lay, c2, c3, c4, ?_⟩
      rw [et]
      exact now_str R (fun c hc => by simpa using List.all_eq_true.mp c5 c hc) k
    · cases e⟩
/-! ### len(set(..)) -/
def lenSetD : OpN := fun _ xs => match xs with
  | [.lst ds] => (intsOf ds).bind fun ns => if ns.length < 64 then some (.int ((usort ns).length : Nat)) else none
  | _ => none
theorem nodup_up : ∀ {l : List Int}, l.Pairwise (· ≤ ·) → l.Nodup → l.Pairwise (· < ·)
  | [], _, _ => .nil
  | x :: l, h, n => by
    obtain ⟨a1, a2⟩ := List.pairwise_cons.mp h
    obtain ⟨b1, b2⟩ := List.nodup_cons.mp n
    exact List.pairwise_cons.mpr ⟨fun y m => by
      have := a1 y m
      have : x ≠ y := fun e => b1 (e ▸ m)
      omega, nodup_up a2 b2⟩
theorem nodup_len {ks ns : List Int} (n : ks.Nodup) (h : ∀ k, k ∈ ks ↔ k ∈ ns) : ks.length = (usort ns).length := by
  have e := up_uniq (nodup_up (sortZ_up ks) ((sortZ_perm ks).nodup_iff.mpr n)) (usort_up ns) fun k => by rw [(sortZ_perm ks).mem_iff, h, usort_mem]
  rw [← e, (sortZ_perm ks).length_eq]
theorem se_lenSet {q1 q2 pi : Pos} {k : Nat} (C : Ok X W k) (m1 : X.mg "len" = none) (m2 : X.mg "set" = none) (ha : SA Y X W [e] rs) (v1 : bootBuiltins "len" = some (.builtin "len") := by decide +kernel) (v2 : bootBuiltins "set" = some (.type "set") := by decide +kernel) (g1 : Gl X "len" := by rfl) (g2 : Gl X "set" := by rfl)
    (he : starEach [e] X.env = (false, eval e X.env) :: starEach [] X.env := by rfl) (he2 : starEach [.Call (.Name "set" q2) [e] [] pi] X.env = (false, eval (.Call (.Name "set" q2) [e] [] pi) X.env) :: starEach [] X.env := by rfl) : SE Y X W (.Call (.Name "len" q1) [.Call (.Name "set" q2) [e] [] pi] [] pos) (rCB lenSetD rs) := by
  obtain ⟨ta, a1, a2⟩ := ha.ex
  refine ⟨_, pe_callB cr_lenSet g1 m1 v1 (pa_cons (pe_callTy (cr_setLI C.calm) g2 m2 v2 a1 (by decide) (by decide) he rfl) pa_nil he2) (by decide) (by decide) he2 rfl, fun F ρ S H σ env Q R E h => ?_⟩
  refine a2.then R E h fun ds us S1 F1 ρ1 H1 R1 n1 E1 ru o1 => ?_
  obtain ⟨z, hz, kk⟩ := lift_out o1
  match ds, ru, hz with
  | [.lst zs], .cons (.lst h1 h2) .nil, hz =>
    have hz : ((intsOf zs).bind fun ns => if ns.length < 64 then some (D.int ((usort ns).length : Nat)) else none) = some z := hz
    cases e1 : intsOf zs with
    | none => rw [e1] at hz; cases hz
    | some ns =>
      rw [e1] at hz
      have hz : (if ns.length < 64 then some (D.int ((usort ns).length : Nat)) else none) = some z := hz
      by_cases hl : ns.length < 64
      · rw [if_pos hl] at hz; cases hz
        have ex := ints_rd h2 e1
        subst ex
        refine ⟨_, ns, rfl, SqL.of (R1.ex _ _ h1), by omega, fun a n hn hle => ⟨a, _, n, rfl, upd_same, by omega, fun ks nd mem en => ?_⟩⟩
        have el : n = (usort ns).length := by
          rw [← en]
          exact nodup_len nd fun j => by rw [mem, decide_eq_true_eq]
        subst el
        obtain ⟨R2, n2⟩ := R1.grown (o := SetO X.w a (fun j => decide (j ∈ ns)) (usort ns).length) hn
        exact now_int R2 fun F' H' u R' n' r' => kk F' ρ1 H' R' (n2.trans n') u r'
      · rw [if_neg hl] at hz; cases hz
/-! ### list(range(n)) -/
def lRg1D : Op1 := fun _ x => match x with
  | .int j => if 0 ≤ j ∧ j ≤ 1000000 then some (.lst ((rgI 0 j).map .int)) else none
  | _ => none
theorem se_listRg1 {q1 q2 p2 : Pos} {k : Nat} (C : Ok X W k) (m1 : X.mg "list" = none) (m2 : X.mg "range" = none) (ha : SE Y X W a ra) (g1 : Gl X "list" := by rfl) (g2 : Gl X "range" := by rfl)
    (na : starEach [a] X.env = (false, eval a X.env) :: starEach [] X.env := by rfl)
    (nc : starEach [.Call (.Name "range" q2) [a] [] p2] X.env = (false, eval (.Call (.Name "range" q2) [a] [] p2) X.env) :: starEach [] X.env := by rfl) :
    SE Y X W (.Call (.Name "list" q1) [.Call (.Name "range" q2) [a] [] p2] [] pos) (r1 lRg1D ra) := by
  obtain ⟨ta, a1, a2⟩ := ha.ex
  refine ⟨_, pe_listRg C.calm g1 m1 (prg_1 g2 m2 a1 na) nc, fun F ρ S H σ env Q R E h => ?_⟩
  refine a2.then R E h fun d u S1 F1 ρ1 H1 R1 n1 E1 ru o1 => ?_
  obtain ⟨z, hz, kk⟩ := lift_out o1
  cases ru <;> try (cases hz; done)
  rename_i j
  have hz : (if 0 ≤ j ∧ j ≤ 1000000 then some (D.lst ((rgI 0 j).map .int)) else none) = some z := hz
  by_cases hl : 0 ≤ j ∧ j ≤ 1000000
  · rw [if_pos hl] at hz; cases hz
    refine ⟨j, rfl, ⟨by omega, by omega, by omega, by omega, by omega⟩, fun q hq => ?_⟩
    rw [rgV_map]
    exact now_lst R1 (rd_ints _) hq fun F' H' u R' n' r' => kk F' ρ1 H' R' n' u r'
  · rw [if_neg hl] at hz; cases hz
/-! ### sorted of data -/
def sortOk (ds : List D) : Bool := D.flats ds && ds.all (fun d => match d with
    | .tup (_ :: _) => decide (d.py.depth ≤ 60)
    | _ => false) && ds.all (fun d => ds.all fun e => PySem.W.alike d.py e.py) && decide (ds.length ≤ 10000000)
def sortPD : OpN := fun S xs => match xs with
  | [x] => (seqD S x).bind fun ds => if sortOk ds = true then some (.lst (ds.mergeSort (PySem.W.dataLe false D.py))) else none
  | _ => none
theorem pys_map : ∀ ds : List D, D.pys ds = ds.map D.py
  | [] => rfl
  | d :: ds => by show d.py :: D.pys ds = _; rw [pys_map ds]; rfl
theorem rds_of : ∀ {zs : List (V × D)}, (∀ z ∈ zs, RD K F ρ z.1 z.2) → RDs K F ρ (zs.map Prod.fst) (zs.map Prod.snd)
  | [], _ => .nil
  | z :: zs, h => .cons (h z List.mem_cons_self) (rds_of fun y m => h y (List.mem_cons_of_mem _ m))
theorem rds_zip : ∀ {xs : List V} {ds : List D}, RDs K F ρ xs ds → ∀ z ∈ xs.zip ds, RD K F ρ z.1 z.2
  | _, _, .nil, z, m => by cases m
  | _, _, .cons r rr, z, m => by
    rcases List.mem_cons.mp m with e | m
    · rw [e]; exact r
    · exact rds_zip rr z m
theorem zip_map2 {α β γ : Type} (f : β → γ) : ∀ (xs : List α) (ds : List β), xs.zip (ds.map f) = (xs.zip ds).map fun p => (p.1, f p.2)
  | [], _ => by simp
  | _ :: _, [] => by simp
  | x :: xs, d :: ds => by simp [zip_map2 f xs ds]
theorem rds_sort {xs : List V} {ds : List D} (h : RDs K F ρ xs ds) : RDs K F ρ (((xs.zip (D.pys ds)).mergeSort (PySem.W.dataLe false Prod.snd)).map Prod.fst) (ds.mergeSort (PySem.W.dataLe false D.py)) := by
  have e1 : (xs.zip (D.pys ds)).mergeSort (PySem.W.dataLe false Prod.snd) = ((xs.zip ds).mergeSort (PySem.W.dataLe false fun p : V × D => p.2.py)).map fun p => (p.1, p.2.py) := by
    rw [pys_map, zip_map2]
    exact (List.map_mergeSort (f := fun p : V × D => (p.1, p.2.py)) (l := xs.zip ds) (r := PySem.W.dataLe false fun p : V × D => p.2.py) (s := PySem.W.dataLe false Prod.snd) (fun _ _ _ _ => rfl)).symm
  have e2 : ds.mergeSort (PySem.W.dataLe false D.py) = ((xs.zip ds).mergeSort (PySem.W.dataLe false fun p : V × D => p.2.py)).map Prod.snd := by
    have := List.map_mergeSort (f := Prod.snd) (l := xs.zip ds) (r := PySem.W.dataLe false fun p : V × D => p.2.py) (s := PySem.W.dataLe false D.py) (fun _ _ _ _ => rfl)
    rw [this, zip_snd h.length]
  rw [e1, e2, List.map_map]
  exact rds_of fun z m => rds_zip h z ((List.mergeSort_perm _ _).mem_iff.mp m)
theorem scall_sortP {k : Nat} (C : Ok X W k) : SCall Y X (.builtin "sorted") sortPD := ⟨_, cr_sortP C.room.units, fun F ρ S H xs ds d Q R rx e k => by
  match ds, rx, e with
  | [x], .cons r .nil, e =>
    have e : ((seqD S x).bind fun ds => if sortOk ds = true then some (D.lst (ds.mergeSort (PySem.W.dataLe false D.py))) else none) = some d := e
    cases e1 : seqD S x with
    | none => rw [e1] at e; cases e
    | some ds =>
      rw [e1] at e
      have e : (if sortOk ds = true then some (D.lst (ds.mergeSort (PySem.W.dataLe false D.py))) else none) = some d := e
      by_cases c : sortOk ds = true
      · rw [if_pos c] at e; cases e
        unfold sortOk at c
        simp only [Bool.and_eq_true, decide_eq_true_eq, List.all_eq_true] at c
        obtain ⟨⟨⟨c1, c2⟩, c3⟩, c4⟩ := c
        obtain ⟨p, ys, rfl, hp, hx⟩ := seq_rd R r e1
        refine ⟨p, ys, D.pys ds, rfl, SqL.of hp, (RDs.dp R.ex hx c1).1, by rw [hx.length]; exact c4, fun z1 m1 z2 m2 => ?_, .inl fun z m => ?_, fun z m => ?_, fun q hq => ?_⟩
        · rw [pys_map] at m1 m2
          obtain ⟨y1, n1, rfl⟩ := List.mem_map.mp m1
          obtain ⟨y2, n2, rfl⟩ := List.mem_map.mp m2
          exact c3 y1 n1 y2 n2
        · rw [pys_map] at m
          obtain ⟨y, n, rfl⟩ := List.mem_map.mp m
          have := c2 y n
          match y, this with
          | .tup (t :: ts), _ => exact ⟨t.py, D.pys ts, rfl⟩
        · rw [pys_map] at m
          obtain ⟨y, n, rfl⟩ := List.mem_map.mp m
          have := c2 y n
          match y, this with
          | .tup (t :: ts), h => exact of_decide_eq_true h
        · exact now_lst R (rds_sort hx) hq k
      · rw [if_neg c] at e; cases e⟩
/-! ### == of a list in which lists of the store lie -/
def unl2 (S : Store) : D → D
  | .lst ds => .lst (ds.map (unloc S))
  | d => unloc S d
theorem dp_uns (R : SR K Y F ρ S H) : ∀ {ds : List D} {vs : List V}, RDs K F ρ vs ds → D.flats (ds.map (unloc S)) = true → DpAll K H vs (D.pys (ds.map (unloc S))) ∧ PyData.canLayAll0 (D.pys (ds.map (unloc S))) = true
  | [], _, h, _ => by cases h; exact ⟨.nil, rfl⟩
  | d :: ds, _, h, f => by
    have f : ((unloc S d).flat && D.flats (ds.map (unloc S))) = true := f
    rw [Bool.and_eq_true] at f
    cases h with
    | cons h1 h2 =>
      have q1 := dp_un R h1 f.1
      have q2 := dp_uns R h2 f.2
      refine ⟨.cons q1.1 q2.1, ?_⟩
      show (PyData.canLay0 (unloc S d).py && PyData.canLayAll0 (D.pys (ds.map (unloc S)))) = true
      rw [q1.2, q2.2]
      rfl
theorem dp_un2 {d : D} {v : V} (R : SR K Y F ρ S H) (r : RD K F ρ v d) (f : (unl2 S d).flat = true) : Dp K H v (unl2 S d).py ∧ (unl2 S d).py.canLay0 = true := by
  cases r with
  | lst h1 h2 =>
    have q := dp_uns R h2 f
    exact ⟨.lst (SqL.of (R.ex _ _ h1)) q.1, q.2⟩
  | non => exact dp_un R .non f
  | bl b => exact dp_un R (.bl b) f
  | int i => exact dp_un R (.int i) f
  | str s h => exact dp_un R (.str s h) f
  | tup a b => exact dp_un R (.tup a b) f
  | loc a => exact dp_un R (.loc a) f
  | scr a => exact dp_un R (.scr a) f
  | dct a b c => exact dp_un R (.dct a b c) f
def eqLD : Op2 := fun S x y => if eqPre (unl2 S x) (unl2 S y) = true then some (.bl (PyData.eqv (unl2 S x).py (unl2 S y).py)) else none
theorem sop_eqL {k : Nat} (C : Ok X W k) : SOp Y X (compareOp .Eq) eqLD := ⟨_, op_eqD C.room.units, fun F ρ S H x y dx dy d Q R rx ry e k => by
  unfold eqLD at e
  by_cases h : eqPre (unl2 S dx) (unl2 S dy) = true
  · rw [if_pos h] at e
    cases e
    obtain ⟨f1, f2, d1, d2⟩ := eqPre_ok h
    obtain ⟨p1, l1⟩ := dp_un2 R rx f1
    obtain ⟨p2, l2⟩ := dp_un2 R ry f2
    exact ⟨_, _, p1, p2, shaped_of l1 d1, shaped_of l2 d2, now_bl R k⟩
  · rw [if_neg h] at e; cases e⟩
/-! ### y = [.. for .. in l], l a list of the store that is only read meanwhile -/
theorem ss_setLcL {k : Nat} {elt tgt iter : Expr} {ifs : List Expr} {scope : Scope} {t : Tg} {re : Ev → Store → Res D} {rt : Ev → Store → Res Bool} (i : Nat) {y : Str} {py spos : Pos} (own : List (Str × Nat)) (C : Ok X W k) (hi : SE Y X W iter ra) (ok : blkC X.N X.env.scope scope own = true)
    (hg : ∀ (s : Shared) (H : Hp) (A : Addr) (cl : List (Str × Addr)) (fp : List Addr), STg (XB X scope s H A cl fp) tgt t)
    (ht : ∀ (s : Shared) (H : Hp) (A : Addr) (cl : List (Str × Addr)) (fp : List Addr), Ok (XB X scope s H A cl fp) W0 k → PTs (XB X scope s H A cl fp) ifs (canT X.K Y W0 rt))
    (he : ∀ (s : Shared) (H : Hp) (A : Addr) (cl : List (Str × Addr)) (fp : List Addr), Ok (XB X scope s H A cl fp) W0 k → SE Y (XB X scope s H A cl fp) W0 elt re)
    (hy : X.N[i]? = some y := by rfl) (hyl : X.env.scope.names.lookup y = some .local := by rfl) (hsw : swapsWith (.ListComp elt [⟨tgt, iter, ifs, 0⟩] scope pos) (some (.Name y py)) spos.line X.env = pure true := by exact sw_true rfl rfl rfl (by decide +kernel))
    (hv : ∀ i ∈ t.slots, i ∈ own.map (·.2) := by decide) (hs : ∀ x, foldedSetIterable iter X.env x = pure x := by intro _; rfl) : SS Y X W (.Assign [.Name y py] (.ListComp elt [⟨tgt, iter, ifs, 0⟩] scope pos) spos) (sSet i (rLcL t ra rt re (own.map (·.2)))) := by
  obtain ⟨ta, i1, i2⟩ := hi.ex
  exact ⟨_, ps_setLc (te := canE X.K Y W0 re) C.calm C.nd hy hyl hsw (pi_list i1) (blkOk_by ok) (fun s H A cl fp => (hg s H A cl fp).can) (fun s H A cl fp => ht s H A cl fp (blk_ok C s H A cl fp)) (fun s H A cl fp => (he s H A cl fp (blk_ok C s H A cl fp)).can) hs, ev_set (ev_lcL i2 hv)⟩
end
end L3
set_option Elab.async false
set_option linter.all false
set_option maxRecDepth 100000
set_option maxHeartbeats 4000000
/-! enumerate(tuple) -/
namespace PySem
open Sem (wp)
open AutoSeq1 (wpAny_loadPart')
theorem meets_enum_tup (l : Addr) (items : Array Value) (n : Nat) (dct : Option Addr) (sl : Array (Option Value)) :
    Meets (Builtin.«enumerate.__new__» ⟨[.type "enumerate", .ref l], []⟩) (fun _ R s => s.heap.get? l = some { cls := .type "tuple", dict := dct, data := .seq items n, slots := sl } ∧
      R (.ok (.ret (.ref (s.heap.push { cls := .type "tuple_iterator", data := .fields #[.ref l, .int 0 0] }).objs.size)))
        { s with heap := (s.heap.push { cls := .type "tuple_iterator", data := .fields #[.ref l, .int 0 0] }).push { cls := .type "enumerate", data := .fields #[.none, .bool false, .ref s.heap.objs.size, rawInt 0, .none, .none] } }) :=
  .of_wp fun prog w A R s h => by
    obtain ⟨hp, g, d, tk, os⟩ := s
    obtain ⟨hl, h⟩ := h
    have hsub := sub_enumerate
    have hT : Heap.IsTuple (Shared.heap ⟨hp, g, d, tk, os⟩) l items := ⟨_, hl, rfl, n, rfl⟩
    wp_walk using wpAny_loadPart' hl
    refine wpAny_stack_any fun st => wpAny_pure ?_
    split
    · rename_i c _ _ _ _ _
      cases (c == Value.type "enumerate")
      · wp_walk using wpAny_loadPart' hl, wpAny_pyIter_tuple hT
        exact ⟨_, rfl, h⟩
      · wp_walk using wpAny_loadPart' hl, wpAny_pyIter_tuple hT
        exact ⟨_, rfl, h⟩
    · wp_walk using wpAny_loadPart' hl, wpAny_pyIter_tuple hT
      exact ⟨_, rfl, h⟩
section
variable {prog : Program} {w : World} {A : Around} {E : Value → Shared → Prop} {s : Shared}
theorem call_enum_tup {l : Addr} {items : Array Value} {Q : Value → Shared → Prop} (ht : s.heap.IsTuple l items)
    (h : ∀ h', IsEnum h' (s.heap.objs.size + 1) s.heap.objs.size 0 .none → h'.IsTupleIter s.heap.objs.size l 0 → (∀ b o, s.heap.get? b = some o → h'.get? b = some o) → Q (.ref (s.heap.objs.size + 1)) { s with heap := h' }) :
    wpAny (model prog w) A (call (.type "enumerate") [.ref l]) Q E s := by
  obtain ⟨⟨c, dct, dt, sl⟩, hl, hc, n, hd⟩ := ht
  have hc : c = .type "tuple" := hc
  have hd : dt = .seq items n := hd
  subst hc; subst hd
  refine callType_new F.called_enumerate (by decide) (F.typeCall_enumerate_1 _) (F.newCall_enumerate_1 _) (fun obj => F.args_object_init_2 obj _) F.entry_enumerate_new (meets_enum_tup l items n dct sl) ⟨hl, ?_⟩
  generalize hI : ({ cls := .type "tuple_iterator", data := .fields #[.ref l, .int 0 0] } : Obj) = I
  generalize hN : ({ cls := .type "enumerate", data := .fields #[.none, .bool false, .ref s.heap.objs.size, rawInt 0, .none, .none] } : Obj) = N
  have z : (s.heap.push I).objs.size = s.heap.objs.size + 1 := Heap.size_push ..
  show _ ∧ _
  rw [z]
  have e1 : ((s.heap.push I).push N).get? (s.heap.objs.size + 1) = some N := by
    have q := Heap.get?_push_size (s.heap.push I) (o := N) (by rw [← hN]; rfl)
    rw [z] at q
    exact q
  have e2 : ((s.heap.push I).push N).get? s.heap.objs.size = some I := Heap.get?_push_of_some _ (Heap.get?_push_size _ (by rw [← hI]; rfl))
  subst hI; subst hN
  exact ⟨⟨_, e1, rfl⟩, h _ e1 ⟨_, e2, rfl, rfl⟩ fun b o x => Heap.get?_push_of_some _ (Heap.get?_push_of_some _ x)⟩
end
end PySem
namespace L2
open PySem PySem.Spec PyProof.Rows
/-- each item of the tuple at a (n items) in a new pair -/
def IteT (K : PySem.W.Frag) (a : Addr) (n : Nat) : It :=
  ⟨fun i H => ∃ xs : List V, SqT K H a xs ∧ xs.length = n ∧ i < n, fun i H v H' => ∃ T x, v = .ref T ∧ H T = none ∧ H' = upd H T (.tup [.int (i : Nat), x]) ∧ ∀ xs, SqT K H a xs → xs[i]? = some x, fun i H => ∃ xs : List V, SqT K H a xs ∧ xs.length = n ∧ n ≤ i⟩
theorem turn_enumT {P : Program} {w : World} {K : PySem.W.Frag} {elts : List Expr} {kk : Nat} {tpos : Pos} (a e it : Addr) (n : Nat) :
    Turn P w K (.Tuple elts kk tpos) (IteT K a n) [e, it] e (fun i h => (∃ old, IsEnum h e it ((i : Nat) : Int) old) ∧ h.IsTupleIter it a i ∧ (e ≠ it ∧ e ≠ a ∧ a ≠ it) ∧ i ≤ n) where
  mem := by simp
  obj := fun i h st b hb => by
    obtain ⟨⟨old, he⟩, ⟨o, ho, hc, hd⟩, _⟩ := st
    have e' : b = e ∨ b = it := by simpa using hb
    rcases e' with z | z
    · rw [z]; exact ⟨_, he, fun v q => nomatch q⟩
    · rw [z]; exact ⟨o, ho, fun v q => by rw [hd] at q; cases q⟩
  keep := fun i h h' st k => let ⟨⟨old, he⟩, ⟨o, ho, r⟩, hne⟩ := st; ⟨⟨old, k e (by simp) _ he⟩, ⟨o, k it (by simp) o ho, r⟩, hne⟩
  item := by
    intro X hP hw hK hc i pins s σ H E I hf st hg
    subst hP hw hK
    obtain ⟨⟨old, he⟩, hit, ⟨hne, hne2, hne3⟩, hle⟩ := st
    obtain ⟨xs, hq, hn, hlt⟩ := hg
    obtain ⟨its, rv, p, hz⟩ := I.tuple hq
    have hel : e < s.heap.objs.size := Heap.lt_size he
    have hil : it < s.heap.objs.size := by obtain ⟨_, q, _⟩ := hit; exact Heap.lt_size q
    have ln : its.toArray.size = n := by rw [List.size_toArray, ← rv.length, hn]
    refine wpAny_pyNext_enum_itemD (PySem.Draws.tuple (A := X.A.in1) (I.ok.hd hc) it a hne3 its.toArray) he ⟨hit, p⟩ (by rw [ln]; exact hlt) hne (by simp; exact ⟨hne, hne2⟩) fun u h' tk hu ho hit' hT hsz hk => ?_
    have hu : its[i]? = some u := by simpa using hu
    obtain ⟨x, hx, ru⟩ : ∃ x, xs[i]? = some x ∧ RelV x u := by
      have hi : i < xs.length := by rw [hn]; exact hlt
      obtain ⟨u2, h1, h2⟩ := rv.get (List.getElem?_eq_getElem hi)
      rw [hu] at h1; cases h1
      exact ⟨_, List.getElem?_eq_getElem hi, h2⟩
    refine ⟨_, rfl, wpAny_letOwnedTupleGo_enum (s := { s with heap := h', toks := tk + 1 }) ho fun h'' he' sb => ?_⟩
    have hT2 : h''.get? s.heap.objs.size = some { cls := .type "tuple", data := .seq #[.int i tk, u] } := (sb.2 _ (Nat.ne_of_gt hel)).trans hT
    have new : ObjOk X.prog X.w (upd H s.heap.objs.size (.tup [.int (i : Nat), x])) h'' s.heap.objs.size (.tup [.int (i : Nat), x]) :=
      ⟨by show 2 ≤ sizeLine; decide, [.int i tk, u], .cons ⟨_, rfl⟩ (.cons ru .nil), ⟨_, hT2, rfl, _, rfl⟩⟩
    have I1 : Inv X pins σ (upd H s.heap.objs.size (.tup [.int (i : Nat), x])) { s with heap := h'', toks := tk + 1 } :=
      I.turnedNew (ch := [e, it]) (fun b ob hb q => (sb.2 b (fun z => hb (by simp [z]))).trans (hk b ob (fun z => hb (by simp [z])) (fun z => hb (by simp [z])) q)) hf (Nat.le_refl _) new
    refine ⟨.ref s.heap.objs.size, _, I1, rfl, ⟨_, x, rfl, I.hok.fresh (Nat.le_refl _), rfl, fun ys hy => by rw [I.tuple_inj hy hq]; exact hx⟩, ⟨⟨u, ?_⟩, ?_, ⟨hne, hne2, hne3⟩, hlt⟩, fun b hb => ?_⟩
    · have e1 : ((i + 1 : Nat) : Int) = (i : Int) + 1 := by omega
      rw [e1]; exact he'
    · obtain ⟨⟨o, q1, q2⟩, _⟩ := hit'
      exact ⟨o, (sb.2 it (Ne.symm hne)).trans q1, q2⟩
    · have hb' : b < s.heap.objs.size := by
        have e' : b = e ∨ b = it := by simpa using hb
        rcases e' with z | z
        · rw [z]; exact hel
        · rw [z]; exact hil
      rw [upd_ne (Nat.ne_of_lt hb')]
      exact (hf b hb).1
  done := by
    intro X hP hw hK hc i pins s σ H E I hf st hg
    subst hP hw hK
    obtain ⟨⟨old, he⟩, hit, ⟨hne, hne2, hne3⟩, hle⟩ := st
    obtain ⟨xs, hq, hn, hx⟩ := hg
    obtain ⟨its, rv, p, hz⟩ := I.tuple hq
    obtain ⟨f0, f1, f2, f3, f4, f5⟩ := hf it (by simp)
    have ln : its.toArray.size = n := by rw [List.size_toArray, ← rv.length, hn]
    have ei : i = its.toArray.size := by omega
    exact wpAny_pyNext_enum_endD (PySem.Draws.tuple (A := X.A.in1) (I.ok.hd hc) it a hne3 its.toArray) he (by rw [← ei]; exact ⟨hit, p⟩) fun h' eb => ⟨rfl, I.turned (t' := s.toks) (fun b o hb q => eb b o hb q) f0 f1 f3 f4 f5⟩
  self := fun A i s Q E st h => let ⟨⟨_, he⟩, _⟩ := st; wpAny_pyIter_enum he h
def iEnumTp (K : PySem.W.Frag) (ta : TA) : TI := fun σ H R => ta σ H fun vs H1 => ∃ a xs, vs = [.ref a] ∧ SqT K H1 a xs ∧ R (IteT K a xs.length) H1
theorem pi_enumT {X : Cx} {e : Expr} {ta : TA} {p pos tpos : Pos} {elts : List Expr} {kk : Nat} (hg : Gl X "enumerate") (hm : X.mg "enumerate" = none) (ha : PA X [e] ta) (hs : starEach [e] X.env = [(false, eval e X.env)] := by rfl) :
    PI X (.Tuple elts kk tpos) (.Call (.Name "enumerate" p) [e] [] pos) (iEnumTp X.K ta) := by
  refine ⟨fun pins s σ H R I h => ?_⟩
  refine Call_ (ld_blt I hg hm boot_enumerate (PyProof.Rows.callWith_type1 (thn (ha.run pos pins s σ H _ I h) fun us s1 ⟨vs, H1, I1, r1, q1⟩ => ?_) hs rfl))
  obtain ⟨a, xs, ex, hq, q⟩ := q1
  subst ex
  cases r1 with
  | cons r rr =>
    cases rr
    cases r
    obtain ⟨its, rv, p', hz⟩ := I1.tuple hq
    have ha : a < s1.heap.objs.size := by obtain ⟨o, ho, _⟩ := p'; exact Heap.lt_size ho
    refine call_enum_tup p' fun h' he hit hk => wpAny_pyIter_enum he ?_
    have I2 : Inv X pins σ H1 { s1 with heap := h' } := I1.kept (t' := s1.toks) hk
    refine ⟨s1.heap.objs.size + 1, [s1.heap.objs.size + 1, s1.heap.objs.size], _, _, H1, rfl, I2, turn_enumT a (s1.heap.objs.size + 1) s1.heap.objs.size xs.length, ⟨⟨.none, he⟩, hit, ⟨Nat.succ_ne_self _, Nat.ne_of_gt (Nat.lt_succ_of_lt ha), Nat.ne_of_lt ha⟩, Nat.zero_le _⟩, fun b hb => ?_, q⟩
    have e' : b = s1.heap.objs.size + 1 ∨ b = s1.heap.objs.size := by simpa using hb
    have hle : s1.heap.objs.size ≤ b := by
      rcases e' with z | z
      · rw [z]; exact Nat.le_succ _
      · rw [z]; exact Nat.le_refl _
    exact I1.fpOk hle (I1.hok.fresh hle)
end L2
namespace L3
open PySem PySem.Spec L2
section
variable {Y : Pc} {X : Cx} {W : WX} {a tg iter : Expr} {rs : Ev → Store → Res (List D)} {pos : Pos} {K : PySem.W.Frag}
theorem walks_enumT {F : Hp} {ρ : List Addr} {l : Addr} {xs : List V} {ds : List D} (h : SqT K F l xs) (r : RDs K F ρ xs ds) : WalksJ K Y (IteT K l xs.length) F ρ (enumFrom 0 ds) := fun F1 ρ1 S1 H1 e p R i => by
  have q : SqT K H1 l xs := ex_t (e.trans R.ex) h
  refine ⟨fun d hd => ?_, fun hi => ⟨xs, q, rfl, by rw [enum_len] at hi; rw [r.length]; exact hi⟩⟩
  obtain ⟨x, hx, rfl⟩ := enum_get _ _ _ _ hd
  obtain ⟨v, hv, rv⟩ := r.get hx
  refine ⟨⟨xs, q, rfl, (List.getElem?_eq_some_iff.mp hv).1⟩, fun y H' yl => ?_⟩
  obtain ⟨T, x', rfl, hT, rfl, yl⟩ := yl
  have z := yl xs q
  rw [hv] at z; cases z
  obtain ⟨R2, n2, e2⟩ := R.new (o := .tup [.int (i : Nat), v]) hT
  refine ⟨_, R2, n2, .tup (Or.inl (Or.inl e2)) (.cons ?_ (.cons ((rv.mono e p).mono n2.ex n2.pre) .nil))⟩
  have : ((0 + i : Nat) : Int) = (i : Int) := by omega
  rw [this]
  exact .int _
def iEnumT (rs : Ev → Store → Res (List D)) : Ev → Store → Res (List D) := fun env S => (rs env S).bind fun ds S1 => match ds with
  | [.tup xs] => .ok (enumFrom 0 xs) S1
  | _ => .stuck
theorem si_enumT {p tpos : Pos} {elts : List Expr} {kk : Nat} (hm : X.mg "enumerate" = none) (ha : SA Y X W [a] rs) (hg : Gl X "enumerate" := by rfl) (hs : starEach [a] X.env = [(false, eval a X.env)] := by rfl) :
    SI Y X W (.Tuple elts kk tpos) (.Call (.Name "enumerate" p) [a] [] pos) (iEnumT rs) := by
  obtain ⟨ta, a1, a2⟩ := ha.ex
  refine ⟨_, pi_enumT hg hm a1 hs, fun F ρ S H σ env Q R E h => ?_⟩
  refine a2.then R E h fun ds us S1 F1 ρ1 H1 R1 n1 E1 ru o1 => ?_
  match ds, ru, o1 with
  | [.tup zs], .cons (.tup h1 h2) .nil, o1 => exact ⟨_, _, rfl, ex_t R1.ex h1, Out.now o1 R1 _ (walks_enumT h1 h2)⟩
  | [], _, o1 => exact False.elim o1
end
end L3
set_option Elab.async false
set_option linter.all false
set_option maxRecDepth 100000
set_option maxHeartbeats 4000000
/-! a cell of the frame holds a text whose token is known to be given out (Mrk): readings that keep it so -/
namespace L2
open PySem PySem.Spec PyProof.Rows
/-- y's cell holds the text w, its token is given out -/
def Mrk (y w : Str) (X : Cx) (s : Shared) : Prop := ∃ c t, X.env.cells.lookup y = some c ∧ s.heap.IsCell c (some (.str w t)) ∧ t ≠ 0 ∧ t < s.toks
section
variable {y w : Str} {X : Cx} {pins : List (Addr × Obj)} {σ : St} {H H' : Hp} {s s' : Shared}
theorem Mrk.go (m : Mrk y w X s) (k : ∀ c v, X.env.cells.lookup y = some c → s.heap.IsCell c v → s'.heap.IsCell c v) (ht : s.toks ≤ s'.toks) : Mrk y w X s' := by
  obtain ⟨c, t, h1, h2, h3, h4⟩ := m
  exact ⟨c, t, h1, k c _ h1 h2, h3, Nat.lt_of_lt_of_le h4 ht⟩
theorem Mrk.kept (m : Mrk y w X s) (k : ∀ b o, s.heap.get? b = some o → s'.heap.get? b = some o) (ht : s.toks ≤ s'.toks) : Mrk y w X s' := m.go (fun _ _ _ z => z.keeps k) ht
theorem Inv.mrk {fs : List Addr} (I : Inv X pins σ H s) (m : Mrk y w X s) (u : Un fs [] H H' s.heap s'.heap) (ht : s.toks ≤ s'.toks) : Mrk y w X s' := m.go (fun c v e ⟨o, ho, hd⟩ => by
  obtain ⟨sl, q⟩ := u.any ho (I.freeC y c e) (by simp)
  exact ⟨_, q, hd⟩) ht
/-- behind a part: whose reading keeps the cell -/
theorem mk_thn {α : Type} {t : Sem α} {R : α → Shared → Prop} {M : Model} {A : Around} {E : Value → Shared → Prop} (m : Mrk y w X s) (h : wpAny M A t (fun u z => (∀ c v, X.env.cells.lookup y = some c → s.heap.IsCell c v → z.heap.IsCell c v) ∧ R u z) E s) : wpAny M A t (fun u z => Mrk y w X z ∧ R u z) E s :=
  wpAny_mono (wpAny_toks h) (fun _ _ q => ⟨m.go q.2.1 q.1, q.2.2⟩) fun _ _ q => q.2
structure ME (y w : Str) (X : Cx) (e : Expr) (t : TE) : Prop where
  run : ∀ (pins : List (Addr × Obj)) (s : Shared) (σ : St) (H : Hp) (Q : VK), Inv X pins σ H s → Mrk y w X s → t σ H Q → wpAny (model X.prog X.w) X.A (eval e X.env) (fun u z => Mrk y w X z ∧ EP X pins σ Q u z) X.xe s
structure MT (y w : Str) (X : Cx) (e : Expr) (t : TT) : Prop where
  run : ∀ (pins : List (Addr × Obj)) (s : Shared) (σ : St) (H : Hp) (Q : Bool → Hp → Prop), Inv X pins σ H s → Mrk y w X s → t σ H Q → wpAny (model X.prog X.w) X.A (isTrue e X.env (eval e X.env)) (fun b z => Mrk y w X z ∧ TP X pins σ Q b z) X.xe s
structure MWh (y w : Str) (X : Cx) (e : Expr) (t : TT) : Prop where
  run : ∀ (wh : Sem Value) (pins : List (Addr × Obj)) (s : Shared) (σ : St) (H : Hp) (Q : Bool → Hp → Prop), Inv X pins σ H s → Mrk y w X s → t σ H Q → wpAny (model X.prog X.w) X.A (isTrue e X.env wh) (fun b z => Mrk y w X z ∧ TP X pins σ Q b z) X.xe s
structure MA (y w : Str) (X : Cx) (es : List Expr) (t : TA) : Prop where
  run : ∀ (pos : Pos) (pins : List (Addr × Obj)) (s : Shared) (σ : St) (H : Hp) (Q : List V → Hp → Prop), Inv X pins σ H s → Mrk y w X s → t σ H Q → wpAny (model X.prog X.w) X.A (spliced (backTo pos (starEach es X.env))) (fun us z => Mrk y w X z ∧ AP X pins σ Q us z) X.xe s
def MOp (y w : Str) (X : Cx) (f : Value → Value → Sem Value) (r : R2) : Prop := ∀ (pins : List (Addr × Obj)) (s : Shared) (σ : St) (H : Hp) (a b : V) (u v : Value) (Q : VK), Inv X pins σ H s → Mrk y w X s → RelV a u → RelV b v → r a b H Q →
  wpAny (model X.prog X.w) X.A (f u v) (fun o z => Mrk y w X z ∧ EP X pins σ Q o z) X.xe s
end
section
variable {y w : Str} {X : Cx} {e a b : Expr} {es : List Expr} {te ta tb : TE} {t : TA} {pos : Pos}
theorem me_var {i : Nat} {x : Str} (hN : X.N[i]? = some x) (hv : Vis X.env.scope x) (h1 : (x == ("__debug__" : Str)) = false) (h2 : (x == ("__classdict__" : Str)) = false) : ME y w X (.Name x pos) (tVar i) :=
  ⟨fun _ _ _ H _ I m ⟨v, q1, q2⟩ => raw_name hN hv I q1 (fun _ r => ⟨m, v, H, I, r, q2⟩) h1 h2⟩
theorem me_str {x : Str} {j : Nat} : ME y w X (.Constant (.str x) j pos) (tC (.str x)) := ⟨fun _ _ _ H _ I m q => Calls.Constant_str ⟨m.kept (fun _ _ z => z) (Nat.le_succ _), V.str x, H, I.tok _, ⟨_, rfl⟩, q⟩⟩
theorem me_int {i : Int} {j : Nat} : ME y w X (.Constant (.int i) j pos) (tC (.int i)) := ⟨fun _ _ _ H _ I m q => wpAny_Constant_int ⟨m.kept (fun _ _ z => z) (Nat.le_succ _), V.int i, H, I.tok _, ⟨_, rfl⟩, q⟩⟩
theorem ma_nil : MA y w X [] tNil := ⟨fun _ _ _ _ H _ I m q => Calls.spliced_nil ⟨m, [], H, I, .nil, q⟩⟩
theorem ma_cons (ha : ME y w X e te) (hr : MA y w X es t) (hs : starEach (e :: es) X.env = (false, eval e X.env) :: starEach es X.env) : MA y w X (e :: es) (tCons te t) := ⟨fun pos pins s σ H Q I m q => by
  rw [hs]
  refine Calls.spliced_cons (thn (ha.run pins s σ H _ I m q) fun u z1 w1 => ?_)
  obtain ⟨k1, x, H1, I1, r1, q1⟩ := w1
  refine thn (hr.run pos pins z1 σ H1 _ I1 k1 q1) fun us z2 w2 => ?_
  obtain ⟨k2, xs, H2, I2, r2, q2⟩ := w2
  exact ⟨k2, x :: xs, H2, I2, .cons r1 r2, q2⟩⟩
theorem me_tup {k : Nat} (h : MA y w X es t) : ME y w X (.Tuple es k pos) (tTup t) := ⟨fun pins s σ H Q I m q => by
  refine wpAny_Tuple_spliced (thn (h.run pos pins s σ H _ I m q) fun us z w => ?_)
  obtain ⟨k1, xs, H1, I1, r, hz, q1⟩ := w
  have new := I1.hok.fresh (Nat.le_refl z.heap.objs.size)
  have up : ∀ (b : Addr) (u : Obj), z.heap.get? b = some u → (z.heap.push { cls := .type "tuple", data := .seq us.toArray }).get? b = some u := fun _ _ w => Heap.get?_push_of_some _ w
  refine ⟨by rw [← r.length]; exact hz, k1.kept up (Nat.le_refl _), V.ref z.heap.objs.size, upd H1 z.heap.objs.size (.tup xs), I1.laid (t' := z.toks) up (Nat.le_refl _) ⟨hz, us, r, ⟨_, Heap.get?_push_size _ rfl, rfl, _, rfl⟩⟩, rfl, q1 _ new⟩⟩
/-- a call -/
theorem run_m {cx : CXT} {k : Nat} {f : Addr} {fd : FuncData} {ps : List Str} {sp : Sp} {E : XK} {pins : List (Addr × Obj)} {σ : St} {H : Hp} {s : Shared} {Q : VK} {us : List Value} {vs : List V} (G : GnOk X.prog X.w X.K X.mg X.base cx k f fd ps sp) (gd : X.A.guards = some []) (room : Room k X.A) (bnd : Binds X.K fd ps []) (pass : PassesAt cx X σ E)
    (I : Inv X pins σ H s) (m : Mrk y w X s) (rel : Vals vs us) (want : sp vs H Q E) : wpAny (model X.prog X.w) X.A (call (.ref f) us) (fun u z => Mrk y w X z ∧ EP X pins σ Q u z) X.xe s := by
  have size : (us ++ []).length = ps.length := by rw [List.append_nil, ← rel.length]; exact G.len _ _ _ _ want
  have bd := bnd s us I.kIn size
  rw [List.append_nil] at bd
  refine mk_thn m (wpAny_call (codeAny_mono (G.go X.A X.stack s H ⟨us, []⟩ us vs Q E gd room I.env0 bd rel want) ?_))
  intro res z hz
  match res, hz with
  | .error er, hz => exact pass pins H s er z I hz
  | .ok (.ret u), hz =>
    obtain ⟨v, H', _, _, un, _⟩ := id hz
    refine ⟨fun c v e ho => ?_, I.after hz⟩
    obtain ⟨o, ho, hd⟩ := ho
    obtain ⟨sl, q⟩ := un.any ho (I.freeC y c e) (by simp)
    exact ⟨_, q, hd⟩
theorem me_gn {cx : CXT} {k : Nat} {f : Addr} {fd : FuncData} {ps : List Str} {sp : Sp} {E : St → XK} {x : Str} {p : Pos} (G : GnOk X.prog X.w X.K X.mg X.base cx k f fd ps sp) (gd : X.A.guards = some []) (room : Room k X.A) (hg : Gl X x) (hm : X.mg x = some (.ref f)) (hk : PySem.W.keepIn X.K (.ref f) = true) (bnd : Binds X.K fd ps []) (pass : ∀ σ, PassesAt cx X σ (E σ))
    (ha : MA y w X (e :: es) t) (hdb : (x == ("__debug__" : Str)) = false) (he : starEach (e :: es) X.env = (false, eval e X.env) :: starEach es X.env) (hpl : (backTo pos (starEach es X.env)).any (·.1) = false) :
    ME y w X (.Call (.Name x p) (e :: es) [] pos) (tCallS sp E t) := ⟨fun pins s σ H Q I m h =>
  wpAny_Call_Name_kw (ld_glob I hg hm (PySem.W.callWith_K (h₀ := X.base) I.ok.mod.kin hk (thn (ha.run pos pins s σ H _ I m h) fun us z w => by
    obtain ⟨k1, vs, H1, I1, r, q⟩ := w
    exact ⟨I1.kIn, run_m G gd room bnd (pass σ) I1 k1 r q⟩) he hpl) hdb)⟩
/-! operators -/
theorem me_op {op : Operator} {r : R2} (ho : MOp y w X (binaryOp op) r) (ha : ME y w X a ta) (hb : ME y w X b tb) : ME y w X (.BinOp a op b pos) (tOp r ta tb) := ⟨fun pins s σ H Q I m h => by
  refine wpAny_BinOp (thn (ha.run pins s σ H _ I m h) fun u z1 w1 => ?_)
  obtain ⟨k1, x, H1, I1, r1, q1⟩ := w1
  refine thn (hb.run pins z1 σ H1 _ I1 k1 q1) fun v z2 w2 => ?_
  obtain ⟨k2, x2, H2, I2, r2, q2⟩ := w2
  exact ho pins z2 σ H2 x x2 u v Q I2 k2 r1 r2 q2⟩
theorem mt_cmp {op : CmpOp} {r : R2} (ho : MOp y w X (compareOp op) r) (ha : ME y w X a ta) (hb : ME y w X b tb) (hm : behindInMarks op b = false) : MT y w X (.Compare a [op] [b] pos) (tTest (tOp r ta tb)) := ⟨fun pins s σ H Q I m h => by
  refine wpAny_isTrue_Compare1 (thn (ha.run pins s σ H _ I m h) fun u z1 w1 => ?_) hm
  obtain ⟨k1, x, H1, I1, r1, q1⟩ := w1
  refine thn (hb.run pins z1 σ H1 _ I1 k1 q1) fun v z2 w2 => ?_
  obtain ⟨k2, x2, H2, I2, r2, q2⟩ := w2
  refine thn (ho pins z2 σ H2 x x2 u v _ I2 k2 r1 r2 q2) fun o z3 w3 => ?_
  obtain ⟨k3, x3, H3, I3, r3, k, e3, q3⟩ := w3
  subst e3
  cases r3
  exact wpAny_truthy_bool ⟨k3, H3, I3, q3⟩⟩
theorem mw_or1 {ta : TT} (ha : MT y w X a ta) : MWh y w X (.BoolOp .Or [a] pos) ta := ⟨fun wh pins s σ H Q I m h => by
  refine isTrue_or (thn (ha.run pins s σ H Q I m h) fun c z q => ?_)
  cases c
  · exact isTrue_or_nil q
  · exact q⟩
theorem mw_or {ta tb : TT} (ha : MT y w X a ta) (hb : MWh y w X (.BoolOp .Or (b :: es) pos) tb) : MWh y w X (.BoolOp .Or (a :: b :: es) pos) (tOr ta tb) := ⟨fun wh pins s σ H Q I m h => by
  refine isTrue_or (thn (ha.run pins s σ H _ I m h) fun c z q => ?_)
  obtain ⟨k1, H1, I1, q1⟩ := q
  cases c
  · exact hb.run wh pins z σ H1 Q I1 k1 q1
  · exact ⟨k1, H1, I1, q1⟩⟩
theorem MWh.mt {ta : TT} (h : MWh y w X e ta) : MT y w X e ta := ⟨h.run _⟩
theorem mop_ne : MOp y w X (compareOp .NotEq) (fun x z H Q => ∃ i j, x = .int i ∧ z = .int j ∧ Q (.bl (!decide (i = j))) H) := by
  intro pins s σ H x z u v Q I m rx rz h
  obtain ⟨i, j, rfl, rfl, q⟩ := h
  obtain ⟨t, rfl⟩ := rx
  obtain ⟨t', rfl⟩ := rz
  refine ne_int ?_
  rw [bne, Bool.beq_eq_decide_eq]
  exact ⟨m, V.bl _, H, I, rfl, q⟩
theorem me_neg (ha : ME y w X a ta) : ME y w X (.UnaryOp .USub a pos) (tUn (rU fun i => .int (-i)) ta) := ⟨fun pins s σ H Q I m h => by
  refine UnaryOp_ (thn (ha.run pins s σ H _ I m h) fun u z1 w1 => ?_)
  obtain ⟨k1, x, H1, I1, r1, i, rfl, q1⟩ := w1
  obtain ⟨t, rfl⟩ := r1
  exact neg_int ⟨k1.kept (fun _ _ z => z) (Nat.le_succ _), V.int (-i), H1, I1.tok _, ⟨_, rfl⟩, q1⟩⟩
theorem mop_cat : MOp y w X (binaryOp .Add) (fun x z H Q => ∃ a b xs zs, x = .ref a ∧ z = .ref b ∧ SqT X.K H a xs ∧ SqT X.K H b zs ∧ xs ≠ [] ∧ zs ≠ [] ∧ xs.length + zs.length ≤ sizeLine ∧ ∀ p, H p = none → Q (.ref p) (upd H p (.tup (xs ++ zs)))) := by
  intro pins s σ H x z u v Q I m rx rz h
  obtain ⟨a, b, xs, zs, rfl, rfl, ha, hb, n1, n2, hl, q⟩ := h
  cases rx
  cases rz
  obtain ⟨us, r1, p1, _⟩ := I.tuple ha
  obtain ⟨vs, r2, p2, _⟩ := I.tuple hb
  have new := I.hok.fresh (Nat.le_refl s.heap.objs.size)
  refine HT.cat_tup p1 p2 (fun e => n1 (r1.nil_iff.mp e)) (fun e => absurd (r2.nil_iff.mp e) n2) (fun _ => ?_) (by rw [← r1.length, ← r2.length]; exact hl)
  have up : ∀ (b : Addr) (o : Obj), s.heap.get? b = some o → (s.heap.push { cls := .type "tuple", data := .seq (us ++ vs).toArray }).get? b = some o := fun _ _ w => Heap.get?_push_of_some _ w
  exact ⟨m.kept up (Nat.le_refl _), V.ref s.heap.objs.size, _, I.laid (t' := s.toks) (o := .tup (xs ++ zs)) up (Nat.le_refl _) ⟨by rw [List.length_append]; exact hl, _, r1.append r2, IsTup.new _ _⟩, rfl, q _ new⟩
end
end L2
set_option Elab.async false
set_option linter.all false
set_option maxRecDepth 100000
set_option maxHeartbeats 4000000
/-! more readings that keep the token (slices, methods), statements; a def that replaces a sign by a text whose token is given out -/
namespace L2
open PySem PySem.Spec PyProof.Rows
section
variable {y w : Str} {X : Cx} {e a b : Expr} {es : List Expr} {te ta tb : TE} {t : TA} {pos : Pos}
theorem me_sl {k : Int} {j : Nat} {cp p2 : Pos} (he : ME y w X e te) : ME y w X (.Subscript e (.Slice none (some (.Constant (.int k) j cp)) none p2) pos) (tSl (rSlT X.K) te tNoPart (tPart (tC (.int k)))) := ⟨fun pins s σ H Q I m h => by
  refine Subscript_ (thn (he.run pins s σ H _ I m h) fun u z1 w1 => ?_)
  obtain ⟨m1, x, H1, I1, r1, i, hi, a1, xs, rfl, hx, nw, q⟩ := w1
  cases hi
  cases r1
  refine wpAny_Slice ?_
  rw [evalPart_none]
  refine wpAny_pure ?_
  rw [evalPart_some]
  refine wpAny_Constant_int ?_
  refine wpAny_pure ?_
  generalize hz : ({ z1 with toks := z1.toks + 1 } : Shared) = z2
  have I2 : Inv X pins σ H1 z2 := by rw [← hz]; exact I1.tok _
  have m2 : Mrk y w X z2 := by rw [← hz]; exact m1.kept (fun _ _ q => q) (Nat.le_succ _)
  generalize ho : ({ cls := .type "slice", data := .fields #[Value.none, .int k z1.toks, .none] } : Obj) = o
  have keep : ∀ (b : Addr) (u : Obj), z2.heap.get? b = some u → (z2.heap.push o).get? b = some u := fun _ _ q => Heap.get?_push_of_some _ q
  have I3 : Inv X pins σ H1 { z2 with heap := z2.heap.push o } := I2.kept (t' := z2.toks) keep
  obtain ⟨us, r, ht, hl⟩ := I3.tuple hx
  have size : us.toArray.size = xs.length := by rw [List.size_toArray]; exact r.length.symm
  have sl : ({ z2 with heap := z2.heap.push o } : Shared).heap.IsSliceOf z2.heap.objs.size Value.none (.int k z1.toks) .none := by
    rw [← ho]
    exact Heap.IsSliceOf.new ..
  refine tail_any (ops := [.ref z2.heap.objs.size, .ref a1]) ht.typeIs PyProof.Rows.slot_tuple_getitem.lookup ?_ (by with_unfolding_all rfl)
  refine HT.getItem_tuple_cut ht sl .none (.int _ _) (by rw [size]; exact nw) ?_ (by rw [size]; exact hl)
  rw [size]
  have up : ∀ (b : Addr) (u : Obj), (z2.heap.push o).get? b = some u → ((z2.heap.push o).push { cls := .type "tuple", data := .seq ((us.toArray.toList.drop (HT.sIx xs.length 0 none)).take (HT.sIx xs.length xs.length (some k) - HT.sIx xs.length 0 none)).toArray }).get? b = some u := fun _ _ q => Heap.get?_push_of_some _ q
  refine ⟨(m2.kept (s' := { z2 with heap := z2.heap.push o }) keep (Nat.le_refl _)).kept up (Nat.le_refl _), V.ref (z2.heap.push o).objs.size, _, I3.laid (t' := z2.toks) (o := .tup (cutV xs none (some k))) up (Nat.le_refl _) ?_, rfl, q _ (I3.hok.fresh (Nat.le_refl _))⟩
  exact ⟨Nat.le_trans (cutV_length xs none (some k)) hl, _, (r.drop _).take _, IsTup.new _ _⟩⟩
/-! statements -/
structure MSt (y w : Str) (X : Cx) (st : Stmt) (t : TS) : Prop where
  run : ∀ (pins : List (Addr × Obj)) (s : Shared) (σ : St) (H : Hp) (D : Ends), Inv X pins σ H s → Mrk y w X s → t D σ H → wpAny (model X.prog X.w) X.A (exec st X.env) (fun f z => (f = .next → Mrk y w X z) ∧ SP X pins D f z) X.xe s
structure MSs (y w : Str) (X : Cx) (st : List Stmt) (t : TS) : Prop where
  run : ∀ (pins : List (Addr × Obj)) (s : Shared) (σ : St) (H : Hp) (D : Ends), Inv X pins σ H s → Mrk y w X s → t D σ H → wpAny (model X.prog X.w) X.A (execs st X.env) (SP X pins D) X.xe s
variable {st : Stmt} {sts : List Stmt} {u v : TS}
theorem MSs.of (h : PSs X sts u) : MSs y w X sts u := ⟨fun pins s σ H D I _ q => h.run pins s σ H D I q⟩
theorem mss_cons (h1 : MSt y w X st u) (h2 : MSs y w X sts v) : MSs y w X (st :: sts) (tSeq u v) := ⟨fun pins s σ H D I m h => by
  refine wpAny_execs_cons (thn (h1.run pins s σ H { D with nx := v D } I m h) fun f z q => ?_)
  obtain ⟨m1, q⟩ := q
  cases f with
  | next =>
    obtain ⟨σ1, H1, I1, q1⟩ := q
    exact h2.run pins z σ1 H1 D I1 (m1 rfl) q1
  | ret => exact q
  | brk => exact q
  | cont => exact q⟩
theorem ms_set {i : Nat} {x : Str} {p2 : Pos} (hN : X.N.Nodup) (hi : X.N[i]? = some x) (hx : Loc X.env.scope x) (hl : X.env.scope.names.lookup x = some .local) (hne : x ≠ y) (he : ME y w X e te) (hs : swapsWith e (some (.Name x p2)) pos.line X.env = pure false) :
    MSt y w X (.Assign [.Name x p2] e pos) (tAsg te (gName i)) := ⟨fun pins s σ H D I m h => by
  refine wpAny_Assign_Name (thn (he.run pins s σ H _ I m h) fun u z q => ?_) hs
  obtain ⟨m1, b, H1, I1, r1, q1⟩ := q
  refine wpAny_mono (mk_thn m1 (R := fun _ z2 => SP X pins D .next z2) (store_ok2 I1 hN hi hx r1 (fun z2 I2 sb => ⟨fun c v hc hv => ?_, _, H1, I2, q1⟩) (.inr hl))) (fun _ _ q => ⟨fun _ => q.1, q.2⟩) fun _ _ q => q
  obtain ⟨a, sb, ha⟩ := sb
  refine hv.sameBut sb ?_
  rcases ha with rfl | ha
  · exact I1.cne y c hc
  · rintro rfl
    exact hne (I1.ok.inj _ _ _ ha hc)⟩
/-- if test: return e -/
theorem ms_ifRet {c : Expr} {p2 : Pos} {tc : TT} (hc : MT y w X c tc) (he : PE X e te) : MSt y w X (.If c [.Return (some e) p2] [] pos) (tIfS tc (tSeq (tRet te) tNext) tNext) := ⟨fun pins s σ H D I m h => by
  refine wpAny_If (thn (hc.run pins s σ H _ I m h) fun b z q => ?_)
  obtain ⟨m1, H1, I1, q1⟩ := q
  cases b with
  | true =>
    refine wpAny_execs_cons (wpAny_Return_some (thn (he.run pins z σ H1 _ I1 q1) fun o z2 q2 => ?_))
    obtain ⟨x, H2, I2, r2, q2⟩ := q2
    exact ⟨(fun n => nomatch n), x, σ, H2, I2, r2, q2⟩
  | false => exact wpAny_execs_nil ⟨fun _ => m1, σ, H1, I1, q1⟩⟩
end
/-! ### def f(text, mark): return text.replace(c, mark) -/
/-- its promise: the mark's token is given out -/
def SwOk (P : Program) (w : World) (K : PySem.W.Frag) (mg : Str → Option Value) (base : Heap) (cx : CXT) (k : Nat) (f : Addr) (fd : FuncData) (ps : List Str) (c : Str) : Prop :=
  ∀ (A : Around) (out : List Env) (s : Shared) (H : Hp) (x z : Str) (t1 t2 : Tok) (Q : VK) (E : XK), A.guards = some [] → Room k A → Env0 P w K mg base A out s H → BindsTo s fd ⟨[.str x t1, .str z t2], []⟩ (ps.zip [.str x t1, .str z t2]) →
    t2 ≠ 0 → t2 < s.toks → (c == z) = false → x.length + (x.length + 1) * z.length ≤ 16777216 → Q (.str (Txt.replace x c z)) H → codeAny (model P w) A (.call (.ref f) ⟨[.str x t1, .str z t2], []⟩) (CR cx out P w H s Q E) s
theorem sw_of {P : Program} {w : World} {K : PySem.W.Frag} {mg : Str → Option Value} {base : Heap} {cx : CXT} {k : Nat} {f : Addr} {fd : FuncData} {x qual a0 a1 c : Str} {params : Arguments} {scope : Scope} {N : List Str} {j : Nat} {p1 p2 p3 apos cpos rpos : Pos}
    (D : FunD K x qual params [.Return (some (.Call (.Attribute (.Name a0 p1) "replace" apos) [.Constant (.str c) j p2, .Name a1 p3] [] cpos)) rpos] scope [] [] f fd) (S : FnScope N [a0, a1] scope)
    (h0 : scope.names.lookup a0 = some .local) (h1 : scope.names.lookup a1 = some .local) (d0 : (a0 == ("__debug__" : Str)) = false) (d1 : (a1 == ("__debug__" : Str)) = false) (hl : (apos.endLine == cpos.line) = true) : SwOk P w K mg base cx (k + 1) f fd [a0, a1] c := by
  obtain ⟨o1, o2, v1, v2, v3, v4, v5, cd, v6, o3, e, look, code, _⟩ := D.ex
  subst e
  intro A out s H tx z t1 t2 Q E gd room e0 bnd ht hlt hcz hb q
  have old := fun b o (q : base.get? b = some o) => (e0.bs b o q).1
  have inK : K.In s.heap := e0.mod.kin.keeps old
  have kinds : ∀ v ∈ [a0, a1].zip [Value.str tx t1, .str z t2], scope.names.lookup v.1 = some .local ∨ (scope.names.lookup v.1 = some .cell ∧ ((cellsFrom (s.heap.objs.size + 1) scope.names []).lookup v.1).isSome = true) := by
    rintro ⟨n, v⟩ m
    rcases S.par n (List.of_mem_zip m).1 with q | q
    · exact Or.inl q
    · exact Or.inr ⟨q, PySem.W.cellsFrom_some _ _ _ (Or.inl q)⟩
  apply codeAny_call_function room.depth (inK f _ look) rfl S.co S.gen rfl (PySem.W.codeRec_of inK code)
  apply bnd
  refine wpAny_with_toks (n := t2 + 1) hlt (wpAny_newFunctionEnv_cells S.kind kinds fun env he s1 ic hs => ?_)
  subst he
  refine ⟨(e0.mod.nolimit.keeps old).keeps ic.toInCall.keep, codeAny_func ?_⟩
  have rel : Vals [V.str tx, .str z] [Value.str tx t1, .str z t2] := .cons ⟨t1, rfl⟩ (.cons ⟨t2, rfl⟩ .nil)
  have I : Inv (cxOf cx P w K mg base N qual scope f cd A out s H E) [] (L2.start N [.str tx, .str z]) H s1 := inv_start S room.hd e0 rfl rel ic
  have ns := ic.toInCall.ns
  have nd : [a0, a1].Nodup := by
    rw [show [a0, a1] = N.take 2 from S.pre.symm]
    exact S.nd.sublist (List.take_sublist 2 N)
  have g0 := bindL_get (kindOf := (envOfC qual scope s.heap.objs.size f cd).kindOf) (P := [a0, a1]) (vs := [Value.str tx t1, .str z t2]) (i := 0) (m := fun _ => none) nd rfl rfl h0
  have g1 := bindL_get (kindOf := (envOfC qual scope s.heap.objs.size f cd).kindOf) (P := [a0, a1]) (vs := [Value.str tx t1, .str z t2]) (i := 1) (m := fun _ => none) nd rfl rfl h1
  refine wpAny_execs_cons (wpAny_Return_some (PySem.Call_method2 rfl rfl hl (wpAny_Name (wpAny_loadName_local S.kind h0 ns g0 ?_) d0)))
  have args : ∀ R, (∀ t' k, R (Value.str (Txt.replace tx c z) t') { s1 with toks := k }) → wpAny (model P w) (A.deeper (envOfC qual scope s.heap.objs.size f cd)) (spliced [(false, eval (.Constant (.str c) j p2) (envOfC qual scope s.heap.objs.size f cd)), (false, eval (.Name a1 p3) (envOfC qual scope s.heap.objs.size f cd))]) (fun us z2 => wpAny (model P w) (A.deeper (envOfC qual scope s.heap.objs.size f cd)) (call (.builtin "str.replace") (Value.str tx t1 :: us)) R (cxOf cx P w K mg base N qual scope f cd A out s H E).xe z2) (cxOf cx P w K mg base N qual scope f cd A out s H E).xe s1 := by
    intro R hR
    refine Calls.spliced_cons (Calls.Constant_str (Calls.spliced_cons ?_))
    refine wpAny_Name (wpAny_loadName_local S.kind h1 ns g1 (Calls.spliced_nil ?_)) d1
    exact PySem.SC.replace (by show s1.toks ≠ 0; omega) ht (by show s1.toks ≠ t2; omega) hcz hb fun t' k => hR t' k
  exact ⟨_, _, PySem.F.plainAttrs_str, PySem.F.slot_str_replace, PySem.F.type_str_replace, typeIs_str _ _ _, (fun _ e => nomatch e), Calls.callWith_builtin rfl (Calls.evalArgs_plain (args _ fun t' n => ⟨V.str (Txt.replace tx c z), H, (I.tok n).os, (I.tok n).bare, (I.tok n).base, (I.tok n).hok, ⟨t', rfl⟩, q⟩))⟩
end L2
set_option Elab.async false
set_option linter.all false
set_option maxRecDepth 100000
set_option maxHeartbeats 4000000
/-! calls of a def that replaces, where the mark's token is known -/
namespace L2
open PySem PySem.Spec PyProof.Rows
/-- text with c replaced by the mark w -/
def tSw (te : TE) (c w : Str) : TE := fun σ H Q => te σ H fun x H1 => ∃ a, x = .str a ∧ a.length + (a.length + 1) * w.length ≤ 16777216 ∧ Q (.str (Txt.replace a c w)) H1
section
variable {y w c : Str} {X : Cx} {e a b : Expr} {es : List Expr} {te ta tb : TE} {t : TA} {pos p p2 : Pos} {cx : CXT} {k : Nat} {f : Addr} {fd : FuncData} {ps : List Str} {fx : Str} {E : St → XK}
theorem run_sw {pins : List (Addr × Obj)} {σ : St} {H : Hp} {s : Shared} {Q : VK} {x z : Str} {t1 t2 : Tok} {E : XK} (G : SwOk X.prog X.w X.K X.mg X.base cx k f fd ps c) (gd : X.A.guards = some []) (room : Room k X.A) (bnd : Binds X.K fd ps []) (np : ps.length = 2) (pass : PassesAt cx X σ E)
    (I : Inv X pins σ H s) (h0 : t2 ≠ 0) (h1 : t2 < s.toks) (hc : (c == z) = false) (hb : x.length + (x.length + 1) * z.length ≤ 16777216) (q : Q (.str (Txt.replace x c z)) H) :
    wpAny (model X.prog X.w) X.A (call (.ref f) [.str x t1, .str z t2]) (fun u r => (∀ n a v, X.env.cells.lookup n = some a → s.heap.IsCell a v → r.heap.IsCell a v) ∧ EP X pins σ Q u r) X.xe s := by
  have bd := bnd s [Value.str x t1, .str z t2] I.kIn (by rw [np]; rfl)
  refine wpAny_call (codeAny_mono (G X.A X.stack s H x z t1 t2 Q E gd room I.env0 bd h0 h1 hc hb q) ?_)
  intro res r hr
  match res, hr with
  | .error er, hr => exact pass pins H s er r I hr
  | .ok (.ret u), hr =>
    obtain ⟨v, H', _, _, un, _⟩ := id hr
    refine ⟨fun n a v e ho => ?_, I.after hr⟩
    obtain ⟨o, ho, hd⟩ := ho
    obtain ⟨sl, q⟩ := un.any ho (I.freeC n a e) (by simp)
    exact ⟨_, q, hd⟩
/-- in the frame whose cell it is -/
theorem me_sw (G : SwOk X.prog X.w X.K X.mg X.base cx k f fd ps c) (gd : X.A.guards = some []) (room : Room k X.A) (hg : Gl X fx) (hm : X.mg fx = some (.ref f)) (hk : PySem.W.keepIn X.K (.ref f) = true) (bnd : Binds X.K fd ps []) (np : ps.length = 2) (pass : ∀ σ, PassesAt cx X σ (E σ)) (hcw : (c == w) = false)
    (hy : X.env.kindOf y = some .cell) (ha : ME y w X e te) (hdb : (fx == ("__debug__" : Str)) = false) (hdy : (y == ("__debug__" : Str)) = false) (he : starEach [e, .Name y p2] X.env = (false, eval e X.env) :: starEach [.Name y p2] X.env) (he1 : starEach [.Name y p2] X.env = [(false, eval (.Name y p2) X.env)]) (hpl : (backTo pos (starEach [.Name y p2] X.env)).any (·.1) = false) :
    ME y w X (.Call (.Name fx p) [e, .Name y p2] [] pos) (tSw te c w) := ⟨fun pins s σ H Q I m h => by
  refine wpAny_Call_Name_kw (ld_glob I hg hm (PySem.W.callWith_K (h₀ := X.base) I.ok.mod.kin hk ?_ he hpl) hdb)
  rw [he, he1]
  refine Calls.spliced_cons (thn (ha.run pins s σ H _ I m h) fun u z1 w1 => ?_)
  obtain ⟨m1, x, H1, I1, r1, a, rfl, hb, q⟩ := w1
  obtain ⟨t1, rfl⟩ := r1
  obtain ⟨c1, t2, l1, l2, l3, l4⟩ := id m1
  refine Calls.spliced_cons (wpAny_Name (wpAny_loadName_cell I1.ok.kind hy l1 l2 (Calls.spliced_nil ⟨I1.kIn, ?_⟩)) hdy)
  exact mk_thn m1 (wpAny_mono (run_sw G gd room bnd np (pass σ) I1 l3 l4 hcw hb q) (fun _ _ q => ⟨fun c v => q.1 y c v, q.2⟩) fun _ _ q => q)⟩
/-- readings where n tokens are out -/
structure PN (n : Nat) (X : Cx) (e : Expr) (t : TE) : Prop where
  run : ∀ (pins : List (Addr × Obj)) (s : Shared) (σ : St) (H : Hp) (Q : VK), n ≤ s.toks → Inv X pins σ H s → t σ H Q → wpAny (model X.prog X.w) X.A (eval e X.env) (EP X pins σ Q) X.xe s
variable {n : Nat}
/-- in a display's block within that frame -/
theorem pn_sw {c1 : Addr} {t2 : Tok} (G : SwOk X.prog X.w X.K X.mg X.base cx k f fd ps c) (gd : X.A.guards = some []) (room : Room k X.A) (hg : Gl X fx) (hm : X.mg fx = some (.ref f)) (hk : PySem.W.keepIn X.K (.ref f) = true) (bnd : Binds X.K fd ps []) (np : ps.length = 2) (pass : ∀ σ, PassesAt cx X σ (E σ)) (hcw : (c == w) = false)
    (hy : X.env.kindOf y = some .cell ∨ X.env.kindOf y = some .free) (hc1 : X.env.cells.lookup y = some c1) (hcell : ∀ pins σ H s, Inv X pins σ H s → s.heap.IsCell c1 (some (.str w t2))) (h0 : t2 ≠ 0) (hn : t2 < n) (ha : PE X e te) (hdb : (fx == ("__debug__" : Str)) = false) (hdy : (y == ("__debug__" : Str)) = false) (hdc : (y == ("__classdict__" : Str)) = false) (he : starEach [e, .Name y p2] X.env = (false, eval e X.env) :: starEach [.Name y p2] X.env) (he1 : starEach [.Name y p2] X.env = [(false, eval (.Name y p2) X.env)]) (hpl : (backTo pos (starEach [.Name y p2] X.env)).any (·.1) = false) :
    PN n X (.Call (.Name fx p) [e, .Name y p2] [] pos) (tSw te c w) := ⟨fun pins s σ H Q hs I h => by
  refine wpAny_Call_Name_kw (ld_glob I hg hm (PySem.W.callWith_K (h₀ := X.base) I.ok.mod.kin hk ?_ he hpl) hdb)
  rw [he, he1]
  refine Calls.spliced_cons (wpAny_mono (wpAny_toks (ha.run pins s σ H _ I h)) (fun u z1 w1 => ?_) fun _ _ q => q.2)
  obtain ⟨hz, x, H1, I1, r1, a, rfl, hb, q⟩ := w1
  obtain ⟨t1, rfl⟩ := r1
  have fin := wpAny_mono (run_sw (t1 := t1) G gd room bnd np (pass σ) I1 h0 (Nat.lt_of_lt_of_le hn (Nat.le_trans hs hz)) hcw hb q) (fun _ _ q => q.2) fun _ _ q => q
  rcases hy with hy | hy
  · exact Calls.spliced_cons (wpAny_Name (wpAny_loadName_cell I1.ok.kind hy hc1 (hcell _ _ _ _ I1) (Calls.spliced_nil ⟨I1.kIn, fin⟩)) hdy)
  · exact Calls.spliced_cons (wpAny_Name (wpAny_loadName_free I1.ok.kind hy hc1 (hcell _ _ _ _ I1) (Calls.spliced_nil ⟨I1.kIn, fin⟩) hdc) hdy)⟩
/-- the mark is written there -/
theorem pn_swC {j : Nat} (G : SwOk X.prog X.w X.K X.mg X.base cx k f fd ps c) (gd : X.A.guards = some []) (room : Room k X.A) (hg : Gl X fx) (hm : X.mg fx = some (.ref f)) (hk : PySem.W.keepIn X.K (.ref f) = true) (bnd : Binds X.K fd ps []) (np : ps.length = 2) (pass : ∀ σ, PassesAt cx X σ (E σ)) (hcw : (c == w) = false)
    (ha : PE X e te) (hdb : (fx == ("__debug__" : Str)) = false) (he : starEach [e, .Constant (.str w) j p2] X.env = (false, eval e X.env) :: starEach [.Constant (.str w) j p2] X.env) (he1 : starEach [.Constant (.str w) j p2] X.env = [(false, eval (.Constant (.str w) j p2) X.env)]) (hpl : (backTo pos (starEach [.Constant (.str w) j p2] X.env)).any (·.1) = false) :
    PN 1 X (.Call (.Name fx p) [e, .Constant (.str w) j p2] [] pos) (tSw te c w) := ⟨fun pins s σ H Q hs I h => by
  refine wpAny_Call_Name_kw (ld_glob I hg hm (PySem.W.callWith_K (h₀ := X.base) I.ok.mod.kin hk ?_ he hpl) hdb)
  rw [he, he1]
  refine Calls.spliced_cons (wpAny_mono (wpAny_toks (ha.run pins s σ H _ I h)) (fun u z1 w1 => ?_) fun _ _ q => q.2)
  obtain ⟨hz, x, H1, I1, r1, a, rfl, hb, q⟩ := w1
  obtain ⟨t1, rfl⟩ := r1
  refine Calls.spliced_cons (Calls.Constant_str (k := j) (pos := p2) (Calls.spliced_nil ⟨(I1.tok (z1.toks + 1)).kIn, ?_⟩))
  exact wpAny_mono (run_sw G gd room bnd np (pass σ) (I1.tok (z1.toks + 1)) (show z1.toks ≠ 0 by omega) (Nat.lt_succ_self z1.toks) hcw hb q) (fun _ _ q => q.2) fun _ _ q => q⟩
theorem pn_op {op : Operator} {r : R2} (ho : OpR X (binaryOp op) r) (ha : PN n X a ta) (hb : PE X b tb) : PN n X (.BinOp a op b pos) (tOp r ta tb) := ⟨fun pins s σ H Q hs I h => by
  refine wpAny_BinOp (thn (ha.run pins s σ H _ hs I h) fun u z1 w1 => ?_)
  obtain ⟨x, H1, I1, r1, q1⟩ := w1
  refine thn (hb.run pins z1 σ H1 _ I1 q1) fun v z2 w2 => ?_
  obtain ⟨x2, H2, I2, r2, q2⟩ := w2
  exact ho pins z2 σ H2 x x2 u v Q I2 r1 r2 q2⟩
theorem pn_tup {j : Nat} (ha : PN n X e te) (hr : PA X es t) (hs : starEach (e :: es) X.env = (false, eval e X.env) :: starEach es X.env) : PN n X (.Tuple (e :: es) j pos) (tTup (tCons te t)) := ⟨fun pins s σ H Q hn I h => by
  refine wpAny_Tuple_spliced ?_
  rw [hs]
  refine Calls.spliced_cons (thn (ha.run pins s σ H _ hn I h) fun u z1 w1 => ?_)
  obtain ⟨x, H1, I1, r1, q1⟩ := w1
  refine thn (hr.run pos pins z1 σ H1 _ I1 q1) fun us z w2 => ?_
  obtain ⟨xs, H2, I2, r2, hz, q2⟩ := w2
  have new := I2.hok.fresh (Nat.le_refl z.heap.objs.size)
  have up : ∀ (b : Addr) (o : Obj), z.heap.get? b = some o → (z.heap.push { cls := .type "tuple", data := .seq (u :: us).toArray }).get? b = some o := fun _ _ w => Heap.get?_push_of_some _ w
  have rr : Vals (x :: xs) (u :: us) := .cons r1 r2
  exact ⟨by rw [← rr.length]; exact hz, V.ref z.heap.objs.size, upd H2 z.heap.objs.size (.tup (x :: xs)), I2.laid (t' := z.toks) up (Nat.le_refl _) ⟨hz, u :: us, rr, ⟨_, Heap.get?_push_size _ rfl, rfl, _, rfl⟩⟩, rfl, q2 _ new⟩⟩
end
end L2
set_option Elab.async false
set_option linter.all false
set_option maxRecDepth 100000
set_option maxHeartbeats 4000000
/-! a list display whose items want to know what was given out when it began -/
namespace L2
open PySem PySem.Spec PyProof.Rows
/-- what is walked, a state's mark kept -/
structure BI (G : Shared → Prop) (X : Cx) (tg iter : Expr) (wi : TI) : Prop where
  run : ∀ (pins : List (Addr × Obj)) (s : Shared) (σ : St) (H : Hp) (R : It → Hp → Prop), Inv X pins σ H s → G s → wi σ H R →
    wpAny (model X.prog X.w) X.A (eval iter X.env) (fun v s1 => wpAny (model X.prog X.w) X.A (pyIter v) (fun r z => G z ∧ PIE X pins σ tg R r z) X.xe s1) X.xe s
section
variable {X : Cx}
theorem lcB {pins : List (Addr × Obj)} {s : Shared} {σ : St} {H : Hp} {Q : VK} {elt tg iter : Expr} {ifs : List Expr} {scope : Scope} {own : List (Str × Nat)} {pos pos2 : Pos} {wi : TI} {g : TG} {tt : TT} {te : TE} {use : Option (Value → Sem Unit)} {Qf : Value → Shared → Prop} {G : Shared → Prop}
    (hG : ∀ z z' : Shared, (∀ b o, z.heap.get? b = some o → z'.heap.get? b = some o) → z.toks ≤ z'.toks → G z → G z') (calm : X.calm = true) (nd : X.N.Nodup) (I : Inv X pins σ H s) (m : G s) (hi : BI G X tg iter wi) (ok : BlkOk X.N X.env.scope scope own)
    (hg : ∀ (z : Shared) (K : Hp) (C : Addr) (cl : List (Str × Addr)) (fp : List Addr), PG (X.blk z K scope (compEnvC scope cl C X.env) fp) tg g) (ht : ∀ (z : Shared) (K : Hp) (C : Addr) (cl : List (Str × Addr)) (fp : List Addr), PTs (X.blk z K scope (compEnvC scope cl C X.env) fp) ifs tt)
    (he : ∀ (z : Shared) (K : Hp) (fp : List Addr), Inv X pins σ K z → G z → (∀ b ∈ fp, FpOk X pins K b) → PN z.toks (X.blk z K scope (compEnvC scope (cellsFrom (z.heap.objs.size + 1) scope.names (cloFrom X.env.cells scope.names [])) z.heap.objs.size X.env) fp) elt te) (hs : ∀ x, foldedSetIterable iter X.env x = pure x) (h : tLc wi g tt te (own.map (·.2)) σ H Q)
    (out : ∀ D C z n K, Inv X pins σ K z → Q (.ref D) K → z.heap.Ns C n → FpOk X pins K C → compPost (model X.prog X.w) X.A X.xe use Qf (.ref D) C (.ok .next) z) :
    wpAny (model X.prog X.w) X.A (comprehension (.ListComp elt [⟨tg, iter, ifs, 0⟩] scope pos) scope X.env pos2 (newList []) false (eval iter X.env) use) Qf X.xe s := by
  have free : ∀ q ∈ scope.names, q.2 = .free → ∃ c, X.env.cells.lookup q.1 = some c := by
    intro q hq e
    rcases ok.free q hq e with z | z
    · exact I.ok.has q.1 (Or.inl z)
    · exact I.ok.has q.1 (Or.inr z)
  refine wpAny_comprehension_free (use := use) rfl hs (closure_ok free) ok.kind (fun q hq e => (ok.uniq q hq).trans (congrArg some e)) ?_
  refine thn (hi.run pins s σ H _ I m h) fun xv s1 w1 => thn w1 fun itv s2 w2 => ?_
  obtain ⟨m2, it, fp, tn, J, H2, rfl, I2, T, st2, f2, q2⟩ := w2
  refine wpAny_newObj_type (newEnv_comp ?_) (show (0 : Nat) ≤ sizeLine by decide)
  generalize eD : s2.heap.objs.size = D
  have fresh : H2 D = none := I2.hok.fresh (Nat.le_of_eq eD)
  obtain ⟨W, ⟨n0, w0⟩, turn⟩ := q2 D fresh
  generalize e3 : ({ s2 with heap := s2.heap.push { cls := .type "list", data := .seq ([] : List Value).toArray } } : Shared) = s3
  have heap3 : s3.heap = s2.heap.push { cls := .type "list", data := .seq ([] : List Value).toArray } := by rw [← e3]
  have keep3 : ∀ (b : Addr) (o : Obj), s2.heap.get? b = some o → s3.heap.get? b = some o := fun b o z => by rw [heap3]; exact Heap.get?_push_of_some _ z
  have I3 : Inv X pins σ (upd H2 D (.lst [])) s3 := by
    rw [← e3]
    refine I2.laid (t' := s2.toks) (fun b o z => Heap.get?_push_of_some _ z) (Nat.le_of_eq eD) ⟨Nat.zero_le _, [], 0, .nil, ?_⟩
    subst eD
    exact Heap.get?_push_size _ rfl
  have m3 : G s3 := hG s2 s3 keep3 (by rw [← e3]; exact Nat.le_refl _) m2
  have below : ∀ b ∈ fp, b < s2.heap.objs.size := by
    intro b hb
    obtain ⟨o, z, _⟩ := T.obj _ _ st2 b hb
    exact Heap.lt_size z
  have f3 : ∀ b ∈ fp, FpOk X pins (upd H2 D (.lst [])) b ∧ b < s3.heap.objs.size := by
    intro b hb
    have lt := below b hb
    refine ⟨⟨?_, (f2 b hb).2⟩, by rw [heap3, Heap.size_push]; exact Nat.lt_succ_of_lt lt⟩
    rw [upd_ne (Nat.ne_of_lt (eD ▸ lt))]
    exact (f2 b hb).1
  have st3 : tn 0 s3.heap := T.keep _ _ _ st2 fun b _ o z => keep3 b o z
  have I4 := block_start I3 ok nd f3
  have pg := hg s3 (upd H2 D (.lst [])) s3.heap.objs.size (cellsFrom (s3.heap.objs.size + 1) scope.names (cloFrom X.env.cells scope.names [])) fp
  have pt := ht s3 (upd H2 D (.lst [])) s3.heap.objs.size (cellsFrom (s3.heap.objs.size + 1) scope.names (cloFrom X.env.cells scope.names [])) fp
  have pe := he s3 (upd H2 D (.lst [])) fp I3 m3 fun b hb => (f3 b hb).1
  have clear : ∀ b ∈ fp, (upd H2 D (.lst [])) b = none := fun b hb => (f3 b hb).1.1
  show codeAny _ _ (.compStart (.ListComp elt [⟨tg, iter, ifs, 0⟩] scope pos) 0 (.ref it) (.ref D) (compEnvC scope (cellsFrom (s3.heap.objs.size + 1) scope.names (cloFrom X.env.cells scope.names [])) s3.heap.objs.size X.env)) (compPost (model X.prog X.w) X.A X.xe use Qf (.ref D) s3.heap.objs.size) { s3 with heap := pushCells (s3.heap.push { cls := .type "dict", data := .dict #[] }) scope.names }
  obtain ⟨ce, hce⟩ : ∃ ce, compEnvC scope (cellsFrom (s3.heap.objs.size + 1) scope.names (cloFrom X.env.cells scope.names [])) s3.heap.objs.size X.env = ce := ⟨_, rfl⟩
  rw [hce] at I4 pg pt pe ⊢
  have cL : ce.locals = s3.heap.objs.size := by rw [← hce]; rfl
  obtain ⟨H3, hH3⟩ : ∃ H3, upd H2 D (.lst []) = H3 := ⟨_, rfl⟩
  rw [hH3] at I3 I4 pg pt pe w0 clear f3
  obtain ⟨s4, hs4⟩ : ∃ s4 : Shared, ({ s3 with heap := pushCells (s3.heap.push { cls := .type "dict", data := .dict #[] }) scope.names } : Shared) = s4 := ⟨_, rfl⟩
  rw [hs4] at I4 ⊢
  have t4 : s3.toks ≤ s4.toks := by rw [← hs4]; exact Nat.le_refl _
  have st4 : tn 0 s4.heap := T.keep _ _ _ st3 fun b _ o z => by rw [← hs4]; exact pushCells_keeps _ _ _ _ (Heap.get?_push_of_some _ z)
  have stat : ∀ {σ' : St} {K : Hp} {z : Shared}, Inv (X.blk s3 H3 scope ce fp) [] σ' K z → (∀ b ∈ fp, K b = none) → ∀ b ∈ fp, FpOk (X.blk s3 H3 scope ce fp) [] K b := by
    intro σ' K z J2 hn b hb
    exact ⟨hn b hb, (J2.ok.exf b hb).1, J2.ok.exfs b hb, .inl hb, fun x c q => (J2.ok.exf b hb).2 x c q, fun p hp => absurd (show p ∈ ([] : List (Addr × Obj)) ++ [] from hp) (by simp)⟩
  have loop : codeAny (model X.prog X.w) X.A (.compLoop (.ListComp elt [⟨tg, iter, ifs, 0⟩] scope pos) 0 (.ref it) (.ref D) ce) (compPost (model X.prog X.w) X.A X.xe use Qf (.ref D) s3.heap.objs.size) s4 := by
    refine compLoop_any (fun n z => ∃ i K, Inv (X.blk s3 H3 scope ce fp) [] (wipe σ (own.map (·.2))) K z ∧ tn i z.heap ∧ (∀ b ∈ fp, K b = none) ∧ W i n K ∧ s3.toks ≤ z.toks) ?_ n0 ⟨0, H3, I4, st4, clear, w0, t4⟩
    rintro n s5 ⟨i, H5, I5, st5, n5, w5, t5⟩
    rcases turn i n H5 w5 with ⟨stop, qq⟩ | ⟨go, Nx, hNx, step⟩
    · refine thnF (T.done (X.blk s3 H3 scope ce fp) rfl rfl rfl calm i [] s5 _ H5 (fun _ _ => False) I5 (stat I5 n5) st5 stop) fun r s6 w6 => ?_
      obtain ⟨rfl, I6⟩ := w6
      have I7 : Inv X pins σ H5 s6 := I3.call' (ch := fp) I6.os I6.base I6.hok I6.bare fun b hb => by
        obtain ⟨⟨_, a2, _, a4, a5, a6⟩, _⟩ := f3 b hb
        exact ⟨a4, a2, a5, a6⟩
      have nC : H5 s3.heap.objs.size = none := by rw [← cL]; exact I6.free
      obtain ⟨mm, hn, _⟩ := I6.loc
      exact out D s3.heap.objs.size s6 mm H5 I7 qq (by rw [← cL]; exact hn) (I3.fpOk (Nat.le_refl _) nC)
    · refine wpAny_with_toks t5 (thnF (T.item (X.blk s3 H3 scope ce fp) rfl rfl rfl calm i [] s5 _ H5 (fun _ _ => False) I5 (stat I5 n5) st5 go) fun r s6 w6 t6 => ?_)
      obtain ⟨u, rfl, w6⟩ := w6
      refine wpAny_with_toks t6 (thnF w6 fun _ s7 w7 t7 => ?_)
      obtain ⟨x, H7, I7, r7, y7, st7, n7⟩ := w7
      have I7p := I7.pinned (stat I7 n7) (T.obj _ _ st7)
      refine wpAny_with_toks t7 (thnF (pg.run _ s7 _ H7 x u _ I7p r7 (step x H7 y7)) fun _ s8 w8 t8 => ?_)
      obtain ⟨σ8, H8, I8, hw8, q8⟩ := w8
      refine wpAny_with_toks t8 (thnF (pt.run _ s8 σ8 H8 _ I8 q8) fun b s9 w9 t9 => ?_)
      obtain ⟨H9, I9, q9⟩ := w9
      have fin : ∀ {z : Shared} {K : Hp}, Inv (X.blk s3 H3 scope ce fp) ([] ++ pinsAt fp s7.heap) σ8 K z → s3.toks ≤ z.toks → Nx K → ∃ m, m < n ∧ ∃ i K, Inv (X.blk s3 H3 scope ce fp) [] (wipe σ (own.map (·.2))) K z ∧ tn i z.heap ∧ (∀ b ∈ fp, K b = none) ∧ W i m K ∧ s3.toks ≤ z.toks := by
        intro z K J2 tz nx
        obtain ⟨m1, lt, wm⟩ := hNx K nx
        have pin : ∀ b ∈ fp, ∀ o, s7.heap.get? b = some o → z.heap.get? b = some o ∧ K b = none := by
          intro b hb o q
          obtain ⟨a1, a2, _⟩ := J2.pin (b, o) (List.mem_append_right _ (List.mem_append_right _ (mem_pinsAt hb q)))
          exact ⟨a1, a2⟩
        refine ⟨m1, lt, i + 1, K, (J2.unpinned (pins := [])).weak (by rw [← hw8, wipe_length]) (fun j v q => ?_), T.keep _ _ _ st7 (fun b hb o q => (pin b hb o q).1), (fun b hb => ?_), wm, tz⟩
        · rw [← hw8] at q
          exact (wipe_some q).1
        · obtain ⟨o, q, _⟩ := T.obj _ _ st7 b hb
          exact (pin b hb o q).2
      cases b with
      | false =>
        rw [if_neg Bool.false_ne_true] at q9 ⊢
        exact fin I9 t9 q9
      | true =>
        rw [if_pos rfl] at q9 ⊢
        refine wpAny_with_toks t9 (thnF (pe.run _ s9 σ8 H9 _ t9 I9 q9) fun o s10 w10 t10 => ?_)
        obtain ⟨yv, H10, I10, r10, acc, hD10, hz10, nx⟩ := w10
        refine wpAny_with_toks t10 (app_ok (X := X.blk s3 H3 scope ce fp) I10 hD10 hz10 r10 fun s11 I11 t11 => fin I11 t11 nx)
  exact codeAny_compStart_list loop (T.self X.A 0 _ _ _ st4 loop)
end
end L2
set_option Elab.async false
set_option linter.all false
set_option maxRecDepth 100000
set_option maxHeartbeats 4000000
/-! what is walked in such displays; the displays as values, as statements -/
namespace L2
open PySem PySem.Spec PyProof.Rows
section
variable {X : Cx} {e l tg iter elt : Expr} {ifs : List Expr} {te : TE} {t : TA} {pos p : Pos} {n : Nat} {y w : Str}
theorem PN.of (h : PE X e te) : PN n X e te := ⟨fun pins s σ H Q _ I q => h.run pins s σ H Q I q⟩
theorem PN.more {n2 : Nat} (h : PN n X e te) (hn : n ≤ n2) : PN n2 X e te := ⟨fun pins s σ H Q h2 I q => h.run pins s σ H Q (Nat.le_trans hn h2) I q⟩
theorem PN.imp {t2 : TE} (h : PN n X e te) (k : ∀ σ H Q, t2 σ H Q → te σ H Q) : PN n X e t2 := ⟨fun pins s σ H Q h2 I q => h.run pins s σ H Q h2 I (k _ _ _ q)⟩
/-- a tuple, the mark kept -/
theorem bi_tup (hl : ME y w X l te) : BI (Mrk y w X) X tg l (iTup X.K te) := ⟨fun pins s σ H R I m h => by
  refine thn (hl.run pins s σ H _ I m h) fun v z q => ?_
  obtain ⟨m1, x, H1, I1, r1, a, rfl, ⟨xs, hq⟩, q1⟩ := q
  cases r1
  obtain ⟨us, _, p, _⟩ := I1.tuple hq
  have tup : z.heap.IsTuple a us.toArray := p
  refine wpAny_pyIter_tuple tup ?_
  have up : ∀ {o : Obj} (b : Addr) (u : Obj), z.heap.get? b = some u → (z.heap.push o).get? b = some u := fun _ _ q => Heap.get?_push_of_some _ q
  refine ⟨m1.kept up (Nat.le_refl _), z.heap.objs.size, [z.heap.objs.size], _, _, H1, rfl, I1.kept (t' := z.toks) up, turn_tuple a _, ⟨_, Heap.get?_push_size _ rfl, rfl, rfl⟩, fun b hb => ?_, q1⟩
  rw [List.mem_singleton.mp hb]
  exact I1.fpOk (Nat.le_refl _) (I1.hok.fresh (Nat.le_refl _))⟩
theorem bi_list (hl : PN n X l te) : BI (fun z => n ≤ z.toks) X tg l (iList X.K te) := ⟨fun pins s σ H R I m h => by
  refine wpAny_mono (wpAny_toks_of m (hl.run pins s σ H _ m I h)) (fun v z q => ?_) fun _ _ q => q.2
  obtain ⟨m1, x, H1, I1, r1, a, rfl, ⟨xs, hq⟩, q1⟩ := q
  cases r1
  obtain ⟨us, _, p, _⟩ := I1.list hq
  refine wpAny_pyIter_list p.isList ?_
  have up : ∀ {o : Obj} (b : Addr) (u : Obj), z.heap.get? b = some u → (z.heap.push o).get? b = some u := fun _ _ q => Heap.get?_push_of_some _ q
  refine ⟨m1, z.heap.objs.size, [z.heap.objs.size], _, _, H1, rfl, I1.kept (t' := z.toks) up, turn_list a _, ⟨_, Heap.get?_push_size _ rfl, rfl, rfl⟩, fun b hb => ?_, q1⟩
  rw [List.mem_singleton.mp hb]
  exact I1.fpOk (Nat.le_refl _) (I1.hok.fresh (Nat.le_refl _))⟩
theorem pn_callB {id : String} {x : Str} {r : List V → Hp → VK → Prop} (hc : CallR X (.builtin id) r) (hg : Gl X x) (hm : X.mg x = none) (hv : bootBuiltins x = some (.builtin id)) (ha : PN n X e te) (hn : x ≠ "__name__") (hd : (x == ("__debug__" : Str)) = false)
    (he : starEach [e] X.env = (false, eval e X.env) :: starEach [] X.env) (hpl : (backTo pos (starEach [] X.env)).any (·.1) = false) : PN n X (.Call (.Name x p) [e] [] pos) (tCB r (tCons te tNil)) := ⟨fun pins s σ H Q m I h => by
  refine wpAny_Call_Name_kw (ld_blt I hg hm hv ?_ hn hd)
  refine PyProof.Rows.callWith_builtin1 ?_ he hpl
  rw [he]
  refine Calls.spliced_cons (thn (ha.run pins s σ H _ m I h) fun u z q => ?_)
  obtain ⟨v, H1, I1, r1, q1⟩ := q
  exact Calls.spliced_nil (hc pins z σ H1 [v] [u] Q I1 (.cons r1 .nil) q1)⟩
theorem pn_lc {G : Shared → Prop} {scope : Scope} {own : List (Str × Nat)} {wi : TI} {g : TG} {tt : TT} (hG : ∀ z : Shared, G z ↔ n ≤ z.toks) (calm : X.calm = true) (nd : X.N.Nodup) (hi : BI G X tg iter wi) (ok : BlkOk X.N X.env.scope scope own)
    (hg : ∀ (z : Shared) (K : Hp) (C : Addr) (cl : List (Str × Addr)) (fp : List Addr), PG (X.blk z K scope (compEnvC scope cl C X.env) fp) tg g) (ht : ∀ (z : Shared) (K : Hp) (C : Addr) (cl : List (Str × Addr)) (fp : List Addr), PTs (X.blk z K scope (compEnvC scope cl C X.env) fp) ifs tt)
    (he : ∀ (z : Shared) (K : Hp) (C : Addr) (cl : List (Str × Addr)) (fp : List Addr), PN n (X.blk z K scope (compEnvC scope cl C X.env) fp) elt te) (hs : ∀ x, foldedSetIterable iter X.env x = pure x) : PN n X (.ListComp elt [⟨tg, iter, ifs, 0⟩] scope pos) (tLc wi g tt te (own.map (·.2))) := ⟨fun pins s σ H Q m I h => by
  rw [eval_ListComp]
  refine lcB (G := G) (fun z z' _ h1 h2 => (hG z').mpr (Nat.le_trans ((hG z).mp h2) h1)) calm nd I ((hG s).mpr m) hi ok hg ht (fun z K fp _ gz _ => (he z K _ _ fp).more ((hG z).mp gz)) hs h fun D C z k K J q hn f => ⟨k, hn, fun h2 sb => ?_⟩
  obtain ⟨f0, f1, _, f3, f4, f5⟩ := f
  exact ⟨V.ref D, K, J.turned (t' := z.toks) (fun b o hb q2 => (sb.2 b hb).trans q2) f0 f1 f3 f4 f5, rfl, q⟩⟩
/-- name = [..] where a mark is kept at the begin -/
theorem psB_setLc {G : Shared → Prop} {i : Nat} {x : Str} {px spos : Pos} {scope : Scope} {own : List (Str × Nat)} {wi : TI} {g : TG} {tt : TT} {pins : List (Addr × Obj)} {s : Shared} {σ : St} {H : Hp} {D : Ends}
    (hG : ∀ z z' : Shared, (∀ b o, z.heap.get? b = some o → z'.heap.get? b = some o) → z.toks ≤ z'.toks → G z → G z') (calm : X.calm = true) (nd : X.N.Nodup) (hy : X.N[i]? = some x) (hyl : X.env.scope.names.lookup x = some .local)
    (hsw : swapsWith (.ListComp elt [⟨tg, iter, ifs, 0⟩] scope pos) (some (.Name x px)) spos.line X.env = pure true) (hi : BI G X tg iter wi) (ok : BlkOk X.N X.env.scope scope own)
    (hg : ∀ (z : Shared) (K : Hp) (C : Addr) (cl : List (Str × Addr)) (fp : List Addr), PG (X.blk z K scope (compEnvC scope cl C X.env) fp) tg g) (ht : ∀ (z : Shared) (K : Hp) (C : Addr) (cl : List (Str × Addr)) (fp : List Addr), PTs (X.blk z K scope (compEnvC scope cl C X.env) fp) ifs tt)
    (he : ∀ (z : Shared) (K : Hp) (fp : List Addr), Inv X pins σ K z → G z → (∀ b ∈ fp, FpOk X pins K b) → PN z.toks (X.blk z K scope (compEnvC scope (cellsFrom (z.heap.objs.size + 1) scope.names (cloFrom X.env.cells scope.names [])) z.heap.objs.size X.env) fp) elt te) (hs : ∀ x, foldedSetIterable iter X.env x = pure x)
    (I : Inv X pins σ H s) (m : G s) (h : tAsg (tLc wi g tt te (own.map (·.2))) (gName i) D σ H) : wpAny (model X.prog X.w) X.A (exec (.Assign [.Name x px] (.ListComp elt [⟨tg, iter, ifs, 0⟩] scope pos) spos) X.env) (SP X pins D) X.xe s := by
  rw [exec_Assign_Name_used _ _ _ _ hsw]
  refine wpAny_bind (wpAny_standAt (wpAny_bind ?_))
  have h : tLc wi g tt te (own.map (·.2)) σ H (fun v K => gName i v σ K D.nx) := h
  refine wpAny_bind (thn (lcB (G := G) (Qf := fun _ z => SP X pins D .next z) (use := some (assign (.Name x px) X.env)) (pos2 := firstIterPos [⟨tg, iter, ifs, 0⟩] pos) hG calm nd I m hi ok hg ht he hs h fun L C z k K J q hn f => ?_) fun _ z q => wpAny_pure (wpAny_pure q))
  show wpAny _ _ (assign (.Name x px) X.env (.ref L)) _ _ _
  obtain ⟨f0, f1, _, f3, f4, f5⟩ := f
  refine wpAny_assign_Name (store_ok2 (v := V.ref L) J nd hy (.inl hyl) rfl (fun z2 J2 ch => ?_) (.inr hyl))
  obtain ⟨a, sb, ha⟩ := ch
  have apart : C ≠ a := by
    rcases ha with rfl | q
    · exact f1
    · exact fun r => f4 x a q r.symm
  exact ⟨k, hn.sameBut sb apart, fun h3 sb3 => ⟨_, K, J2.turned (t' := z2.toks) (fun b o hb r => (sb3.2 b hb).trans r) f0 f1 f3 f4 f5, q⟩⟩
end
end L2
set_option pp.maxSteps 400
set_option Elab.async false
set_option linter.all false
set_option maxRecDepth 100000
set_option maxHeartbeats 4000000
/-! for a, mark in [(a1, mark1), (a2, mark2)]: the marks' tokens are known in the body -/
namespace L2
open PySem PySem.Spec PyProof.Rows
section
variable {X : Cx} {pins : List (Addr × Obj)} {σ : St} {H : Hp} {s : Shared} {y w : Str}
theorem wth {α : Type} {t : Sem α} {Q Q' : α → Shared → Prop} {M : Model} {A : Around} {E : Value → Shared → Prop} {n : Nat} (hn : n ≤ s.toks) (h : wpAny M A t Q E s) (f : ∀ a z, n ≤ z.toks → Q a z → Q' a z) : wpAny M A t Q' E s :=
  wpAny_mono (wpAny_toks_of hn h) (fun a z q => f a z q.1 q.2) fun _ _ q => q.2
theorem both_set {M : Model} {A : Around} {E : Value → Shared → Prop} {c : Addr} {v v0 : Option Value} {Q R : Unit → Shared → Prop} (hc : s.heap.IsCell c v0) (h1 : wpAny M A (cellSet c v) Q E s) (h2 : wpAny M A (cellSet c v) R E s) : wpAny M A (cellSet c v) (fun u z => Q u z ∧ R u z) E s := by
  obtain ⟨o, ho, hd⟩ := hc
  intro Γ p hΓ
  have a := h1 Γ p hΓ
  have b := h2 Γ p hΓ
  unfold cellSet at a b ⊢
  obtain ⟨o1, e1, a⟩ := a
  obtain ⟨o2, e2, b⟩ := b
  rw [ho] at e1 e2
  cases e1
  cases e2
  obtain ⟨cls, dd, data, sl⟩ := o
  obtain rfl : data = .cell v0 := hd
  exact ⟨_, ho, a.1, a.2, b.2⟩
/-- the mark is stored: what its cell holds is known -/
theorem store_mrk {j : Nat} {p : Pos} {t : Tok} {E : Value → Shared → Prop} {Q : Unit → Shared → Prop} (I : Inv X pins σ H s) (nd : X.N.Nodup) (hj : X.N[j]? = some y) (hy : X.env.scope.names.lookup y = some .cell) (hf : X.fn y = true) (h0 : t ≠ 0) (h1 : t < s.toks)
    (h : ∀ z, Inv X pins (σ.set j (some (.str w))) H z → Mrk y w X z → Q () z) : wpAny (model X.prog X.w) X.A (assign (.Name y p) X.env (.str w t)) Q E s := by
  have hk : X.env.kindOf y = some .cell := hy
  obtain ⟨c, hc⟩ := I.ok.has y (.inl hk)
  obtain ⟨v0, hv⟩ := I.cell y c hc
  refine wpAny_assign_Name ?_
  have a1 : wpAny (model X.prog X.w) X.A (storeName X.env y (.str w t)) (fun _ z => Inv X pins (σ.set j (some (.str w))) H z) E s := store_ok (v := V.str w) I nd hj (.inr hy) ⟨t, rfl⟩ (fun z J => J) (.inl hf)
  have a2 : wpAny (model X.prog X.w) X.A (storeName X.env y (.str w t)) (fun _ z => z.heap.IsCell c (some (.str w t)) ∧ t < z.toks) E s := wpAny_storeName_cell I.ok.kind hk hc hv fun h' q _ => ⟨q, h1⟩
  have e : storeName X.env y (.str w t) = cellSet c (some (.str w t)) := by
    unfold storeName
    simp only [hk, I.ok.kind]
    unfold PySem.cellOf
    rw [hc]
    rfl
  rw [e] at a1 a2 ⊢
  exact thn (both_set hv a1 a2) fun _ z q => h z q.1 ⟨c, t, hc, q.2.1, h0, q.2.2⟩
def pairO (b w : Str) (u v : Tok) : Obj := { cls := .type "tuple", data := .seq [Value.str b u, Value.str w v].toArray }
def twoO (a b : Addr) : Obj := { cls := .type "list", data := .seq [Value.ref a, Value.ref b].toArray }
theorem pairs_inv {b1 w1 b2 w2 : Str} {R : Value → Shared → Prop} (I : Inv X pins σ H s) (h : ∀ (z : Shared) (a1 a2 l : Addr) (o1 o2 : Obj) (n : Nat) (u1 u2 u3 u4 : Tok), z.heap.get? a1 = some o1 → z.heap.get? a2 = some o2 → IsTup z.heap a1 #[.str b1 u1, .str w1 u2] → IsTup z.heap a2 #[.str b2 u3, .str w2 u4] → u2 ≠ 0 → u4 ≠ 0 → u2 < n → u4 < n → n ≤ z.toks → H l = none →
      Inv X (pins ++ pinsAt [a1, a2] z.heap) σ (upd H l (.lst [.ref a1, .ref a2])) z → R (.ref l) z) :
    R (.ref ((s.heap.push (pairO b1 w1 s.toks (s.toks + 1))).push (pairO b2 w2 (s.toks + 1 + 1) (s.toks + 1 + 1 + 1))).objs.size) { s with heap := ((s.heap.push (pairO b1 w1 s.toks (s.toks + 1))).push (pairO b2 w2 (s.toks + 1 + 1) (s.toks + 1 + 1 + 1))).push (twoO s.heap.objs.size (s.heap.push (pairO b1 w1 s.toks (s.toks + 1))).objs.size), toks := s.toks + 1 + 1 + 1 + 1 } := by
  generalize e1 : pairO b1 w1 s.toks (s.toks + 1) = o1
  generalize e2 : pairO b2 w2 (s.toks + 1 + 1) (s.toks + 1 + 1 + 1) = o2
  have p1 : ∀ (b : Addr) (u : Obj), s.heap.get? b = some u → (s.heap.push o1).get? b = some u := fun _ _ q => Heap.get?_push_of_some _ q
  have p2 : ∀ (b : Addr) (u : Obj), (s.heap.push o1).get? b = some u → ((s.heap.push o1).push o2).get? b = some u := fun _ _ q => Heap.get?_push_of_some _ q
  have I1 : Inv X pins σ H { s with heap := (s.heap.push o1).push o2, toks := s.toks + 1 + 1 + 1 + 1 } := I.kept fun b u q => p2 b u (p1 b u q)
  have sz1 : (s.heap.push o1).objs.size = s.heap.objs.size + 1 := Heap.size_push ..
  have sz2 : ((s.heap.push o1).push o2).objs.size = s.heap.objs.size + 2 := by rw [Heap.size_push, sz1]
  have new := I1.hok.fresh (Nat.le_refl ((s.heap.push o1).push o2).objs.size)
  generalize e3 : twoO s.heap.objs.size (s.heap.push o1).objs.size = ol
  have p3 : ∀ (b : Addr) (u : Obj), ((s.heap.push o1).push o2).get? b = some u → (((s.heap.push o1).push o2).push ol).get? b = some u := fun _ _ q => Heap.get?_push_of_some _ q
  have g1 : (((s.heap.push o1).push o2).push ol).get? s.heap.objs.size = some o1 := p3 _ _ (p2 _ _ (Heap.get?_push_size _ (by rw [← e1]; rfl)))
  have g2 : (((s.heap.push o1).push o2).push ol).get? (s.heap.push o1).objs.size = some o2 := p3 _ _ (Heap.get?_push_size _ (by rw [← e2]; rfl))
  have I2 : Inv X pins σ (upd H ((s.heap.push o1).push o2).objs.size (.lst [.ref s.heap.objs.size, .ref (s.heap.push o1).objs.size])) { s with heap := ((s.heap.push o1).push o2).push ol, toks := s.toks + 1 + 1 + 1 + 1 } :=
    I1.laid (s := { s with heap := (s.heap.push o1).push o2, toks := s.toks + 1 + 1 + 1 + 1 }) (t' := s.toks + 1 + 1 + 1 + 1) p3 (Nat.le_refl _) ⟨show 2 ≤ sizeLine by decide, [Value.ref s.heap.objs.size, Value.ref (s.heap.push o1).objs.size], 0, .cons rfl (.cons rfl .nil), by rw [← e3]; exact Heap.get?_push_size _ rfl⟩
  have n1 : H s.heap.objs.size = none := I.hok.fresh (Nat.le_refl _)
  have n2 : H (s.heap.push o1).objs.size = none := I.hok.fresh (by rw [sz1]; omega)
  have f1 : ∀ b ∈ [s.heap.objs.size, (s.heap.push o1).objs.size], FpOk X pins (upd H ((s.heap.push o1).push o2).objs.size (.lst [.ref s.heap.objs.size, .ref (s.heap.push o1).objs.size])) b := by
    intro b hb
    have hb : b = s.heap.objs.size ∨ b = (s.heap.push o1).objs.size := by simpa using hb
    have lo : s.heap.objs.size ≤ b := by rcases hb with rfl | rfl <;> omega
    have ne : b ≠ ((s.heap.push o1).push o2).objs.size := by rcases hb with rfl | rfl <;> omega
    refine I.fpOk lo ?_
    rw [upd_ne ne]
    rcases hb with rfl | rfl
    · exact n1
    · exact n2
  have I3 := I2.pinned f1 (by
    intro b hb
    have hb : b = s.heap.objs.size ∨ b = (s.heap.push o1).objs.size := by simpa using hb
    rcases hb with rfl | rfl
    · exact ⟨o1, g1, fun v q => by rw [← e1] at q; cases q⟩
    · exact ⟨o2, g2, fun v q => by rw [← e2] at q; cases q⟩)
  refine h _ _ _ _ _ _ (s.toks + 4) s.toks (s.toks + 1) (s.toks + 2) (s.toks + 3) g1 g2 ⟨o1, g1, by rw [← e1]; rfl, 0, by rw [← e1]; rfl⟩ ⟨o2, g2, by rw [← e2]; rfl, 0, by rw [← e2]; rfl⟩ (show s.toks + 1 ≠ 0 by omega) (show s.toks + 3 ≠ 0 by omega) (show s.toks + 1 < s.toks + 4 by omega) (show s.toks + 3 < s.toks + 4 by omega) (Nat.le_refl _) new I3
/-- the list of two pairs of written texts: the pairs' objects are known -/
theorem pairs_run {b1 w1 b2 w2 : Str} {j1 j2 j3 j4 k1 k2 : Nat} {c1 c2 c3 c4 t1 t2 lp : Pos} {E : Value → Shared → Prop} {R : Value → Shared → Prop} (hl : starEach [.Tuple [.Constant (.str b1) j1 c1, .Constant (.str w1) j2 c2] k1 t1, .Tuple [.Constant (.str b2) j3 c3, .Constant (.str w2) j4 c4] k2 t2] X.env = [(false, eval (.Tuple [.Constant (.str b1) j1 c1, .Constant (.str w1) j2 c2] k1 t1) X.env), (false, eval (.Tuple [.Constant (.str b2) j3 c3, .Constant (.str w2) j4 c4] k2 t2) X.env)])
    (h1 : starEach [.Constant (.str b1) j1 c1, .Constant (.str w1) j2 c2] X.env = [(false, eval (.Constant (.str b1) j1 c1) X.env), (false, eval (.Constant (.str w1) j2 c2) X.env)]) (h2 : starEach [.Constant (.str b2) j3 c3, .Constant (.str w2) j4 c4] X.env = [(false, eval (.Constant (.str b2) j3 c3) X.env), (false, eval (.Constant (.str w2) j4 c4) X.env)])
    (I : Inv X pins σ H s) (h : ∀ (z : Shared) (a1 a2 l : Addr) (o1 o2 : Obj) (n : Nat) (u1 u2 u3 u4 : Tok), z.heap.get? a1 = some o1 → z.heap.get? a2 = some o2 → IsTup z.heap a1 #[.str b1 u1, .str w1 u2] → IsTup z.heap a2 #[.str b2 u3, .str w2 u4] → u2 ≠ 0 → u4 ≠ 0 → u2 < n → u4 < n → n ≤ z.toks → H l = none →
      Inv X (pins ++ pinsAt [a1, a2] z.heap) σ (upd H l (.lst [.ref a1, .ref a2])) z → R (.ref l) z) : wpAny (model X.prog X.w) X.A (eval (.List [.Tuple [.Constant (.str b1) j1 c1, .Constant (.str w1) j2 c2] k1 t1, .Tuple [.Constant (.str b2) j3 c3, .Constant (.str w2) j4 c4] k2 t2] lp) X.env) R E s := by
  refine wpAny_List_spliced ?_
  rw [hl]
  refine Calls.spliced_cons (wpAny_Tuple_spliced (x1 := k1) (pos := t1) ?_)
  rw [h1]
  refine Calls.spliced_cons (Calls.Constant_str (k := j1) (pos := c1) (Calls.spliced_cons (Calls.Constant_str (k := j2) (pos := c2) (Calls.spliced_nil ⟨show 2 ≤ sizeLine by decide, ?_⟩))))
  refine Calls.spliced_cons (wpAny_Tuple_spliced (x1 := k2) (pos := t2) ?_)
  rw [h2]
  refine Calls.spliced_cons (Calls.Constant_str (k := j3) (pos := c3) (Calls.spliced_cons (Calls.Constant_str (k := j4) (pos := c4) (Calls.spliced_nil ⟨show 2 ≤ sizeLine by decide, ?_⟩))))
  refine Calls.spliced_nil ⟨show 2 ≤ sizeLine by decide, ?_⟩
  exact pairs_inv I h
end
end L2
set_option pp.maxSteps 400
set_option Elab.async false
set_option linter.all false
set_option maxRecDepth 100000
set_option maxHeartbeats 4000000
/-! the loop over two pairs of written texts -/
namespace L2
open PySem PySem.Spec PyProof.Rows
def set2 (σ : St) (i j : Nat) (b w : Str) : St := (σ.set i (some (V.str b))).set j (some (V.str w))
/-- first the one pair, then the other; the list is tracked meanwhile -/
def tMarks (i j : Nat) (b1 w1 b2 w2 : Str) (tb1 tb2 : TS) : TS := fun D σ H => ∀ l a1 a2, H l = none →
  tb1 { nx := fun σ1 K => K l = some (.lst [.ref a1, .ref a2]) ∧ tb2 { nx := fun σ2 K => K l = some (.lst [.ref a1, .ref a2]) ∧ D.nx σ2 K, rt := D.rt } (set2 σ1 i j b2 w2) K, rt := D.rt } (set2 σ i j b1 w1) (upd H l (.lst [.ref a1, .ref a2]))
section
variable {X : Cx}
theorem ps_marks {i j : Nat} {x y b1 w1 b2 w2 : Str} {px py tp : Pos} {kt : Nat} {j1 j2 j3 j4 k1 k2 : Nat} {c1 c2 c3 c4 t1 t2 lp pos : Pos} {body : List Stmt} {tb1 tb2 : TS} (hp : PassesOwn (model X.prog X.w) X.A X.env X.xe) (calm : X.calm = true) (nd : X.N.Nodup) (hi : X.N[i]? = some x) (hx : X.env.scope.names.lookup x = some .local) (hj : X.N[j]? = some y) (hy : X.env.scope.names.lookup y = some .cell) (hf : X.fn y = true)
    (hl : starEach [.Tuple [.Constant (.str b1) j1 c1, .Constant (.str w1) j2 c2] k1 t1, .Tuple [.Constant (.str b2) j3 c3, .Constant (.str w2) j4 c4] k2 t2] X.env = [(false, eval (.Tuple [.Constant (.str b1) j1 c1, .Constant (.str w1) j2 c2] k1 t1) X.env), (false, eval (.Tuple [.Constant (.str b2) j3 c3, .Constant (.str w2) j4 c4] k2 t2) X.env)])
    (h1 : starEach [.Constant (.str b1) j1 c1, .Constant (.str w1) j2 c2] X.env = [(false, eval (.Constant (.str b1) j1 c1) X.env), (false, eval (.Constant (.str w1) j2 c2) X.env)]) (h2 : starEach [.Constant (.str b2) j3 c3, .Constant (.str w2) j4 c4] X.env = [(false, eval (.Constant (.str b2) j3 c3) X.env), (false, eval (.Constant (.str w2) j4 c4) X.env)])
    (hn : (assignEach [.Name x px, .Name y py] X.env).length = 2) (hst : (assignEach [.Name x px, .Name y py] X.env).findIdx? (·.1) = none) (hm : (assignEach [.Name x px, .Name y py] X.env).map (·.2) = [assign (.Name x px) X.env, assign (.Name y py) X.env])
    (hs : ∀ v, foldedSetIterable (.List [.Tuple [.Constant (.str b1) j1 c1, .Constant (.str w1) j2 c2] k1 t1, .Tuple [.Constant (.str b2) j3 c3, .Constant (.str w2) j4 c4] k2 t2] lp) X.env v = pure v) (hb1 : MSs y w1 X body tb1) (hb2 : MSs y w2 X body tb2) :
    PS X (.For (.Tuple [.Name x px, .Name y py] kt tp) (.List [.Tuple [.Constant (.str b1) j1 c1, .Constant (.str w1) j2 c2] k1 t1, .Tuple [.Constant (.str b2) j3 c3, .Constant (.str w2) j4 c4] k2 t2] lp) body [] pos) (tMarks i j b1 w1 b2 w2 tb1 tb2) := ⟨fun pins s σ H D I h => by
  refine wpAny_For (pairs_run hl h1 h2 I fun z a1 a2 l o1 o2 n u1 u2 u3 u4 g1 g2 it1 it2 n2 n4 l2 l4 hz new Iz => ?_) hs
  have h := h l a1 a2 new
  have m1 : (a1, o1) ∈ pins ++ pinsAt [a1, a2] z.heap := List.mem_append_right _ (mem_pinsAt (by simp) g1)
  have m2 : (a2, o2) ∈ pins ++ pinsAt [a1, a2] z.heap := List.mem_append_right _ (mem_pinsAt (by simp) g2)
  have back : ∀ {σ1 : St} {K : Hp} {r : Shared}, Inv X (pins ++ pinsAt [a1, a2] z.heap) σ1 K r → Inv X pins σ1 K r := fun J => J.unpinned
  generalize pins ++ pinsAt [a1, a2] z.heap = pn at Iz m1 m2 back ⊢
  have kl : (upd H l (.lst [.ref a1, .ref a2])) l = some (.lst [.ref a1, .ref a2]) := upd_same
  generalize upd H l (.lst [.ref a1, .ref a2]) = H1 at Iz kl h
  obtain ⟨us, _, pl, _⟩ := Iz.list (SqL.of kl)
  refine wpAny_pyIter_list pl.isList ?_
  generalize eo : ({ cls := .type "list_iterator", data := .fields #[.ref l, .int 0 0] } : Obj) = oi
  have up : ∀ (b : Addr) (u : Obj), z.heap.get? b = some u → (z.heap.push oi).get? b = some u := fun _ _ q => Heap.get?_push_of_some _ q
  have Iz2 : Inv X pn σ H1 { z with heap := z.heap.push oi } := Iz.kept (t' := z.toks) up
  have gi : (z.heap.push oi).get? z.heap.objs.size = some oi := Heap.get?_push_size _ (by rw [← eo]; rfl)
  have fi : ∀ {K : Hp}, K z.heap.objs.size = none → ∀ b ∈ [z.heap.objs.size], FpOk X pn K b := fun {K} q b hb => by
    rw [List.mem_singleton.mp hb]
    exact Iz.fpOk (Nat.le_refl _) q
  have T := turn_list (P := X.prog) (w := X.w) (K := X.K) (tg := .Tuple [.Name x px, .Name y py] kt tp) l z.heap.objs.size
  have fresh := Iz.hok.fresh (Nat.le_refl z.heap.objs.size)
  generalize z.heap.objs.size = it at *
  refine codeAny_forLoop_any (fun m r => ∃ e σ1 K, m + e = 2 ∧ Inv X pn σ1 K r ∧ r.heap.IsListIter it l e ∧ K it = none ∧ K l = some (.lst [.ref a1, .ref a2]) ∧ n ≤ r.toks ∧
    (e = 0 → tb1 { nx := fun σ1 K => K l = some (.lst [.ref a1, .ref a2]) ∧ tb2 { nx := fun σ2 K => K l = some (.lst [.ref a1, .ref a2]) ∧ D.nx σ2 K, rt := D.rt } (set2 σ1 i j b2 w2) K, rt := D.rt } (set2 σ1 i j b1 w1) K) ∧
    (e = 1 → tb2 { nx := fun σ2 K => K l = some (.lst [.ref a1, .ref a2]) ∧ D.nx σ2 K, rt := D.rt } (set2 σ1 i j b2 w2) K) ∧ (e = 2 → D.nx σ1 K)) ?_ 2 ⟨0, σ, H1, rfl, Iz2, ⟨oi, gi, by rw [← eo], by rw [← eo]; rfl⟩, fresh, kl, hz, fun _ => h, (fun q => by cases q), (fun q => by cases q)⟩
  rintro m s3 ⟨e, σ3, K3, em, I3, st3, fr3, kl3, t3, r0, r1, r2⟩
  by_cases e2 : e = 2
  · refine wpAny_passesOwn hp (thn (T.done X rfl rfl rfl calm e pn s3 σ3 K3 X.xe I3 (fi fr3) st3 ⟨_, SqL.of kl3, by rw [e2]; exact Nat.le_refl _⟩) fun r s4 q => ?_)
    obtain ⟨rfl, I4⟩ := q
    exact wpAny_execs_nil ⟨σ3, K3, back I4, r2 e2⟩
  · obtain ⟨a, o, b, w, ub, uw, tb, Z, ma, ita, ga, n0, l0, hb, ix, rd, nxt⟩ : ∃ (a : Addr) (o : Obj) (b w : Str) (ub uw : Tok) (tb : TS) (Z : St → Hp → Prop), (a, o) ∈ pn ∧ IsTup z.heap a #[.str b ub, .str w uw] ∧ z.heap.get? a = some o ∧ uw ≠ 0 ∧ uw < n ∧ MSs y w X body tb ∧ [V.ref a1, V.ref a2][e]? = some (V.ref a) ∧
        tb { nx := fun σ2 K => K l = some (.lst [.ref a1, .ref a2]) ∧ Z σ2 K, rt := D.rt } (set2 σ3 i j b w) K3 ∧
        ∀ σ2 K, Z σ2 K → (e + 1 = 1 → tb2 { nx := fun σ2 K => K l = some (.lst [.ref a1, .ref a2]) ∧ D.nx σ2 K, rt := D.rt } (set2 σ2 i j b2 w2) K) ∧ (e + 1 = 2 → D.nx σ2 K) := by
      have e01 : e = 0 ∨ e = 1 := by omega
      rcases e01 with rfl | rfl
      · exact ⟨a1, o1, b1, w1, u1, u2, tb1, _, m1, it1, g1, n2, l2, hb1, rfl, r0 rfl, fun σ2 K q => ⟨fun _ => q, fun q => by cases q⟩⟩
      · exact ⟨a2, o2, b2, w2, u3, u4, tb2, _, m2, it2, g2, n4, l4, hb2, rfl, r1 rfl, fun σ2 K q => ⟨(fun q => by cases q), fun _ => q⟩⟩
    refine wpAny_passesOwn hp (wth t3 (T.item X rfl rfl rfl calm e pn s3 σ3 K3 X.xe I3 (fi fr3) st3 ⟨_, _, SqL.of kl3, ix⟩) fun r s4 t4 q4 => ?_)
    obtain ⟨u, rfl, q4⟩ := q4
    refine wpAny_passesOwn hp (wth t4 q4 fun _ s5 t5 q5 => ?_)
    obtain ⟨x5, K5, I5, r5, ⟨rfl, y5⟩, st5, fr5⟩ := q5
    obtain rfl : V.ref a = x5 := Option.some.inj (ix.symm.trans (y5 _ (SqL.of kl3)))
    obtain rfl : u = .ref a := r5
    have I5p := I5.pinned (fi (fr5 it (by simp))) (T.obj _ _ st5)
    have tup : IsTup s5.heap a #[.str b ub, .str w uw] := by
      obtain ⟨o9, h9, c9⟩ := ita
      rw [ga] at h9
      cases h9
      exact ⟨o, (I5.pin (a, o) (List.mem_append_right _ ma)).1, c9⟩
    refine wpAny_passesOwn hp (assign_Tuple_tuple (I5p.ok.hd calm) tup hn hst fun h' hh => ?_)
    have I6 : Inv X (pn ++ pinsAt [it] s5.heap) σ3 K5 { s5 with heap := h' } := I5p.kept (t' := s5.toks) fun c v q => hh c v (Nat.ne_of_lt (Heap.lt_size q)) q
    rw [hm]
    refine assignInOrder_cons (wth (s := { s5 with heap := h' }) t5 (wpAny_assign_Name (store_ok (v := V.str b) (Q := fun _ r => Inv X (pn ++ pinsAt [it] s5.heap) (σ3.set i (some (V.str b))) K5 r) I6 nd hi (.inl hx) ⟨ub, rfl⟩ (fun r J => J) (.inr hx))) fun _ s7 t7 I7 => ?_)
    refine assignInOrder_cons (wth t7 (store_mrk (Q := fun _ r => Inv X (pn ++ pinsAt [it] s5.heap) (set2 σ3 i j b w) K5 r ∧ Mrk y w X r) I7 nd hj hy hf n0 (Nat.lt_of_lt_of_le l0 t7) fun r J k => ⟨J, k⟩) fun _ s8 t8 q8 => ?_)
    obtain ⟨I8, k8⟩ := q8
    refine assignInOrder_nil (wpAny_passesOwn hp (wth t8 (hb.run _ s8 _ K5 _ I8 k8 rd) fun f s9 t9 q9 => ?_))
    cases f with
    | next =>
      obtain ⟨σ9, K9, I9, kl9, z9⟩ := q9
      obtain ⟨v1, v2⟩ := nxt σ9 K9 z9
      have pin : ∀ c ∈ [it], ∀ ob, s5.heap.get? c = some ob → s9.heap.get? c = some ob ∧ K9 c = none := fun c hc ob q => by
        obtain ⟨p1, p2, _⟩ := I9.pin (c, ob) (List.mem_append_right _ (List.mem_append_right _ (mem_pinsAt hc q)))
        exact ⟨p1, p2⟩
      obtain ⟨ob, hob, _⟩ := T.obj _ _ st5 it (by simp)
      exact ⟨m - 1, by omega, e + 1, σ9, K9, by omega, I9.unpinned, T.keep _ _ _ st5 (fun c hc ob q => (pin c hc ob q).1), (pin it (by simp) ob hob).2, kl9, t9, (fun q => by omega), v1, v2⟩
    | ret v =>
      obtain ⟨x9, σ9, K9, I9, r9, z9⟩ := q9
      exact ⟨x9, σ9, K9, back I9.unpinned, r9, z9⟩
    | brk =>
      obtain ⟨_, _, _, z9⟩ := q9
      exact z9.elim
    | cont =>
      obtain ⟨_, _, _, z9⟩ := q9
      exact z9.elim⟩
end
end L2
set_option pp.maxSteps 400
set_option Elab.async false
set_option linter.all false
set_option maxRecDepth 100000
set_option maxHeartbeats 4000000
/-! what is computed there -/
namespace L2
open PySem PySem.Spec PyProof.Rows
section
variable {y w : Str} {X : Cx} {o : Expr} {to : TE}
/-- t.lower() -/
theorem me_lower {apos pos : Pos} (ho : ME y w X o to) (hb : attributeBase o "lower" X.env (eval o X.env) = eval o X.env) (hl : (apos.endLine == pos.line) = true) :
    ME y w X (.Call (.Attribute o "lower" apos) [] [] pos) (fun σ H Q => to σ H fun x H1 => ∃ a, x = .str a ∧ a.length ≤ 5592405 ∧ Q (.str (Txt.lower a)) H1) := ⟨fun pins s σ H Q I m h => by
  refine wpAny_Call_method0_late hb hl (thn (ho.run pins s σ H _ I m h) fun v z q => ?_)
  obtain ⟨m1, x, H1, I1, r1, a, rfl, ha, q⟩ := q
  obtain ⟨t, rfl⟩ := r1
  refine ⟨"str", _, PySem.F.plainAttrs_str, PySem.F.slot_str_lower, PySem.F.type_str_lower, typeIs_str _ _ _, (fun _ e => nomatch e), ?_⟩
  refine Calls.callWith_builtin rfl (PySem.evalArgs_none (PySem.SC.lower (PyProof.Rows.short24 (by have := PyProof.Rows.len_lower a; omega)) ?_))
  exact ⟨m1.kept (fun _ _ z => z) (Nat.le_succ _), V.str (Txt.lower a), H1, I1.tok _, ⟨_, rfl⟩, q⟩⟩
end
end L2
namespace L3
open PySem PySem.Spec L2
/-- a text with a sign replaced by a text -/
def repM (c : Nat) (w a : List Nat) : List Nat := a.flatMap fun x => if x = c then w else [x]
theorem repM_cons (c : Nat) (w : List Nat) (x : Nat) (a : List Nat) : repM c w (x :: a) = (if x = c then w else [x]) ++ repM c w a := by
  unfold repM
  rw [List.flatMap_cons]
theorem rep_list (c : Nat) (w : List Nat) : ∀ a : List Nat, StrLaws.replL [c] w a = repM c w a
  | [] => StrLaws.replL_nil
  | x :: a => by
    rw [repM_cons]
    by_cases h : x = c
    · rw [if_pos h, StrLaws.replL_hit (by simp) (by simp [h])]
      show w ++ StrLaws.replL [c] w a = _
      rw [rep_list c w a]
    · rw [if_neg h, StrLaws.replL_miss (by simpa using h), rep_list c w a]
      rfl
theorem rep_tx (c : Nat) (w a : List Nat) : Txt.replace (tx a) (tx [c]) (tx w) = tx (repM c w a) := by
  refine Str.ext' ?_
  have h := StrLaws.replace_list (x := tx a) (y := tx [c]) (z := tx w) (Nat.le_refl 1)
  have h2 : (Txt.replace (tx a) (tx [c]) (tx w)).cps.toList = repM c w a := by
    rw [h, ← rep_list]
  rw [← Array.toList_inj, h2]
section
variable {Y : Pc} {X : Cx} {W : WX} {a b e v : Expr} {es : List Expr} {pos p p2 : Pos} {K : PySem.W.Frag} {F H : Hp} {ρ : List Addr} {S : Store} {ra rb : Ev → Store → Res D} {rs : Ev → Store → Res (List D)} {rt : Ev → Store → Res Bool} {y w : Str} {n : Nat}
def rSw (c : Nat) (w : List Nat) (ra : Ev → Store → Res D) : Ev → Store → Res D := fun env S => (ra env S).bind fun d S1 => match d with
  | .str a => if a.length ≤ 1000 ∧ w.length ≤ 1000 then .ok (.str (repM c w a)) S1 else .stuck
  | _ => .stuck
theorem ev_sw {c : Nat} {w : List Nat} {te : TE} (hw : OkT w) (h : EvE K Y W te ra) : EvE K Y W (tSw te (tx [c]) (tx w)) (rSw c w ra) := fun F ρ S H σ env Q R E o => by
  refine h.then R E o fun d u S1 F1 ρ1 H1 R1 n1 E1 ru o1 => ?_
  cases ru with
  | str a ha =>
    have o1 : Out K Y F1 ρ1 H1 (if a.length ≤ 1000 ∧ w.length ≤ 1000 then Res.ok (D.str (repM c w a)) S1 else .stuck) (fun d _ F' ρ' H' => ∀ u, RD K F' ρ' u d → Q u H') (fun c H' => W c none σ H') := o1
    by_cases hl : a.length ≤ 1000 ∧ w.length ≤ 1000
    · rw [if_pos hl] at o1
      refine ⟨tx a, rfl, ?_, ?_⟩
      · rw [tx_len, tx_len]
        have := Nat.mul_le_mul (show a.length + 1 ≤ 1001 by omega) hl.2
        omega
      · rw [rep_tx]
        refine Out.now o1 R1 _ (.str _ fun x hx => ?_)
        obtain ⟨z, hz, hx⟩ := List.mem_flatMap.mp hx
        split at hx
        · exact hw x hx
        · rw [List.mem_singleton.mp hx]; exact ha z hz
    · rw [if_neg hl] at o1
      exact o1.elim
  | _ => exact False.elim o1
theorem ev_nil2 : EvA K Y W tNil rNil := fun F ρ S H σ env Q R E h => Out.now h R [] .nil
theorem ev_cons2 {te : TE} {t : TA} (a2 : EvE K Y W te ra) (b2 : EvA K Y W t rs) : EvA K Y W (tCons te t) (rCons ra rs) := fun F ρ S H σ env Q R E h =>
  a2.then R E h fun d u S1 F1 ρ1 H1 R1 n1 E1 ru o1 => b2.then R1 E1 o1 fun ds us S2 F2 ρ2 H2 R2 n2 E2 rus o2 => Out.now o2 R2 _ (.cons (ru.mono n2.ex n2.pre) rus)
theorem ev_tup2 {t : TA} (a2 : EvA K Y W t rs) : EvE K Y W (tTup t) (rTup rs) := fun F ρ S H σ env Q R E h => a2.then R E h fun ds us S1 F1 ρ1 H1 R1 n1 E1 ru o1 => by
  by_cases hl : ds.length ≤ 100000
  · rw [if_pos hl] at o1
    refine ⟨small _ (by rw [ru.length]; exact hl), fun p hp => ?_⟩
    obtain ⟨R2, n2, e2⟩ := R1.new (o := .tup us) hp
    exact o1 _ _ _ R2 n2 _ (.tup (Or.inl (Or.inl e2)) (ru.mono n2.ex n2.pre))
  · rw [if_neg hl] at o1
    exact False.elim o1
def neI : Op2 := fun _ x y => match x, y with
  | .int i, .int j => some (.bl (!decide (i = j)))
  | _, _ => none
theorem neI_ok : OpOk K Y neI (fun x z H Q => ∃ i j, x = .int i ∧ z = .int j ∧ Q (.bl (!decide (i = j))) H) := fun F ρ S H x y dx dy d Q R rx ry e k => by
  cases rx <;> cases ry <;> try (cases e; done)
  cases e
  exact ⟨_, _, rfl, rfl, now_bl R k⟩
def addTT : Op2 := fun _ x y => match x, y with
  | .tup xs, .tup ys => if xs.length ≠ 0 ∧ ys.length ≠ 0 ∧ xs.length + ys.length ≤ 1000 then some (.tup (xs ++ ys)) else none
  | _, _ => none
theorem addTT_ok : OpOk K Y addTT (fun x z H Q => ∃ a b xs zs, x = .ref a ∧ z = .ref b ∧ SqT K H a xs ∧ SqT K H b zs ∧ xs ≠ [] ∧ zs ≠ [] ∧ xs.length + zs.length ≤ sizeLine ∧ ∀ p, H p = none → Q (.ref p) (upd H p (.tup (xs ++ zs)))) := fun F ρ S H x y dx dy d Q R rx ry e k => by
  cases rx <;> cases ry <;> try (cases e; done)
  rename_i a xs ds h1 h2 b ys es g1 g2
  have e : (if ds.length ≠ 0 ∧ es.length ≠ 0 ∧ ds.length + es.length ≤ 1000 then some (D.tup (ds ++ es)) else none) = some d := e
  by_cases h : ds.length ≠ 0 ∧ es.length ≠ 0 ∧ ds.length + es.length ≤ 1000
  · rw [if_pos h] at e
    cases e
    have z1 := h2.length
    have z2 := g2.length
    exact ⟨_, _, _, _, rfl, rfl, ex_t R.ex h1, ex_t R.ex g1, (fun q => h.1 (by rw [← z1, q]; rfl)), (fun q => h.2.1 (by rw [← z2, q]; rfl)), small _ (by omega), fun p hp => now_tup R (h2.append g2) hp k⟩
  · rw [if_neg h] at e; cases e
def slTT : OpSl := fun _ x lo hi => match x with
  | .tup ds => if HT.sIx ds.length 0 lo = 0 ∧ HT.sIx ds.length ds.length hi = ds.length then none else some (.tup ((ds.drop (HT.sIx ds.length 0 lo)).take (HT.sIx ds.length ds.length hi - HT.sIx ds.length 0 lo)))
  | _ => none
theorem slTT_ok : SlOk K Y slTT (rSlT K) := fun F ρ S H x dx d lo hi Q R rx e k => by
  cases rx with
  | tup h1 h2 =>
    rename_i p xs ds
    have e : (if HT.sIx ds.length 0 lo = 0 ∧ HT.sIx ds.length ds.length hi = ds.length then none else some (D.tup ((ds.drop (HT.sIx ds.length 0 lo)).take (HT.sIx ds.length ds.length hi - HT.sIx ds.length 0 lo)))) = some d := e
    by_cases hw : HT.sIx ds.length 0 lo = 0 ∧ HT.sIx ds.length ds.length hi = ds.length
    · rw [if_pos hw] at e; cases e
    · rw [if_neg hw] at e
      cases e
      refine ⟨p, xs, rfl, ex_t R.ex h1, by rw [h2.length]; exact hw, fun q hq => now_tup R ?_ hq k⟩
      unfold cutV
      rw [h2.length]
      exact (h2.drop _).take _
  | _ => cases e
end
end L3
set_option pp.maxSteps 400
set_option Elab.async false
set_option linter.all false
set_option maxRecDepth 100000
set_option maxHeartbeats 4000000
/-! syntax that computes, a mark's token known -/
namespace L2
open PySem PySem.Spec PyProof.Rows
theorem blk_look {X : Cx} {scope : Scope} {z : Shared} {y : Str} {c : Addr} (uniq : ∀ q ∈ scope.names, scope.names.lookup q.1 = some q.2) (hl : scope.names.lookup y = some .free) (hc : X.env.cells.lookup y = some c) :
    (cellsFrom (z.heap.objs.size + 1) scope.names (cloFrom X.env.cells scope.names [])).lookup y = some c := by
  have hy := PySem.mem_of_lookup hl
  have e : (z.heap.push { cls := .type "dict", data := .dict #[] }).objs.size = z.heap.objs.size + 1 := Heap.size_push ..
  rw [← e]
  obtain ⟨d, hd⟩ := mem_lookup (cells_acc (names := scope.names) (n := (z.heap.push { cls := .type "dict", data := .dict #[] }).objs.size) (cloFrom_has (cells := X.env.cells) (acc := []) hy))
  rw [hd]
  rcases cells_mem (PySem.mem_of_lookup hd) with m | ⟨m, _, _⟩
  · rcases cloFrom_mem m with m | ⟨_, rfl⟩
    · cases m
    · rw [hc]; rfl
  · have q := uniq _ m
    rw [hl] at q
    cases q
end L2
namespace L3
open PySem PySem.Spec L2
section
variable {Y : Pc} {X : Cx} {W : WX} {a b e v : Expr} {es : List Expr} {pos p p2 : Pos} {K : PySem.W.Frag} {ra rb : Ev → Store → Res D} {rs : Ev → Store → Res (List D)} {rt rta rtb : Ev → Store → Res Bool} {m m' : SM} {y w : Str} {k : Nat}
structure SMe (y w : Str) (Y : Pc) (X : Cx) (W : WX) (e : Expr) (r : Ev → Store → Res D) : Prop where
  ex : ∃ te, ME y w X e te ∧ EvE X.K Y W te r
structure SMb (y w : Str) (Y : Pc) (X : Cx) (W : WX) (e : Expr) (r : Ev → Store → Res Bool) : Prop where
  ex : ∃ te, MT y w X e te ∧ EvT X.K Y W te r
structure SMw (y w : Str) (Y : Pc) (X : Cx) (W : WX) (e : Expr) (r : Ev → Store → Res Bool) : Prop where
  ex : ∃ te, MWh y w X e te ∧ EvT X.K Y W te r
structure SMa (y w : Str) (Y : Pc) (X : Cx) (W : WX) (es : List Expr) (r : Ev → Store → Res (List D)) : Prop where
  ex : ∃ te, MA y w X es te ∧ EvA X.K Y W te r
structure SMst (y w : Str) (Y : Pc) (X : Cx) (W : WX) (st : Stmt) (r : SM) : Prop where
  ex : ∃ ts, MSt y w X st ts ∧ EvS X.K Y W ts r
structure SMss (y w : Str) (Y : Pc) (X : Cx) (W : WX) (st : List Stmt) (r : SM) : Prop where
  ex : ∃ ts, MSs y w X st ts ∧ EvS X.K Y W ts r
theorem sme_var (i : Nat) {x : Str} (hN : X.N[i]? = some x := by rfl) (hv : Vis X.env.scope x := by first | exact Or.inl rfl | exact Or.inr (Or.inl rfl) | exact Or.inr (Or.inr rfl)) (hd : (x == ("__debug__" : Str)) = false := by decide)
    (hcd : (x == ("__classdict__" : Str)) = false := by decide) : SMe y w Y X W (.Name x pos) (rVar i) := ⟨tVar i, me_var hN hv hd hcd, ev_var i⟩
theorem sme_int {i : Int} {j : Nat} : SMe y w Y X W (.Constant (.int i) j pos) (rC (.int i)) := ⟨_, me_int, ev_c fun _ _ => .int i⟩
theorem sme_str {x : Str} {l : List Nat} {j : Nat} (h : x.cps.toList = l := by decide +kernel) (ho : l.all (fun c => decide (c < 1114112)) = true := by decide +kernel) : SMe y w Y X W (.Constant (.str x) j pos) (rC (.str l)) := ⟨_, me_str, ev_c fun _ _ => by
  rw [tx_of h]
  exact .str l (fun c hc => of_decide_eq_true (List.all_eq_true.mp ho c hc))⟩
theorem sma_nil : SMa y w Y X W [] rNil := ⟨_, ma_nil, ev_nil2⟩
theorem sma_cons (ha : SMe y w Y X W e ra) (hr : SMa y w Y X W es rs) (hs : starEach (e :: es) X.env = (false, eval e X.env) :: starEach es X.env := by rfl) : SMa y w Y X W (e :: es) (rCons ra rs) := by
  obtain ⟨ta, a1, a2⟩ := ha.ex
  obtain ⟨tb, b1, b2⟩ := hr.ex
  exact ⟨_, ma_cons a1 b1 hs, ev_cons2 a2 b2⟩
theorem sme_tup {j : Nat} (h : SMa y w Y X W es rs) : SMe y w Y X W (.Tuple es j pos) (rTup rs) := by
  obtain ⟨ta, a1, a2⟩ := h.ex
  exact ⟨_, me_tup a1, ev_tup2 a2⟩
theorem sme_def {lvl n : Nat} {f : FSem} {x : Str} (C : Ok X W k) (h : DefOk X.prog X.w X.K X.mg X.base Y x n lvl f) (hj : lvl ≤ k) (ha : SMa y w Y X W (e :: es) rs) (hl : Len n rs) (hg : Gl X x := by rfl)
    (hdb : (x == ("__debug__" : Str)) = false := by decide) (he : starEach (e :: es) X.env = (false, eval e X.env) :: starEach es X.env := by rfl) (hpl : (backTo pos (starEach es X.env)).any (·.1) = false := by rfl) :
    SMe y w Y X W (.Call (.Name x p) (e :: es) [] pos) (rCall f rs) := by
  obtain ⟨fa, fd, ps, h1, h2, h3, h4⟩ := h.ex
  obtain ⟨ta, a1, a2⟩ := ha.ex
  exact ⟨_, me_gn h1 C.gd (C.room.mono hj) hg h2 h3 h4 C.tk a1 hdb he hpl, ev_call a2 hl.eq⟩
/-- a def that replaces c by its second argument -/
structure SwDef (P : Program) (w : World) (K : PySem.W.Frag) (mg : Str → Option Value) (base : Heap) (x : Str) (lvl : Nat) (c : Str) : Prop where
  ex : ∃ f fd ps, SwOk P w K mg base (L2.CX P w) lvl f fd ps c ∧ mg x = some (.ref f) ∧ PySem.W.keepIn K (.ref f) = true ∧ Binds K fd ps [] ∧ ps.length = 2
theorem SwOk.lower {P : Program} {w : World} {K : PySem.W.Frag} {mg : Str → Option Value} {base : Heap} {cx : CXT} {k j : Nat} {f : Addr} {fd : FuncData} {ps : List Str} {c : Str} (h : SwOk P w K mg base cx k f fd ps c) (hj : k ≤ j) : SwOk P w K mg base cx j f fd ps c :=
  fun A out s H x z t1 t2 Q E gd room => h A out s H x z t1 t2 Q E gd (room.mono hj)
theorem sme_sw {lvl : Nat} {c : Nat} {wl : List Nat} {x : Str} (C : Ok X W k) (h : SwDef X.prog X.w X.K X.mg X.base x lvl (tx [c])) (hj : lvl ≤ k) (ha : SMe y (tx wl) Y X W e ra) (hw : OkT wl) (hcw : ((tx [c] : Str) == tx wl) = false) (hy : X.env.kindOf y = some .cell := by rfl) (hg : Gl X x := by rfl)
    (hdb : (x == ("__debug__" : Str)) = false := by decide) (hdy : (y == ("__debug__" : Str)) = false := by decide) (he : starEach [e, .Name y p2] X.env = (false, eval e X.env) :: starEach [.Name y p2] X.env := by rfl) (he1 : starEach [.Name y p2] X.env = [(false, eval (.Name y p2) X.env)] := by rfl) (hpl : (backTo pos (starEach [.Name y p2] X.env)).any (·.1) = false := by rfl) :
    SMe y (tx wl) Y X W (.Call (.Name x p) [e, .Name y p2] [] pos) (rSw c wl ra) := by
  obtain ⟨fa, fd, ps, h1, h2, h3, h4, h5⟩ := h.ex
  obtain ⟨ta, a1, a2⟩ := ha.ex
  exact ⟨_, me_sw (E := WE W) (SwOk.lower h1 hj) C.gd C.room hg h2 h3 h4 h5 C.tk hcw hy a1 hdb hdy he he1 hpl, ev_sw hw a2⟩
theorem sme_lower {o : Expr} {apos : Pos} (ho : SMe y w Y X W o ra) (hb : attributeBase o "lower" X.env (eval o X.env) = eval o X.env := by rfl) (hl : (apos.endLine == pos.line) = true := by rfl) : SMe y w Y X W (.Call (.Attribute o "lower" apos) [] [] pos) (rMt tyStr lowerD ra rNil) := by
  obtain ⟨to, o1, o2⟩ := ho.ex
  obtain ⟨r, _, h2⟩ := (smt_lower (Y := Y) (X := X)).ex
  refine ⟨_, me_lower o1 hb hl, fun F ρ S H σ env Q R E h => o2.then R E h fun d u S1 F1 ρ1 H1 R1 n1 E1 ru q1 => ?_⟩
  cases ru with
  | str s hs =>
    have q1 : Out X.K Y F1 ρ1 H1 (liftP (if asc s = true ∧ s.length ≤ 100000 then some (D.str (s.map loA), S1) else none)) (fun d _ F' ρ' H' => ∀ u, RD X.K F' ρ' u d → Q u H') (fun c H' => W c none σ H') := q1
    by_cases hl : asc s = true ∧ s.length ≤ 100000
    · rw [if_pos hl] at q1
      refine ⟨tx s, rfl, by rw [tx_len]; omega, ?_⟩
      rw [lower_tx hl.1]
      refine Out.now q1 R1 _ (.str _ (okT_asc fun c hc => ?_))
      obtain ⟨c', h1, rfl⟩ := List.mem_map.mp hc
      have := asc_tx hl.1 c' h1
      unfold loA
      split <;> omega
    · rw [if_neg hl] at q1
      exact q1.elim
  | _ => exact False.elim q1
theorem sme_cat (ha : SMe y w Y X W a ra) (hb : SMe y w Y X W b rb) : SMe y w Y X W (.BinOp a .Add b pos) (r2 addTT ra rb) := by
  obtain ⟨ta, a1, a2⟩ := ha.ex
  obtain ⟨tb, b1, b2⟩ := hb.ex
  exact ⟨_, me_op mop_cat a1 b1, ev_op addTT_ok a2 b2⟩
theorem sme_neg (ha : SMe y w Y X W a ra) : SMe y w Y X W (.UnaryOp .USub a pos) (r1 negD ra) := by
  obtain ⟨ta, a1, a2⟩ := ha.ex
  exact ⟨_, me_neg a1, ev_op1 sop_neg a2⟩
theorem sme_sl {i : Int} {j : Nat} {cp : Pos} (ha : SMe y w Y X W a ra) : SMe y w Y X W (.Subscript a (.Slice none (some (.Constant (.int i) j cp)) none p2) pos) (rSl slTT ra oNone (oSome (rC (.int i)))) := by
  obtain ⟨ta, a1, a2⟩ := ha.ex
  refine ⟨_, me_sl a1, fun F ρ S H σ env Q R E h => a2.then R E h fun d u S1 F1 ρ1 H1 R1 n1 E1 ru o1 => ?_⟩
  have o1 : Out X.K Y F1 ρ1 H1 (lift (slTT S1 d none (some i)) S1) (fun d _ F' ρ' H' => ∀ u, RD X.K F' ρ' u d → Q u H') (fun c H' => W c none σ H') := o1
  obtain ⟨z, hz, kk⟩ := lift_out o1
  exact ⟨i, rfl, slTT_ok F1 ρ1 S1 H1 u d z none (some i) Q R1 ru hz fun F' H' u R' n' r' => kk F' ρ1 H' R' n' u r'⟩
theorem smb_ne (ha : SMe y w Y X W a ra) (hb : SMe y w Y X W b rb) (hm : behindInMarks .NotEq b = false := by rfl) : SMb y w Y X W (.Compare a [.NotEq] [b] pos) (tOf (r2 neI ra rb)) := by
  obtain ⟨ta, a1, a2⟩ := ha.ex
  obtain ⟨tb, b1, b2⟩ := hb.ex
  refine ⟨_, mt_cmp mop_ne a1 b1 hm, fun F ρ S H σ env Q R E h => ?_⟩
  refine (ev_op neI_ok a2 b2).then R E h fun d u S1 F1 ρ1 H1 R1 n1 E1 ru o1 => ?_
  cases ru with
  | bl b => exact ⟨b, rfl, Out.now o1 R1⟩
  | _ => exact False.elim o1
theorem smw_or1 (ha : SMb y w Y X W a rta) : SMw y w Y X W (.BoolOp .Or [a] pos) rta := by
  obtain ⟨t, a1, a2⟩ := ha.ex
  exact ⟨t, mw_or1 a1, a2⟩
theorem smw_or (ha : SMb y w Y X W a rta) (hb : SMw y w Y X W (.BoolOp .Or (b :: es) pos) rtb) : SMw y w Y X W (.BoolOp .Or (a :: b :: es) pos) (tOrR rta rtb) := by
  obtain ⟨t, a1, a2⟩ := ha.ex
  obtain ⟨u, b1, b2⟩ := hb.ex
  refine ⟨_, mw_or a1 b1, fun F ρ S H σ env Q R E h => a2.then R E h fun k S1 F1 ρ1 H1 R1 n1 E1 o1 => ?_⟩
  cases k with
  | false => exact b2 F1 ρ1 S1 H1 σ env Q R1 E1 o1
  | true => exact Out.now o1 R1
theorem smw_b (h : SMw y w Y X W e rt) : SMb y w Y X W e rt := by
  obtain ⟨t, a1, a2⟩ := h.ex
  exact ⟨t, a1.mt, a2⟩
theorem ev_ret2 {te : TE} (h : EvE K Y W te ra) : EvS K Y W (tRet te) (sRet ra) := fun F ρ S H σ env Z R E o => h.thenS R E o fun d u S1 F1 ρ1 H1 R1 n1 E1 ru o1 => OutS.now o1 R1 u ru
theorem ev_next2 : EvS K Y W tNext sNext := fun F ρ S H σ env Z R E h => OutS.now h R σ E
theorem sms_set (i : Nat) {x : Str} (C : Ok X W k) (he : SMe y w Y X W e ra) (hi : X.N[i]? = some x := by rfl) (hx : X.env.scope.names.lookup x = some .local := by rfl) (hne : x ≠ y := by decide +kernel) (hs : swapsWith e (some (.Name x p2)) pos.line X.env = pure false := by rfl) :
    SMst y w Y X W (.Assign [.Name x p2] e pos) (sSet i ra) := by
  obtain ⟨t, a1, a2⟩ := he.ex
  exact ⟨_, ms_set C.nd hi (.inl hx) hx hne a1 hs, ev_set a2⟩
theorem sms_ifRet {c : Expr} (hc : SMb y w Y X W c rt) (he : SE Y X W e ra) : SMst y w Y X W (.If c [.Return (some e) p2] [] pos) (sIf rt (sSeq (sRet ra) sNext) sNext) := by
  obtain ⟨t, h1, h2⟩ := hc.ex
  obtain ⟨u, a1, a2⟩ := he.ex
  refine ⟨_, ms_ifRet h1 a1, fun F ρ S H σ env Z R E h => h2.thenS R E h fun k S1 F1 ρ1 H1 R1 n1 E1 o1 => ?_⟩
  cases k with
  | true => exact ev_seq (ev_ret2 a2) ev_next2 F1 ρ1 S1 H1 σ env Z R1 E1 o1
  | false => exact OutS.now o1 R1 σ E1
theorem smss_cons {st : Stmt} {sts : List Stmt} (h : SMst y w Y X W st m) (h' : SMss y w Y X W sts m') : SMss y w Y X W (st :: sts) (sSeq m m') := by
  obtain ⟨t, h1, h2⟩ := h.ex
  obtain ⟨u, k1, k2⟩ := h'.ex
  exact ⟨_, mss_cons h1 k1, ev_seq h2 k2⟩
end
end L3
set_option pp.maxSteps 400
set_option Elab.async false
set_option linter.all false
set_option maxRecDepth 100000
set_option maxHeartbeats 4000000
/-! displays and loops with marks, what they compute -/
namespace L2
open PySem PySem.Spec PyProof.Rows
section
variable {X : Cx} {rest : List Stmt} {u : TS} {es : List Expr} {t : TA}
/-- behind a tuple that begins with a written text a token is out -/
theorem pss_tupT {i : Nat} {x c0 : Str} {j kt : Nat} {px cp tp pos : Pos} (nd : X.N.Nodup) (hi : X.N[i]? = some x) (hx : Loc X.env.scope x) (hl : X.env.scope.names.lookup x = some .local) (ha : PA X es t) (hs : starEach (.Constant (.str c0) j cp :: es) X.env = (false, eval (.Constant (.str c0) j cp) X.env) :: starEach es X.env)
    (hw : swapsWith (.Tuple (.Constant (.str c0) j cp :: es) kt tp) (some (.Name x px)) pos.line X.env = pure false) (h2 : PSsT X rest u) : PSs X (.Assign [.Name x px] (.Tuple (.Constant (.str c0) j cp :: es) kt tp) pos :: rest) (tSeq (tAsg (tTup (tCons (tC (.str c0)) t)) (gName i)) u) := ⟨fun pins s σ H D I h => by
  refine wpAny_execs_cons (wpAny_Assign_Name (wpAny_Tuple_spliced ?_) hw)
  rw [hs]
  refine Calls.spliced_cons (Calls.Constant_str (k := j) (pos := cp) ?_)
  have I0 : Inv X pins σ H { s with toks := s.toks + 1 } := I.tok _
  refine wth (s := { s with toks := s.toks + 1 }) (n := 1) (Nat.succ_le_succ (Nat.zero_le _)) (ha.run tp pins _ σ H _ I0 h) fun us z tz q => ?_
  obtain ⟨xs, H1, I1, r, hz, q1⟩ := q
  have rr : Vals (V.str c0 :: xs) (Value.str c0 s.toks :: us) := .cons ⟨_, rfl⟩ r
  have new := I1.hok.fresh (Nat.le_refl z.heap.objs.size)
  have up : ∀ (b : Addr) (v : Obj), z.heap.get? b = some v → (z.heap.push { cls := .type "tuple", data := .seq (Value.str c0 s.toks :: us).toArray }).get? b = some v := fun _ _ w => Heap.get?_push_of_some _ w
  refine ⟨by rw [← rr.length]; exact hz, ?_⟩
  have I2 : Inv X pins σ (upd H1 z.heap.objs.size (.tup (V.str c0 :: xs))) { z with heap := z.heap.push { cls := .type "tuple", data := .seq (Value.str c0 s.toks :: us).toArray } } :=
    I1.laid (t' := z.toks) up (Nat.le_refl _) ⟨hz, _, rr, ⟨_, Heap.get?_push_size _ rfl, rfl, _, rfl⟩⟩
  refine wth (s := { z with heap := z.heap.push { cls := .type "tuple", data := .seq (Value.str c0 s.toks :: us).toArray } }) (n := 1) tz (store_ok (v := V.ref z.heap.objs.size) (Q := fun _ r => Inv X pins (σ.set i (some (V.ref z.heap.objs.size))) (upd H1 z.heap.objs.size (.tup (V.str c0 :: xs))) r) I2 nd hi hx rfl (fun r J => J) (.inr hl)) fun _ r tr J => ?_
  exact h2 pins r _ _ D tr J (q1 _ new)⟩
end
end L2
namespace L3
open PySem PySem.Spec L2
section
variable {Y : Pc} {X : Cx} {W : WX} {a b e v elt tg iter : Expr} {es : List Expr} {pos p p2 : Pos} {K : PySem.W.Frag} {ra rb re : Ev → Store → Res D} {rs ri : Ev → Store → Res (List D)} {rt rta rtb : Ev → Store → Res Bool} {m m' : SM} {y w : Str} {k : Nat} {st : Stmt} {sts : List Stmt} {t : Tg} {scope : Scope}
structure SSt (Y : Pc) (X : Cx) (W : WX) (st : Stmt) (r : SM) : Prop where
  ex : ∃ ts, PST X st ts ∧ EvS X.K Y W ts r
structure SSsT (Y : Pc) (X : Cx) (W : WX) (st : List Stmt) (r : SM) : Prop where
  ex : ∃ ts, PSsT X st ts ∧ EvS X.K Y W ts r
theorem sst_of (h : SS Y X W st m) : SSt Y X W st m := by
  obtain ⟨t, h1, h2⟩ := h.ex
  exact ⟨t, PST.of h1, h2⟩
theorem ssst_of (h : SSs Y X W sts m) : SSsT Y X W sts m := by
  obtain ⟨t, h1, h2⟩ := h.ex
  exact ⟨t, PSsT.of h1, h2⟩
theorem ssst_cons (h : SSt Y X W st m) (h' : SSsT Y X W sts m') : SSsT Y X W (st :: sts) (sSeq m m') := by
  obtain ⟨t, h1, h2⟩ := h.ex
  obtain ⟨u, k1, k2⟩ := h'.ex
  exact ⟨_, psst_cons h1 k1, ev_seq h2 k2⟩
theorem sss_tupT (i : Nat) {x c0 : Str} {l : List Nat} {j kt : Nat} {px cp tp : Pos} (C : Ok X W k) (ha : SA Y X W es rs) (h' : SSsT Y X W sts m') (h : c0.cps.toList = l := by decide +kernel) (ho : l.all (fun c => decide (c < 1114112)) = true := by decide +kernel) (hi : X.N[i]? = some x := by rfl) (hx : X.env.scope.names.lookup x = some .local := by rfl)
    (hs : starEach (.Constant (.str c0) j cp :: es) X.env = (false, eval (.Constant (.str c0) j cp) X.env) :: starEach es X.env := by rfl) (hw : swapsWith (.Tuple (.Constant (.str c0) j cp :: es) kt tp) (some (.Name x px)) pos.line X.env = pure false := by rfl) :
    SSs Y X W (.Assign [.Name x px] (.Tuple (.Constant (.str c0) j cp :: es) kt tp) pos :: sts) (sSeq (sSet i (rTup (rCons (rC (.str l)) rs))) m') := by
  obtain ⟨ta, a1, a2⟩ := ha.ex
  obtain ⟨u, k1, k2⟩ := h'.ex
  refine ⟨_, pss_tupT C.nd hi (.inl hx) hx a1 hs hw k1, ev_seq (ev_set (ev_tup2 (ev_cons2 (ev_c fun _ _ => ?_) a2))) k2⟩
  rw [tx_of h]
  exact .str l (fun c hc => of_decide_eq_true (List.all_eq_true.mp ho c hc))
theorem ev_seqI {te : TE} (h : EvE K Y W te ra) : EvI K Y W (iList K te) (iSeq ra) := fun F ρ S H σ env Q R E o => h.then R E o fun d u S1 F1 ρ1 H1 R1 n1 E1 ru o1 => by
  cases ru with
  | lst h1 h2 => exact ⟨_, rfl, ⟨_, SqL.of (R1.ex _ _ h1)⟩, Out.now o1 R1 _ (walks_list (SqL.of h1) h2)⟩
  | _ => exact False.elim o1
theorem ev_tupI {te : TE} (h : EvE K Y W te ra) : EvI K Y W (iTup K te) (iTupS ra) := fun F ρ S H σ env Q R E o => h.then R E o fun d u S1 F1 ρ1 H1 R1 n1 E1 ru o1 => by
  cases ru with
  | tup h1 h2 => exact ⟨_, rfl, ⟨_, ex_t R1.ex h1⟩, Out.now o1 R1 _ (walks_tup h1 h2)⟩
  | _ => exact False.elim o1
/-- name = [..] at the begin of which the mark is known -/
theorem smss_far (i : Nat) {x : Str} {px spos : Pos} (own : List (Str × Nat)) (C : Ok X W k) (hi : SMe y w Y X W iter ra) (ok : blkC X.N X.env.scope scope own = true)
    (hg : ∀ (s : Shared) (H : Hp) (A : Addr) (cl : List (Str × Addr)) (fp : List Addr), STg (XB X scope s H A cl fp) tg t)
    (he : ∀ (pins : List (Addr × Obj)) (σ : L2.St) (z : Shared) (H : Hp) (fp : List Addr), Inv X pins σ H z → Mrk y w X z → (∀ b ∈ fp, FpOk X pins H b) → PN z.toks (XB X scope z H z.heap.objs.size (cellsFrom (z.heap.objs.size + 1) scope.names (cloFrom X.env.cells scope.names [])) fp) elt (canE X.K Y W0 re))
    (h' : SSs Y X W sts m') (hy : X.N[i]? = some x := by rfl) (hyl : X.env.scope.names.lookup x = some .local := by rfl) (hsw : swapsWith (.ListComp elt [⟨tg, iter, [], 0⟩] scope pos) (some (.Name x px)) spos.line X.env = pure true := by exact sw_true rfl rfl rfl (by decide +kernel))
    (hv : ∀ i ∈ t.slots, i ∈ own.map (·.2) := by decide) (hs : ∀ x, foldedSetIterable iter X.env x = pure x := by intro _; rfl) :
    SMss y w Y X W (.Assign [.Name x px] (.ListComp elt [⟨tg, iter, [], 0⟩] scope pos) spos :: sts) (sSeq (sSet i (rLc t (iTupS ra) tYesR re (own.map (·.2)))) m') := by
  obtain ⟨ti, i1, i2⟩ := hi.ex
  obtain ⟨u, k1, k2⟩ := h'.ex
  refine ⟨tSeq (tAsg (tLc (iTup X.K ti) (canG X.K t) (canT X.K Y W0 tYesR) (canE X.K Y W0 re) (own.map (·.2))) (gName i)) u, ⟨fun pins s σ H D I mk h => ?_⟩, ev_seq (ev_set (ev_lc (fin := fun l S2 => .ok (.lst l) S2) (ev_tupI i2) hv fin_lst)) k2⟩
  refine wpAny_execs_cons (thn (psB_setLc (G := Mrk y w X) (D := { D with nx := u D }) (fun z z' q1 q2 q3 => q3.kept q1 q2) C.calm C.nd hy hyl hsw (bi_tup i1) (blkOk_by ok) (fun s H A cl fp => (hg s H A cl fp).can) (fun s H A cl fp => pts_yes) (fun z H fp J mz fz => he pins σ z H fp J mz fz) hs I mk h) fun f z q => ?_)
  cases f with
  | next =>
    obtain ⟨σ1, H1, I1, q1⟩ := q
    exact k1.run pins z σ1 H1 D I1 q1
  | ret => exact q
  | brk => exact q
  | cont => exact q
end
end L3
set_option pp.maxSteps 400
set_option Elab.async false
set_option linter.all false
set_option maxRecDepth 100000
set_option maxHeartbeats 4000000
/-! the displays of replaced texts; the loop over the marks -/
namespace L3
open PySem PySem.Spec L2
section
variable {Y : Pc} {X : Cx} {W : WX} {a b e v elt tg iter : Expr} {es : List Expr} {pos p p2 p3 p4 p5 p6 : Pos} {K : PySem.W.Frag} {ra rb re : Ev → Store → Res D} {rs ri : Ev → Store → Res (List D)} {rt rta rtb : Ev → Store → Res Bool} {m m' : SM} {y w : Str} {k : Nat} {st : Stmt} {sts : List Stmt} {t : Tg} {scope : Scope}
/-- in the block: f(text, mark) + "..", the mark a cell of the frame -/
theorem pn_far {lvl i j c : Nat} {wl sl : List Nat} {x fx suf : Str} {own : List (Str × Nat)} (C : Ok X W k) (h : SwDef X.prog X.w X.K X.mg X.base fx lvl (tx [c])) (hj : lvl ≤ k) (hw : OkT wl) (hcw : ((tx [c] : Str) == tx wl) = false) (ok : blkC X.N X.env.scope scope own = true) (hfree : scope.names.lookup y = some .free)
    (hN : X.N[i]? = some x) (hv : ∀ (s : Shared) (H : Hp) (A : Addr) (cl : List (Str × Addr)) (fp : List Addr), Vis (XB X scope s H A cl fp).env.scope x) (hgl : ∀ (s : Shared) (H : Hp) (A : Addr) (cl : List (Str × Addr)) (fp : List Addr), Gl (XB X scope s H A cl fp) fx)
    (hky : ∀ (s : Shared) (H : Hp) (A : Addr) (cl : List (Str × Addr)) (fp : List Addr), (XB X scope s H A cl fp).env.kindOf y = some .cell ∨ (XB X scope s H A cl fp).env.kindOf y = some .free)
    (he : ∀ (s : Shared) (H : Hp) (A : Addr) (cl : List (Str × Addr)) (fp : List Addr), starEach [.Name x p2, .Name y p3] (XB X scope s H A cl fp).env = (false, eval (.Name x p2) (XB X scope s H A cl fp).env) :: starEach [.Name y p3] (XB X scope s H A cl fp).env)
    (he1 : ∀ (s : Shared) (H : Hp) (A : Addr) (cl : List (Str × Addr)) (fp : List Addr), starEach [.Name y p3] (XB X scope s H A cl fp).env = [(false, eval (.Name y p3) (XB X scope s H A cl fp).env)])
    (hdx : (x == ("__debug__" : Str)) = false := by decide) (hcx : (x == ("__classdict__" : Str)) = false := by decide) (hdf : (fx == ("__debug__" : Str)) = false := by decide) (hdy : (y == ("__debug__" : Str)) = false := by decide) (hcy : (y == ("__classdict__" : Str)) = false := by decide)
    (hsuf : suf.cps.toList = sl := by decide +kernel) (hso : sl.all (fun c => decide (c < 1114112)) = true := by decide +kernel)
    (pins : List (Addr × Obj)) (σ : L2.St) (z : Shared) (H : Hp) (fp : List Addr) (I : Inv X pins σ H z) (mz : Mrk y (tx wl) X z) (fz : ∀ b ∈ fp, FpOk X pins H b) :
    PN z.toks (XB X scope z H z.heap.objs.size (cellsFrom (z.heap.objs.size + 1) scope.names (cloFrom X.env.cells scope.names [])) fp) (.BinOp (.Call (.Name fx p) [.Name x p2, .Name y p3] [] p4) .Add (.Constant (.str suf) j p5) p6) (canE X.K Y W0 (r2 addD (rSw c wl (rVar i)) (rC (.str sl)))) := by
  obtain ⟨fa, fd, ps, h1, h2, h3, h4, h5⟩ := h.ex
  obtain ⟨c1, t2, l1, l2, l3, l4⟩ := mz
  have B := blkOk_by ok
  have CB := blk_ok (scope := scope) C z H z.heap.objs.size (cellsFrom (z.heap.objs.size + 1) scope.names (cloFrom X.env.cells scope.names [])) fp
  have look := blk_look (X := X) (z := z) (fun q hq => B.uniq q hq) hfree l1
  have cell : ∀ pins σ H' s', Inv (XB X scope z H z.heap.objs.size (cellsFrom (z.heap.objs.size + 1) scope.names (cloFrom X.env.cells scope.names [])) fp) pins σ H' s' → s'.heap.IsCell c1 (some (.str (tx wl) t2)) := by
    intro pins2 σ2 H2 s2 J
    obtain ⟨o, ho, hd⟩ := l2
    obtain ⟨sl2, q⟩ := J.base.any ho (I.freeC y c1 l1) (fun hm => (fz c1 hm).2.2.2.2.1 y c1 l1 rfl)
    exact ⟨_, q, hd⟩
  have sw := pn_sw (X := XB X scope z H z.heap.objs.size (cellsFrom (z.heap.objs.size + 1) scope.names (cloFrom X.env.cells scope.names [])) fp) (p := p) (pos := p4) (p2 := p3) (E := WE W0) (SwOk.lower h1 hj) CB.gd CB.room (hgl _ _ _ _ _) h2 h3 h4 h5 CB.tk hcw (hky _ _ _ _ _) look cell l3 l4 (pe_var (i := i) (pos := p2) hN (hv _ _ _ _ _) hdx hcx) hdf hdy hcy (he _ _ _ _ _) (he1 _ _ _ _ _) (by rw [he1]; rfl)
  obtain ⟨r, o1, o2⟩ := (sop_add (Y := Y) (X := XB X scope z H z.heap.objs.size (cellsFrom (z.heap.objs.size + 1) scope.names (cloFrom X.env.cells scope.names [])) fp)).ex
  have ev : EvE X.K Y W0 (tOp r (tSw (tVar i) (tx [c]) (tx wl)) (tC (.str suf))) (r2 addD (rSw c wl (rVar i)) (rC (.str sl))) := ev_op o2 (ev_sw hw (ev_var i)) (ev_c fun _ _ => by
    rw [tx_of hsuf]
    exact .str sl (fun c hc => of_decide_eq_true (List.all_eq_true.mp hso c hc)))
  exact PN.imp (pn_op o1 sw pe_str) fun σ2 H2 Q ⟨F, ρ, S, env, R, E, o⟩ => ev F ρ S H2 σ2 env Q R E o
/-- the values of a display of pairs (replaced text, text), sorted; a name set to what is picked from it -/
theorem sst_line (i : Nat) {x fx vx lx : Str} {px spos q1 q2 q3 q4 q5 q6 q7 q8 q9 : Pos} {wl : List Nat} {ws : Str} {c lvl j kt n : Nat} {scope2 : Scope} (own own2 : List (Str × Nat)) (hws : ws = tx wl) (C : Ok X W k) (h : SwDef X.prog X.w X.K X.mg X.base fx lvl (tx [c])) (hj : lvl ≤ k) (hw : OkT wl) (hcw : ((tx [c] : Str) == tx wl) = false) (ok : blkC X.N X.env.scope scope own = true) (ok2 : blkC X.N X.env.scope scope2 own2 = true)
    (hg : ∀ (s : Shared) (H : Hp) (A : Addr) (cl : List (Str × Addr)) (fp : List Addr), STg (XB X scope s H A cl fp) tg t)
    (hel : ∀ (s : Shared) (H : Hp) (A : Addr) (cl : List (Str × Addr)) (fp : List Addr), Ok (XB X scope s H A cl fp) W0 k → SE Y (XB X scope s H A cl fp) W0 elt re)
    (hg2 : ∀ (s : Shared) (H : Hp) (A : Addr) (cl : List (Str × Addr)) (fp : List Addr), STg (XB X scope2 s H A cl fp) (.Name vx q1) (.one n))
    (hl : SE Y X W (.Name lx q2) ra) (m1 : X.mg "sorted" = none) (gs : Gl X "sorted") (hNv : X.N[n]? = some vx)
    (hv : ∀ (s : Shared) (H : Hp) (A : Addr) (cl : List (Str × Addr)) (fp : List Addr), Vis (XB X scope2 s H A cl fp).env.scope vx) (hgl : ∀ (s : Shared) (H : Hp) (A : Addr) (cl : List (Str × Addr)) (fp : List Addr), Gl (XB X scope2 s H A cl fp) fx)
    (he : ∀ (s : Shared) (H : Hp) (A : Addr) (cl : List (Str × Addr)) (fp : List Addr), starEach [.Name vx q3, .Constant (.str ws) j q4] (XB X scope2 s H A cl fp).env = (false, eval (.Name vx q3) (XB X scope2 s H A cl fp).env) :: starEach [.Constant (.str ws) j q4] (XB X scope2 s H A cl fp).env)
    (he1 : ∀ (s : Shared) (H : Hp) (A : Addr) (cl : List (Str × Addr)) (fp : List Addr), starEach [.Constant (.str ws) j q4] (XB X scope2 s H A cl fp).env = [(false, eval (.Constant (.str ws) j q4) (XB X scope2 s H A cl fp).env)])
    (he2 : ∀ (s : Shared) (H : Hp) (A : Addr) (cl : List (Str × Addr)) (fp : List Addr), starEach [.Call (.Name fx q5) [.Name vx q3, .Constant (.str ws) j q4] [] q6, .Name vx q7] (XB X scope2 s H A cl fp).env = (false, eval (.Call (.Name fx q5) [.Name vx q3, .Constant (.str ws) j q4] [] q6) (XB X scope2 s H A cl fp).env) :: starEach [.Name vx q7] (XB X scope2 s H A cl fp).env)
    (he3 : ∀ (s : Shared) (H : Hp) (A : Addr) (cl : List (Str × Addr)) (fp : List Addr), starEach [.Name vx q7] (XB X scope2 s H A cl fp).env = (false, eval (.Name vx q7) (XB X scope2 s H A cl fp).env) :: starEach [] (XB X scope2 s H A cl fp).env)
    (hse : starEach [.ListComp (.Tuple [.Call (.Name fx q5) [.Name vx q3, .Constant (.str ws) j q4] [] q6, .Name vx q7] kt q8) [⟨.Name vx q1, .Name lx q2, [], 0⟩] scope2 q9] X.env = (false, eval (.ListComp (.Tuple [.Call (.Name fx q5) [.Name vx q3, .Constant (.str ws) j q4] [] q6, .Name vx q7] kt q8) [⟨.Name vx q1, .Name lx q2, [], 0⟩] scope2 q9) X.env) :: starEach [] X.env)
    (hy : X.N[i]? = some x) (hyl : X.env.scope.names.lookup x = some .local)
    (hsw : swapsWith (.ListComp elt [⟨tg, .Call (.Name "sorted" p) [.ListComp (.Tuple [.Call (.Name fx q5) [.Name vx q3, .Constant (.str ws) j q4] [] q6, .Name vx q7] kt q8) [⟨.Name vx q1, .Name lx q2, [], 0⟩] scope2 q9] [] p2, [], 0⟩] scope pos) (some (.Name x px)) spos.line X.env = pure true)
    (hvs : ∀ i ∈ t.slots, i ∈ own.map (·.2)) (hv2 : n ∈ own2.map (·.2)) (hs : ∀ x, foldedSetIterable (.Call (.Name "sorted" p) [.ListComp (.Tuple [.Call (.Name fx q5) [.Name vx q3, .Constant (.str ws) j q4] [] q6, .Name vx q7] kt q8) [⟨.Name vx q1, .Name lx q2, [], 0⟩] scope2 q9] [] p2) X.env x = pure x) (hs2 : ∀ x, foldedSetIterable (.Name lx q2) X.env x = pure x)
    (hdx : (vx == ("__debug__" : Str)) = false := by decide) (hcx : (vx == ("__classdict__" : Str)) = false := by decide) (hdf : (fx == ("__debug__" : Str)) = false := by decide) (v1 : bootBuiltins "sorted" = some (.builtin "sorted") := by decide +kernel) :
    SSt Y X W (.Assign [.Name x px] (.ListComp elt [⟨tg, .Call (.Name "sorted" p) [.ListComp (.Tuple [.Call (.Name fx q5) [.Name vx q3, .Constant (.str ws) j q4] [] q6, .Name vx q7] kt q8) [⟨.Name vx q1, .Name lx q2, [], 0⟩] scope2 q9] [] p2, [], 0⟩] scope pos) spos)
      (sSet i (rLc t (iSeq (rCB sortPD (rCons (rLc (.one n) (iSeq ra) tYesR (rTup (rCons (rSw c wl (rVar n)) (rCons (rVar n) rNil))) (own2.map (·.2))) rNil))) tYesR re (own.map (·.2)))) := by
  subst hws
  obtain ⟨fa, fd, ps, h1, h2, h3, h4, h5⟩ := h.ex
  obtain ⟨ta, a1, a2⟩ := hl.ex
  obtain ⟨r, c1, c2⟩ := (scall_sortP (Y := Y) C).ex
  have inner : PN 1 X (.ListComp (.Tuple [.Call (.Name fx q5) [.Name vx q3, .Constant (.str (tx wl)) j q4] [] q6, .Name vx q7] kt q8) [⟨.Name vx q1, .Name lx q2, [], 0⟩] scope2 q9) (tLc (iList X.K ta) (canG X.K (.one n)) (canT X.K Y W0 tYesR) (canE X.K Y W0 (rTup (rCons (rSw c wl (rVar n)) (rCons (rVar n) rNil)))) (own2.map (·.2))) := by
    refine pn_lc (G := fun z => 1 ≤ z.toks) (fun _ => Iff.rfl) C.calm C.nd (bi_list (PN.of a1)) (blkOk_by ok2) (fun s H A cl fp => (hg2 s H A cl fp).can) (fun s H A cl fp => pts_yes) (fun s H A cl fp => ?_) hs2
    have CB := blk_ok (scope := scope2) C s H A cl fp
    have sw := pn_swC (X := XB X scope2 s H A cl fp) (p := q5) (pos := q6) (p2 := q4) (j := j) (E := WE W0) (SwOk.lower h1 hj) CB.gd CB.room (hgl s H A cl fp) h2 h3 h4 h5 CB.tk hcw (pe_var (i := n) (pos := q3) hNv (hv s H A cl fp) hdx hcx) hdf (he s H A cl fp) (he1 s H A cl fp) (by rw [he1]; rfl)
    have tu := pn_tup (j := kt) (pos := q8) sw (pa_cons (pe_var (i := n) (pos := q7) hNv (hv s H A cl fp) hdx hcx) pa_nil (he3 s H A cl fp)) (he2 s H A cl fp)
    have ev : EvE X.K Y W0 (tTup (tCons (tSw (tVar n) (tx [c]) (tx wl)) (tCons (tVar n) tNil))) (rTup (rCons (rSw c wl (rVar n)) (rCons (rVar n) rNil))) := ev_tup2 (ev_cons2 (ev_sw hw (ev_var n)) (ev_cons2 (ev_var n) ev_nil2))
    exact PN.imp tu fun σ2 H2 Q ⟨F, ρ, S, env, R, E, o⟩ => ev F ρ S H2 σ2 env Q R E o
  have evi : EvE X.K Y W (tLc (iList X.K ta) (canG X.K (.one n)) (canT X.K Y W0 tYesR) (canE X.K Y W0 (rTup (rCons (rSw c wl (rVar n)) (rCons (rVar n) rNil)))) (own2.map (·.2))) (rLc (.one n) (iSeq ra) tYesR (rTup (rCons (rSw c wl (rVar n)) (rCons (rVar n) rNil))) (own2.map (·.2))) :=
    ev_lc (fin := fun l S2 => .ok (.lst l) S2) (ev_seqI a2) (fun i hi => by rw [List.mem_singleton.mp hi]; exact hv2) fin_lst
  have so := pn_callB (p := p) (pos := p2) c1 gs m1 v1 inner (by decide) (by decide) hse rfl
  have evs := ev_seqI (ev_cb c2 (ev_cons2 evi (ev_nil2 (K := X.K) (Y := Y) (W := W))))
  refine ⟨_, fun pins s σ H D hn I hw2 => psB_setLc (G := fun z => 1 ≤ z.toks) (fun z z' _ q1 q2 => Nat.le_trans q2 q1) C.calm C.nd hy hyl hsw (bi_list so) (blkOk_by ok) (fun s H A cl fp => (hg s H A cl fp).can) (fun s H A cl fp => pts_yes) (fun z H fp _ _ _ => PN.of (hel z H _ _ fp (blk_ok C z H _ _ fp)).can) hs I hn hw2, ev_set (ev_lc (fin := fun l S2 => .ok (.lst l) S2) evs hvs fin_lst)⟩
end
end L3
set_option pp.maxSteps 400
set_option Elab.async false
set_option linter.all false
set_option maxRecDepth 100000
set_option maxHeartbeats 4000000
/-! the loop over the marks, what it computes; the def that replaces; < and > of texts and lists; isalpha -/
namespace L3
open PySem PySem.Spec L2
section
variable {Y : Pc} {X : Cx} {W : WX} {a b e v elt tg iter : Expr} {es : List Expr} {pos p p2 p3 p4 p5 p6 : Pos} {K : PySem.W.Frag} {F H : Hp} {ρ : List Addr} {S : Store} {ra rb re : Ev → Store → Res D} {rs ri : Ev → Store → Res (List D)} {rt rta rtb : Ev → Store → Res Bool} {m m1 m2 : SM} {y w : Str} {k : Nat} {st : Stmt} {body : List Stmt} {t : Tg} {scope : Scope}
def sMarks (i j : Nat) (b1 w1 b2 w2 : List Nat) (m1 m2 : SM) : SM := fun env S => match m1 ((env.set i (some (.str b1))).set j (some (.str w1))) S with
  | some (.nx e1, S1) => (match m2 ((e1.set i (some (.str b2))).set j (some (.str w2))) S1 with
    | some (.nx e2, S2) => some (.nx e2, S2)
    | some (.rt d, S2) => some (.rt d, S2)
    | some (.ex c e2, S2) => some (.ex c e2, S2)
    | _ => none)
  | some (.rt d, S1) => some (.rt d, S1)
  | some (.ex c e1, S1) => some (.ex c e1, S1)
  | _ => none
theorem ev_marks {i j : Nat} {b1 w1 b2 w2 : List Nat} {t1 t2 : TS} (q1 : OkT b1) (q2 : OkT w1) (q3 : OkT b2) (q4 : OkT w2) (h1 : EvS K Y W t1 m1) (h2 : EvS K Y W t2 m2) : EvS K Y W (tMarks i j (tx b1) (tx w1) (tx b2) (tx w2) t1 t2) (sMarks i j b1 w1 b2 w2 m1 m2) := fun F ρ S H σ env Z R E o l a1 a2 hl => by
  obtain ⟨R1, n1⟩ := R.grown (o := .lst [.ref a1, .ref a2]) hl
  have Fl : F l = none := by
    cases q : F l with
    | none => rfl
    | some u => rw [R.ex l u q] at hl; cases hl
  have rl : l ∉ ρ := fun q => R.there l q hl
  have keep : ∀ {F2 : Hp} {ρ2 : List Addr} {H2 F3 : Hp} {ρ3 : List Addr} {H3 : Hp}, H2 l = some (.lst [.ref a1, .ref a2]) → F2 l = none → l ∉ ρ2 → Nx F2 ρ2 H2 F3 ρ3 H3 → H3 l = some (.lst [.ref a1, .ref a2]) ∧ F3 l = none ∧ l ∉ ρ3 := fun {F2 ρ2 H2 F3 ρ3 H3} z1 z2 z3 nn => by
    refine ⟨nn.fr l _ z1 z3, ?_, fun q => ?_⟩
    · cases q : F3 l with
      | none => rfl
      | some u =>
        rcases nn.fh l (by rw [q]; simp) with z | z | z
        · exact absurd z2 z
        · rw [z1] at z; cases z
        · exact absurd z z3
    · rcases nn.rh l q with z | z
      · exact z3 z
      · rw [z1] at z; cases z
  refine h1 F ρ S _ _ ((env.set i (some (.str b1))).set j (some (.str w1))) _ R1 ((E.set i (.str b1 q1)).set j (.str w1 q2)) ?_
  unfold sMarks at o
  cases e1 : m1 ((env.set i (some (.str b1))).set j (some (.str w1))) S with
  | none => rw [e1] at o; exact o.elim
  | some x1 =>
    obtain ⟨fl, S1⟩ := x1
    rw [e1] at o
    intro F2 ρ2 H2 R2 n2
    cases fl with
    | nx en =>
      intro σ1 E1
      obtain ⟨k1, k2, k3⟩ := keep upd_same Fl rl n2
      refine ⟨k1, h2 F2 ρ2 S1 H2 _ ((en.set i (some (.str b2))).set j (some (.str w2))) _ R2 ((E1.set i (.str b2 q3)).set j (.str w2 q4)) ?_⟩
      cases e2 : m2 ((en.set i (some (.str b2))).set j (some (.str w2))) S1 with
      | none => simp only [e2] at o; exact o.elim
      | some x2 =>
        obtain ⟨fl2, S2⟩ := x2
        simp only [e2] at o
        intro F3 ρ3 H3 R3 n3
        cases fl2 with
        | nx e3 => exact fun σ2 E2 => ⟨(keep k1 k2 k3 n3).1, o F3 ρ3 H3 R3 (n1.trans (n2.trans n3)) σ2 E2⟩
        | rt d => exact fun u ru => o F3 ρ3 H3 R3 (n1.trans (n2.trans n3)) u ru
        | ex c e3 => exact fun σ2 E2 => o F3 ρ3 H3 R3 (n1.trans (n2.trans n3)) σ2 E2
        | bk e3 => exact o.elim
        | ct e3 => exact o.elim
    | rt d => exact fun u ru => o F2 ρ2 H2 R2 (n1.trans n2) u ru
    | ex c en => exact fun σ1 E1 => o F2 ρ2 H2 R2 (n1.trans n2) σ1 E1
    | bk en => exact o.elim
    | ct en => exact o.elim
theorem ss_marks (i j : Nat) {x : Str} {c1 c2 c3 c4 : Str} {b1 w1 b2 w2 : List Nat} {px py tp z1 z2 z3 z4 t1 t2 lp : Pos} {kt j1 j2 j3 j4 k1 k2 : Nat} (P : PassesOwn (model X.prog X.w) X.A X.env X.xe) (C : Ok X W k) (hf : X.fn y = true) (hb1 : SMss y (tx w1) Y X W body m1) (hb2 : SMss y (tx w2) Y X W body m2)
    (d1 : c1.cps.toList = b1 := by decide +kernel) (d2 : c2.cps.toList = w1 := by decide +kernel) (d3 : c3.cps.toList = b2 := by decide +kernel) (d4 : c4.cps.toList = w2 := by decide +kernel)
    (o1 : b1.all (fun c => decide (c < 1114112)) = true := by decide +kernel) (o2 : w1.all (fun c => decide (c < 1114112)) = true := by decide +kernel) (o3 : b2.all (fun c => decide (c < 1114112)) = true := by decide +kernel) (o4 : w2.all (fun c => decide (c < 1114112)) = true := by decide +kernel)
    (hi : X.N[i]? = some x := by rfl) (hx : X.env.scope.names.lookup x = some .local := by rfl) (hj : X.N[j]? = some y := by rfl) (hy : X.env.scope.names.lookup y = some .cell := by rfl)
    (hl : starEach [.Tuple [.Constant (.str c1) j1 z1, .Constant (.str c2) j2 z2] k1 t1, .Tuple [.Constant (.str c3) j3 z3, .Constant (.str c4) j4 z4] k2 t2] X.env = [(false, eval (.Tuple [.Constant (.str c1) j1 z1, .Constant (.str c2) j2 z2] k1 t1) X.env), (false, eval (.Tuple [.Constant (.str c3) j3 z3, .Constant (.str c4) j4 z4] k2 t2) X.env)] := by rfl)
    (h1 : starEach [.Constant (.str c1) j1 z1, .Constant (.str c2) j2 z2] X.env = [(false, eval (.Constant (.str c1) j1 z1) X.env), (false, eval (.Constant (.str c2) j2 z2) X.env)] := by rfl) (h2 : starEach [.Constant (.str c3) j3 z3, .Constant (.str c4) j4 z4] X.env = [(false, eval (.Constant (.str c3) j3 z3) X.env), (false, eval (.Constant (.str c4) j4 z4) X.env)] := by rfl)
    (hn : (assignEach [.Name x px, .Name y py] X.env).length = 2 := by rfl) (hst : (assignEach [.Name x px, .Name y py] X.env).findIdx? (·.1) = none := by rfl) (hm : (assignEach [.Name x px, .Name y py] X.env).map (·.2) = [assign (.Name x px) X.env, assign (.Name y py) X.env] := by rfl)
    (hs : ∀ v, foldedSetIterable (.List [.Tuple [.Constant (.str c1) j1 z1, .Constant (.str c2) j2 z2] k1 t1, .Tuple [.Constant (.str c3) j3 z3, .Constant (.str c4) j4 z4] k2 t2] lp) X.env v = pure v := by intro _; rfl) :
    SS Y X W (.For (.Tuple [.Name x px, .Name y py] kt tp) (.List [.Tuple [.Constant (.str c1) j1 z1, .Constant (.str c2) j2 z2] k1 t1, .Tuple [.Constant (.str c3) j3 z3, .Constant (.str c4) j4 z4] k2 t2] lp) body [] pos) (sMarks i j b1 w1 b2 w2 m1 m2) := by
  obtain ⟨ta, a1, a2⟩ := hb1.ex
  obtain ⟨tb, b1', b2'⟩ := hb2.ex
  have e1 := tx_of d1
  have e2 := tx_of d2
  have e3 := tx_of d3
  have e4 := tx_of d4
  have okT : ∀ {l : List Nat}, l.all (fun c => decide (c < 1114112)) = true → OkT l := fun q c hc => of_decide_eq_true (List.all_eq_true.mp q c hc)
  subst e1 e2 e3 e4
  exact ⟨_, ps_marks P C.calm C.nd hi hx hj hy hf hl h1 h2 hn hst hm hs a1 b1', ev_marks (okT o1) (okT o2) (okT o3) (okT o4) a2 b2'⟩
/-- the def that replaces -/
theorem swdef {P : Program} {w : World} {K : PySem.W.Frag} {mg : Str → Option Value} {base : Heap} {k : Nat} {f : Addr} {fd : FuncData} {x a0 a1 c : Str} {params : Arguments} {scope : Scope} {N : List Str} {j : Nat} {p1 p2 p3 apos cpos rpos : Pos}
    (Fu : FunD K x x params [.Return (some (.Call (.Attribute (.Name a0 p1) "replace" apos) [.Constant (.str c) j p2, .Name a1 p3] [] cpos)) rpos] scope [] [] f fd) (hm : mg x = some (.ref f)) (S : FnScope N [a0, a1] scope)
    (hbi : ∀ (kV doc pm : Value) (an : Option Addr) (cdv ct : Value) (us : List Value), us.length = [a0, a1].length → bindArgs (PySem.W.fnOf x x params [.Return (some (.Call (.Attribute (.Name a0 p1) "replace" apos) [.Constant (.str c) j p2, .Name a1 p3] [] cpos)) rpos] scope .none kV doc pm an cdv ct) ⟨us, []⟩ = pure ([a0, a1].zip us))
    (h0 : scope.names.lookup a0 = some .local := by rfl) (h1 : scope.names.lookup a1 = some .local := by rfl) (d0 : (a0 == ("__debug__" : Str)) = false := by decide) (d1 : (a1 == ("__debug__" : Str)) = false := by decide) (hl : (apos.endLine == cpos.line) = true := by rfl) : SwDef P w K mg base x (k + 1) c :=
  ⟨f, fd, [a0, a1], sw_of Fu S h0 h1 d0 d1 hl, hm, Fu.kp, Fu.bindsN hbi, rfl⟩
end
end L3
set_option pp.maxSteps 400
set_option Elab.async false
set_option linter.all false
set_option maxRecDepth 100000
set_option maxHeartbeats 4000000
/-! < and > of texts and of lists -/
namespace L3
open PySem PySem.Spec L2
section
variable {Y : Pc} {X : Cx} {W : WX} {K : PySem.W.Frag} {F H : Hp} {ρ : List Addr} {S : Store} {k : Nat}
def rCmpK (f : PyData → PyData → Bool) (K : PySem.W.Frag) : R2 := fun x y H Q => ∃ d e, Dp K H x d ∧ Dp K H y e ∧ PySem.W.alike d e = true ∧ d ≠ .none ∧ d.depth ≤ 60 ∧ Q (.bl (f d e)) H
theorem op_ltK (hu : X.A.units + 64 < cLine) : OpR X (compareOp .Lt) (rCmpK PySem.W.dataLt X.K) := by
  intro pins s σ H x y v u Q I rx ry h
  obtain ⟨d, e, hd, he, al, hn, dd, q⟩ := h
  obtain ⟨as, r1⟩ := Dp.reads I d x v hd rx
  obtain ⟨bs, r2⟩ := Dp.reads I e y u he ry
  exact PySem.W.lt_data r1 r2 al hn (by have := Nat.min_le_left d.depth e.depth; omega) ⟨.bl _, H, I, rfl, q⟩
theorem op_gtK (hu : X.A.units + 64 < cLine) : OpR X (compareOp .Gt) (rCmpK (fun d e => PySem.W.dataLt e d) X.K) := by
  intro pins s σ H x y v u Q I rx ry h
  obtain ⟨d, e, hd, he, al, hn, dd, q⟩ := h
  obtain ⟨as, r1⟩ := Dp.reads I d x v hd rx
  obtain ⟨bs, r2⟩ := Dp.reads I e y u he ry
  exact PySem.W.gt_data r1 r2 al hn (by have := Nat.min_le_left d.depth e.depth; omega) ⟨.bl _, H, I, rfl, q⟩
def cmpOk (x y : D) : Bool := eqPre x y && PySem.W.alike x.py y.py
def ltKD : Op2 := fun _ x y => match x, y with
  | .str s, .str t => some (.bl (lt2 s t))
  | .lst xs, .lst ys => if cmpOk (.lst xs) (.lst ys) = true then some (.bl (PySem.W.dataLt (D.lst xs).py (D.lst ys).py)) else none
  | _, _ => none
def gtKD : Op2 := fun _ x y => match x, y with
  | .str s, .str t => some (.bl (lt2 t s))
  | .lst xs, .lst ys => if cmpOk (.lst xs) (.lst ys) = true then some (.bl (PySem.W.dataLt (D.lst ys).py (D.lst xs).py)) else none
  | _, _ => none
theorem cmp_lst {f : PyData → PyData → Bool} {x y : V} {xs ys : List D} {d : D} {Q : VK} (R : SR K Y F ρ S H) (rx : RD K F ρ x (.lst xs)) (ry : RD K F ρ y (.lst ys)) (e : (if cmpOk (.lst xs) (.lst ys) = true then some (D.bl (f (D.lst xs).py (D.lst ys).py)) else none) = some d)
    (k : ∀ F' H' u, SR K Y F' ρ S H' → Nx F ρ H F' ρ H' → RD K F' ρ u d → Q u H') : rCmpK f K x y H Q := by
  by_cases h : cmpOk (.lst xs) (.lst ys) = true
  · rw [if_pos h] at e
    cases e
    unfold cmpOk at h
    rw [Bool.and_eq_true] at h
    obtain ⟨f1, f2, d1, d2⟩ := eqPre_ok h.1
    exact ⟨_, _, (RD.dp R.ex rx f1).1, (RD.dp R.ex ry f2).1, h.2, (fun q => by cases q), d1, now_bl R k⟩
  · rw [if_neg h] at e; cases e
theorem sop_ltK (C : Ok X W k) : SOp Y X (compareOp .Lt) ltKD := ⟨_, op_lt_str.or (op_ltK C.room.units), fun F ρ S H x y dx dy d Q R rx ry e k => by
  cases rx <;> cases ry <;> try (cases e; done)
  · cases e; exact .inl ⟨_, _, rfl, rfl, now_bl R k⟩
  · rename_i h1 h2 _ _ _ g1 g2
    exact .inr (cmp_lst R (.lst h1 h2) (.lst g1 g2) e k)⟩
theorem sop_gtK (C : Ok X W k) : SOp Y X (compareOp .Gt) gtKD := ⟨_, op_gt_str.or (op_gtK C.room.units), fun F ρ S H x y dx dy d Q R rx ry e k => by
  cases rx <;> cases ry <;> try (cases e; done)
  · cases e; exact .inl ⟨_, _, rfl, rfl, now_bl R k⟩
  · rename_i h1 h2 _ _ _ g1 g2
    exact .inr (cmp_lst (f := fun d e => PySem.W.dataLt e d) R (.lst h1 h2) (.lst g1 g2) e k)⟩
end
end L3
namespace G
open PySem PySem.Spec L2 L3
def top (i : Nat) : Stmt := PySem.Challenge.pw_orderrules_k18_whole_known.main.body.getD i (.Pass ⟨0, 0, 0, 0⟩)
end G
set_option maxRecDepth 100000
set_option maxHeartbeats 0
namespace G
open PySem PySem.Spec L2 L3
def dd (x : Str) (i : Nat) : He.DefD := ⟨(x, none), x, x, defArgs (top i), defBody (top i), defScope (top i), [], []⟩
def fn : List He.DefD := [dd "is_int" 4, dd "is_text" 11, dd "check_text" 12, dd "check_list" 13, dd "looks_of" 15, dd "sign_of" 16, dd "rank_of" 17, dd "by_rank" 18, dd "is_word" 24, dd "is_rule" 25, dd "check_rule" 26, dd "cut" 28, dd "by_piece" 29, dd "by_look" 30, dd "by_looks" 31, dd "told_by" 32, dd "compare" 33, dd "place_for" 34, dd "in_order" 35, dd "sorted_by" 36, dd "_law_start" 38, dd "_law_draw" 39, dd "_law_pick" 40, dd "_law_text" 41, dd "_law_wild" 42, dd "_law_near" 43, dd "_law_cut" 44, dd "_law_less" 45, dd "_law_swap" 46, dd "_law_number_key" 47, dd "law" 48]
def fa : List He.Fa := [.glo "is_int", .glo "is_text", .glo "check_text", .glo "check_list", .glo "looks_of", .glo "sign_of", .glo "rank_of", .glo "by_rank", .glo "is_word", .glo "is_rule", .glo "check_rule", .glo "cut", .glo "by_piece", .glo "by_look", .glo "by_looks", .glo "told_by", .glo "compare", .glo "place_for", .glo "in_order", .glo "sorted_by", .glo "_law_start", .glo "_law_draw", .glo "_law_pick", .glo "_law_text", .glo "_law_wild", .glo "_law_near", .glo "_law_cut", .glo "_law_less", .glo "_law_swap", .glo "_law_number_key", .glo "law", .free "all", .free "bool", .free "enumerate", .free "int", .free "isinstance", .free "len", .free "list", .free "ord", .free "range", .free "sorted", .free "str", .free "tuple", .free "zip", .glo "BARS", .str "CAPITALS" "ABCDEFGHIJKLMNOPQRSTUVWXYZ", .glo "CASES", .glo "ENDS", .str "FIGURES" "0123456789", .int "MOST_LIST" 12, .int "MOST_TEXT" 40, .glo "NUMBERS", .str "SMALL" "abcdefghijklmnopqrstuvwxyz", .exc "BadRule", .glo "BadRule", .exc "BadText", .glo "BadText"]
def ex (K : PySem.W.Frag) : Bool := He.tupB K "BARS" ([[97, 104, 101, 97, 100], [98, 101, 104, 105, 110, 100]].map fun l => He.Dv.str (tx l)) && He.tupB K "CASES" ([[97, 112, 97, 114, 116], [109, 105, 120, 101, 100], [116, 111, 103, 101, 116, 104, 101, 114], [108, 97, 115, 116]].map fun l => He.Dv.str (tx l)) && He.tupB K "ENDS" ([[102, 105, 114, 115, 116], [98, 101, 104, 105, 110, 100]].map fun l => He.Dv.str (tx l)) && He.tupB K "NUMBERS" ([[115, 105, 103, 110, 115], [110, 117, 109, 98, 101, 114, 115], [115, 116, 114, 105, 99, 116]].map fun l => He.Dv.str (tx l))
def loose0 : List Str := ["FIGURES", "CAPITALS", "SMALL", "MOST_TEXT", "MOST_LIST", "CASES", "NUMBERS", "BARS", "ENDS", "OrderError", "BadRule", "BadText", "is_int", "is_text", "check_text", "check_list", "looks_of", "sign_of", "rank_of", "by_rank", "is_word", "is_rule", "check_rule", "cut", "by_piece", "by_look", "by_looks", "told_by", "compare", "place_for"]
def loose1 : List Str := ["in_order", "sorted_by", "_law_start", "_law_draw", "_law_pick", "_law_text", "_law_wild", "_law_near", "_law_cut", "_law_less", "_law_swap", "_law_number_key"]
def loose : List Str := loose0 ++ loose1
abbrev R : PySem.W.OpenRow := PySem.W.OpenLaw.row PySem.Challenge.rw_orderrules_k18_whole_known
abbrev hk : PySem.W.Hook := He.hookEx 4 fa fn ex
def ob (s : PySem.W.SharedT) : He.AlEx := He.obsEx 4 fa fn ex (HandSHeadRun.getT s)
theorem ob_eq (s : PySem.W.SharedT) : ob s = hk.obs s.abs := He.obsEx_eq (HandSHeadRun.getT_eq s)
theorem run (w : World) : HandSHeadRun.RunEq R (PySem.W.view R.prog [48]) hk ob 20000 loose w := by
  intro os
  kernel_rfl
end G
set_option Elab.async false
set_option linter.all false
set_option maxRecDepth 100000
set_option maxHeartbeats 4000000
namespace G
open PySem PySem.Spec L2 L3
structure Gb (w : World) (K : PySem.W.Frag) (mg : Str → Option Value) (Y : Pc) : Prop where
  b_all : mg "all" = none
  b_bool : mg "bool" = none
  b_enumerate : mg "enumerate" = none
  b_int : mg "int" = none
  b_isinstance : mg "isinstance" = none
  b_len : mg "len" = none
  b_list : mg "list" = none
  b_ord : mg "ord" = none
  b_range : mg "range" = none
  b_sorted : mg "sorted" = none
  b_str : mg "str" = none
  b_tuple : mg "tuple" = none
  b_zip : mg "zip" = none
  c_BARS : ∃ a, mg "BARS" = some (.ref a) ∧ ∀ H, SqT K H a ([[97, 104, 101, 97, 100], [98, 101, 104, 105, 110, 100]].map fun l => .str (tx l))
  c_CAPITALS : ∃ t, mg "CAPITALS" = some (.str "ABCDEFGHIJKLMNOPQRSTUVWXYZ" t)
  c_CASES : ∃ a, mg "CASES" = some (.ref a) ∧ ∀ H, SqT K H a ([[97, 112, 97, 114, 116], [109, 105, 120, 101, 100], [116, 111, 103, 101, 116, 104, 101, 114], [108, 97, 115, 116]].map fun l => .str (tx l))
  c_ENDS : ∃ a, mg "ENDS" = some (.ref a) ∧ ∀ H, SqT K H a ([[102, 105, 114, 115, 116], [98, 101, 104, 105, 110, 100]].map fun l => .str (tx l))
  c_FIGURES : ∃ t, mg "FIGURES" = some (.str "0123456789" t)
  c_MOST_LIST : ∃ t, mg "MOST_LIST" = some (.int 12 t)
  c_MOST_TEXT : ∃ t, mg "MOST_TEXT" = some (.int 40 t)
  c_NUMBERS : ∃ a, mg "NUMBERS" = some (.ref a) ∧ ∀ H, SqT K H a ([[115, 105, 103, 110, 115], [110, 117, 109, 98, 101, 114, 115], [115, 116, 114, 105, 99, 116]].map fun l => .str (tx l))
  c_SMALL : ∃ t, mg "SMALL" = some (.str "abcdefghijklmnopqrstuvwxyz" t)
  x_BadRule : ExcD K mg "BadRule" (Y.xc 1)
  x_BadText : ExcD K mg "BadText" (Y.xc 2)
  hw : Y.hs = NestedKey.hash w
def b_is_int : SM := (sRet (vAnd (r1 (isiD .int) (rVar 0)) (vAnd (vNot (r1 (isiD .bool) (rVar 0))) (rChain leD leD (rVar 1) (rVar 0) (rVar 2)))))
def m_is_int : FSem := fnSem 3 3 b_is_int
def b_is_text : SM := (sSeq (sIf (tOrR (tNotR (tOf (r1 (isiD .str) (rVar 0)))) (tOf (r2 gtD (rCB lenD (rCons (rVar 0) rNil)) (rC (.int 40))))) (sRet (rC (.bl false))) sNext) (sRet (rCB allD (rCons (rLc (.one 1) (iAny (rVar 0)) tYesR (r2 inD2 (rVar 1) (r2 addD (r2 addD (r2 addD (rC (.str [48, 49, 50, 51, 52, 53, 54, 55, 56, 57])) (rC (.str [65, 66, 67, 68, 69, 70, 71, 72, 73, 74, 75, 76, 77, 78, 79, 80, 81, 82, 83, 84, 85, 86, 87, 88, 89, 90]))) (rC (.str [97, 98, 99, 100, 101, 102, 103, 104, 105, 106, 107, 108, 109, 110, 111, 112, 113, 114, 115, 116, 117, 118, 119, 120, 121, 122]))) (rC (.str [95])))) [1]) rNil))))
def m_is_text : FSem := fnSem 2 1 b_is_text
def b_check_text : SM := (sIf (tNotR (tOf (rCall m_is_text (rCons (rVar 0) rNil)))) (sRaise 2) sNext)
def m_check_text : FSem := fnSem 1 1 b_check_text
def b_check_list : SM := (sIf (tOrR (tNotR (tOf (r1 (isiD .list) (rVar 0)))) (tOrR (tNotR (tOf (rChain leD leD (rC (.int 1)) (rCB lenD (rCons (rVar 0) rNil)) (rC (.int 12))))) (tNotR (tOf (rCB allD (rCons (rLc (.one 1) (iAny (rVar 0)) tYesR (rCall m_is_text (rCons (rVar 1) rNil)) [1]) rNil)))))) (sRaise 2) sNext)
def m_check_list : FSem := fnSem 2 1 b_check_list
def b_looks_of : SM := (sSeq (sAsg (.tup [1, 2, 3, 4, 5]) (rVar 0)) (sSeq (sPar 6 7 (rCons (rIf (tOf (r2 eqD (rVar 1) (rC (.str [108, 97, 115, 116])))) (rC (.str [116, 111, 103, 101, 116, 104, 101, 114])) (rVar 1)) (rCons (rIf (tOf (r2 eqD (rVar 2) (rC (.str [115, 105, 103, 110, 115])))) (rC (.int 0)) (rC (.int 1))) rNil))) (sSeq (sSet 8 (rLstM (rCons (rTup (rCons (rVar 6) (rCons (rVar 7) (rCons (rVar 3) (rCons (rVar 4) rNil))))) rNil))) (sSeq (sIf (tOf (r2 eqD (rVar 2) (rC (.str [115, 116, 114, 105, 99, 116])))) (sExpr (rMt tyList appendD (rVar 8) (rCons (rTup (rCons (rVar 6) (rCons (rC (.int 0)) (rCons (rVar 3) (rCons (rVar 4) rNil))))) rNil))) sNext) (sSeq (sIf (tOf (r2 eqD (rVar 1) (rC (.str [108, 97, 115, 116])))) (sExpr (rMt tyList appendD (rVar 8) (rCons (rTup (rCons (rC (.str [109, 105, 120, 101, 100])) (rCons (rVar 7) (rCons (rVar 3) (rCons (rVar 4) rNil))))) rNil))) sNext) (sRet (rFz (rVar 8))))))))
def m_looks_of : FSem := fnSem 9 1 b_looks_of
def b_sign_of : SM := (sRet (rIf (tOf (r2 eqD (r2 ixD (rVar 0) (rC (.int 4))) (rC (.int 1)))) (r1 negD (rC (.int 1))) (rC (.int 1))))
def m_sign_of : FSem := fnSem 1 1 b_sign_of
def b_rank_of : SM := (sSeq (sPar 2 3 (rCons (r2 ixD (rVar 0) (rC (.int 0))) (rCons (r2 ixD (rVar 0) (rC (.int 2))) rNil))) (sSeq (sIf (tOf (r2 eqD (rVar 1) (rC (.str [95])))) (sRet (rTup (rCons (rIf (tOf (r2 eqD (rVar 3) (rC (.str [97, 104, 101, 97, 100])))) (rC (.int 0)) (rC (.int 3))) (rCons (rC (.int 0)) (rCons (rC (.int 0)) rNil))))) sNext) (sSeq (sIf (tOf (r2 inD2 (rVar 1) (rC (.str [48, 49, 50, 51, 52, 53, 54, 55, 56, 57])))) (sRet (rTup (rCons (rC (.int 1)) (rCons (rCB intD (rCons (rVar 1) rNil)) (rCons (rC (.int 0)) rNil))))) sNext) (sSeq (sSet 4 (rIf (tOf (r2 eqD (rVar 1) (rMt tyStr lowerD (rVar 1) rNil))) (rC (.int 1)) (rC (.int 0)))) (sSeq (sIf (tOf (r2 eqD (rVar 2) (rC (.str [97, 112, 97, 114, 116])))) (sRet (rTup (rCons (rC (.int 2)) (rCons (rVar 4) (rCons (rCB ordD (rCons (rVar 1) rNil)) rNil))))) sNext) (sRet (rTup (rCons (rC (.int 2)) (rCons (rCB ordD (rCons (rMt tyStr lowerD (rVar 1) rNil) rNil)) (rCons (rIf (tOf (r2 eqD (rVar 2) (rC (.str [109, 105, 120, 101, 100])))) (rVar 4) (rC (.int 0))) rNil))))))))))
def m_rank_of : FSem := fnSem 5 2 b_rank_of
def b_by_rank : SM := (sSeq (sIf (tOf (r2 eqD (rVar 1) (rVar 2))) (sRet (rC (.int 0))) sNext) (sSeq (sIf (tOrR (tOf (r2 eqD (rVar 1) (rC (.str [])))) (tOf (r2 eqD (rVar 2) (rC (.str []))))) (sRet (rIf (tOf (r2 eqD (r2 eqD (rVar 1) (rC (.str []))) (r2 eqD (r2 ixD (rVar 0) (rC (.int 3))) (rC (.str [102, 105, 114, 115, 116]))))) (r1 negD (rC (.int 1))) (rC (.int 1)))) sNext) (sSeq (sPar 3 4 (rCons (rCall m_rank_of (rCons (rVar 0) (rCons (rVar 1) rNil))) (rCons (rCall m_rank_of (rCons (rVar 0) (rCons (rVar 2) rNil))) rNil))) (sRet (rIf (tOf (r2 eqD (rVar 3) (rVar 4))) (rC (.int 0)) (rIf (tOf (r2 ltDD (rVar 3) (rVar 4))) (r1 negD (rC (.int 1))) (rC (.int 1))))))))
def m_by_rank : FSem := fnSem 5 3 b_by_rank
def b_is_word : SM := (sRet (vAnd (r1 (isiD .str) (rVar 0)) (r2 inD2 (rVar 0) (rVar 1))))
def m_is_word : FSem := fnSem 2 2 b_is_word
def b_is_rule : SM := (sSeq (sIf (tOrR (tNotR (tOf (r1 (isiD .tuple) (rVar 0)))) (tOf (r2 neD (rCB lenD (rCons (rVar 0) rNil)) (rC (.int 5))))) (sRet (rC (.bl false))) sNext) (sSeq (sIf (tOrR (tNotR (tOf (rCall m_is_word (rCons (r2 ixD (rVar 0) (rC (.int 0))) (rCons (rC (.tup ([[97, 112, 97, 114, 116], [109, 105, 120, 101, 100], [116, 111, 103, 101, 116, 104, 101, 114], [108, 97, 115, 116]].map .str))) rNil))))) (tNotR (tOf (rCall m_is_word (rCons (r2 ixD (rVar 0) (rC (.int 1))) (rCons (rC (.tup ([[115, 105, 103, 110, 115], [110, 117, 109, 98, 101, 114, 115], [115, 116, 114, 105, 99, 116]].map .str))) rNil)))))) (sRet (rC (.bl false))) sNext) (sRet (vAnd (rCall m_is_word (rCons (r2 ixD (rVar 0) (rC (.int 2))) (rCons (rC (.tup ([[97, 104, 101, 97, 100], [98, 101, 104, 105, 110, 100]].map .str))) rNil))) (vAnd (rCall m_is_word (rCons (r2 ixD (rVar 0) (rC (.int 3))) (rCons (rC (.tup ([[102, 105, 114, 115, 116], [98, 101, 104, 105, 110, 100]].map .str))) rNil))) (rCall m_is_int (rCons (r2 ixD (rVar 0) (rC (.int 4))) (rCons (rC (.int 0)) (rCons (rC (.int 1)) rNil)))))))))
def m_is_rule : FSem := fnSem 1 1 b_is_rule
def b_check_rule : SM := (sIf (tNotR (tOf (rCall m_is_rule (rCons (rVar 0) rNil)))) (sRaise 1) sNext)
def m_check_rule : FSem := fnSem 1 1 b_check_rule
def b_cut : SM := (sSeq (sSet 2 (rLstM rNil)) (sSeq (sFor (.tup [3, 4]) (iEnumR (rCons (rVar 0) rNil)) (sIf (tAndR (tOf (r2 eqD (rVar 1) (rC (.int 1)))) (tAndR (tOf (r2 gtD (rVar 3) (rC (.int 0)))) (tAndR (tOf (r2 inD2 (rVar 4) (rC (.str [48, 49, 50, 51, 52, 53, 54, 55, 56, 57])))) (tOf (r2 inD2 (r2 ixD (rVar 0) (r2 subD (rVar 3) (rC (.int 1)))) (rC (.str [48, 49, 50, 51, 52, 53, 54, 55, 56, 57]))))))) (sAugIx getLD iaddD setD (rVar 2) (r1 negD (rC (.int 1))) (rVar 4)) (sExpr (rMt tyList appendD (rVar 2) (rCons (rVar 4) rNil))))) (sRet (rFz (rVar 2)))))
def m_cut : FSem := fnSem 5 2 b_cut
def b_by_piece : SM := (sSeq (sIf (tAndR (tOf (r2 inD2 (r2 ixD (rVar 1) (rC (.int 0))) (rC (.str [48, 49, 50, 51, 52, 53, 54, 55, 56, 57])))) (tOf (r2 inD2 (r2 ixD (rVar 2) (rC (.int 0))) (rC (.str [48, 49, 50, 51, 52, 53, 54, 55, 56, 57]))))) (sSeq (sPar 3 4 (rCons (rCB intD (rCons (rVar 1) rNil)) (rCons (rCB intD (rCons (rVar 2) rNil)) rNil))) (sRet (rIf (tOf (r2 eqD (rVar 3) (rVar 4))) (rC (.int 0)) (rIf (tOf (r2 ltDD (rVar 3) (rVar 4))) (r1 negD (rC (.int 1))) (rC (.int 1)))))) sNext) (sRet (rCall m_by_rank (rCons (rVar 0) (rCons (r2 ixD (rVar 1) (rC (.int 0))) (rCons (r2 ixD (rVar 2) (rC (.int 0))) rNil))))))
def m_by_piece : FSem := fnSem 5 3 b_by_piece
def b_by_look : SM := (sSeq (sPar 3 4 (rCons (rCall m_cut (rCons (rVar 1) (rCons (r2 ixD (rVar 0) (rC (.int 1))) rNil))) (rCons (rCall m_cut (rCons (rVar 2) (rCons (r2 ixD (rVar 0) (rC (.int 1))) rNil))) rNil))) (sSeq (sFor (.tup [5, 6]) (iZipR (rCons (rVar 3) (rCons (rVar 4) rNil))) (sSeq (sSet 7 (rCall m_by_piece (rCons (rVar 0) (rCons (rVar 5) (rCons (rVar 6) rNil))))) (sIf (tOf (r2 neD (rVar 7) (rC (.int 0)))) (sRet (rVar 7)) sNext))) (sSeq (sIf (tOf (r2 eqD (rCB lenD (rCons (rVar 3) rNil)) (rCB lenD (rCons (rVar 4) rNil)))) (sRet (rC (.int 0))) sNext) (sRet (rIf (tOf (r2 ltDD (rCB lenD (rCons (rVar 3) rNil)) (rCB lenD (rCons (rVar 4) rNil)))) (rCall m_by_rank (rCons (rVar 0) (rCons (rC (.str [])) (rCons (rC (.str [48])) rNil)))) (rCall m_by_rank (rCons (rVar 0) (rCons (rC (.str [48])) (rCons (rC (.str [])) rNil)))))))))
def m_by_look : FSem := fnSem 8 3 b_by_look
def b_by_looks : SM := (sSeq (sFor (.one 3) (iAny (rVar 0)) (sSeq (sSet 4 (rCall m_by_look (rCons (rVar 3) (rCons (rVar 1) (rCons (rVar 2) rNil))))) (sIf (tOf (r2 neD (rVar 4) (rC (.int 0)))) (sRet (rVar 4)) sNext))) (sRet (rC (.int 0))))
def m_by_looks : FSem := fnSem 5 3 b_by_looks
def b_told_by : SM := (sRet (r2 mulD (rCall m_sign_of (rCons (rVar 0) rNil)) (rCall m_by_looks (rCons (rCall m_looks_of (rCons (rVar 0) rNil)) (rCons (rVar 1) (rCons (rVar 2) rNil))))))
def m_told_by : FSem := fnSem 3 3 b_told_by
def b_compare : SM := (sSeq (sExpr (rCall m_check_rule (rCons (rVar 0) rNil))) (sSeq (sExpr (rCall m_check_text (rCons (rVar 1) rNil))) (sSeq (sExpr (rCall m_check_text (rCons (rVar 2) rNil))) (sRet (rCall m_told_by (rCons (rVar 0) (rCons (rVar 1) (rCons (rVar 2) rNil))))))))
def m_compare : FSem := fnSem 3 3 b_compare
def b_place_for : SM := (sSeq (sSet 3 (rCB lenD (rCons (rVar 1) rNil))) (sSeq (sWhile 1000 (tAndR (tOf (r2 gtD (rVar 3) (rC (.int 0)))) (tOf (r2 eqD (rCall m_told_by (rCons (rVar 0) (rCons (r2 ixD (rVar 1) (r2 subD (rVar 3) (rC (.int 1)))) (rCons (rVar 2) rNil)))) (rC (.int 1))))) (sAug 3 subD (rC (.int 1)))) (sRet (rVar 3))))
def m_place_for : FSem := fnSem 4 3 b_place_for
def b_in_order : SM := (sSeq (sSet 2 (rLstM rNil)) (sSeq (sFor (.one 3) (iAny (rVar 1)) (sExpr (rMt tyList insertD (rVar 2) (rCons (rCall m_place_for (rCons (rVar 0) (rCons (rVar 2) (rCons (rVar 3) rNil)))) (rCons (rVar 3) rNil))))) (sRet (rFz (rVar 2)))))
def m_in_order : FSem := fnSem 4 2 b_in_order
def b_sorted_by : SM := (sSeq (sExpr (rCall m_check_rule (rCons (rVar 0) rNil))) (sSeq (sExpr (rCall m_check_list (rCons (rVar 1) rNil))) (sRet (rCall m_in_order (rCons (rVar 0) (rCons (rVar 1) rNil))))))
def m_sorted_by : FSem := fnSem 2 2 b_sorted_by
def b__law_start : SM := (sRet (rLstM (rCons (rIf (tOf (r2 neD (rVar 0) (rLst rNil))) (rListM (rVar 0)) (rLstM (rCons (rC (.int 0)) rNil))) (rCons (rC (.int 0)) rNil))))
def m__law_start : FSem := fnSem 1 1 b__law_start
def b__law_draw : SM := (sSeq (sSet 2 (r2 ixD (rVar 0) (rC (.int 0)))) (sSeq (sSetIx setD (r2 addD (r2 ixD (rVar 0) (rC (.int 1))) (rC (.int 1))) (rVar 0) (rC (.int 1))) (sSeq (sSet 3 (r2 modD (r2 ixD (rVar 0) (rC (.int 1))) (rCB lenD (rCons (rVar 2) rNil)))) (sSeq (sSet 4 (r2 ixD (rVar 2) (rVar 3))) (sSeq (sIf (tOf (r2 geD (rVar 4) (rC (.int 1000000000000000000)))) (sSeq (sSetIx setD (r2 fdivD (rVar 4) (rVar 1)) (rVar 2) (rVar 3)) (sRet (r2 modD (rVar 4) (rVar 1)))) sNext) (sSeq (sSet 5 (r2 modD (r2 addD (rVar 4) (r2 mulD (rC (.int 104729)) (r2 ixD (rVar 0) (rC (.int 1))))) (rC (.int 4294967291)))) (sSeq (sSet 5 (r2 modD (r2 powD (rVar 5) (rC (.int 5))) (rC (.int 4294967279)))) (sRet (r2 modD (r2 fdivD (r2 modD (r2 addD (r2 mulD (r2 fdivD (rVar 5) (rC (.int 64))) (rC (.int 69621))) (rVar 5)) (rC (.int 4294967231))) (rC (.int 8))) (rVar 1))))))))))
def m__law_draw : FSem := fnSem 6 2 b__law_draw
def b__law_pick : SM := (sRet (r2 ixD (rVar 1) (rCall m__law_draw (rCons (rVar 0) (rCons (rCB lenD (rCons (rVar 1) rNil)) rNil)))))
def m__law_pick : FSem := fnSem 2 2 b__law_pick
def b__law_text : SM := (sSeq (sSet 2 (rC (.str []))) (sSeq (sSet 3 (rCall m__law_draw (rCons (rVar 0) (rCons (r2 addD (rVar 1) (rC (.int 1))) rNil)))) (sSeq (sWhile 1000 (tOf (r2 ltDD (rCB lenD (rCons (rVar 2) rNil)) (rVar 3))) (sSet 2 (r2 addD (rVar 2) (r2 ixD (rC (.str [48, 48, 48, 49, 65, 97, 66, 98, 95])) (rCall m__law_draw (rCons (rVar 0) (rCons (rC (.int 9)) rNil))))))) (sRet (rVar 2)))))
def m__law_text : FSem := fnSem 4 2 b__law_text
def b__law_wild : SM := (sSeq (sSet 2 (rC (.str []))) (sSeq (sFor (.one 3) (iRng1S (rCons (rCall m__law_draw (rCons (rVar 0) (rCons (r2 addD (rVar 1) (rC (.int 1))) rNil))) rNil)) (sSet 2 (r2 addD (rVar 2) (rCall m__law_pick (rCons (rVar 0) (rCons (rCB listA (rCons (rC (.str [48, 48, 49, 50, 57, 65, 97, 66, 98, 90, 122, 95, 95])) rNil)) rNil)))))) (sRet (rVar 2))))
def m__law_wild : FSem := fnSem 4 2 b__law_wild
def b__law_near : SM := (sSeq (sSet 2 (rCall m__law_draw (rCons (rVar 0) (rCons (r2 addD (rCB lenD (rCons (rVar 1) rNil)) (rC (.int 1))) rNil)))) (sSeq (sSet 3 (rCall m__law_draw (rCons (rVar 0) (rCons (rC (.int 5)) rNil)))) (sSeq (sIf (tOf (r2 eqD (rVar 3) (rC (.int 0)))) (sRet (r2 addD (r2 addD (rSl slD (rVar 1) oNone (oSome (rVar 2))) (rC (.str [48]))) (rSl slD (rVar 1) (oSome (rVar 2)) oNone))) sNext) (sSeq (sIf (tOf (r2 eqD (rVar 3) (rC (.int 1)))) (sSeq (sSet 4 (rSl slD (rVar 1) (oSome (rVar 2)) (oSome (r2 addD (rVar 2) (rC (.int 1)))))) (sRet (r2 addD (r2 addD (rSl slD (rVar 1) oNone (oSome (rVar 2))) (rIf (tOf (rMt tyStr isupperD (rVar 4) rNil)) (rMt tyStr lowerD (rVar 4) rNil) (rMt tyStr upperD (rVar 4) rNil))) (rSl slD (rVar 1) (oSome (r2 addD (rVar 2) (rC (.int 1)))) oNone)))) sNext) (sSeq (sIf (tOf (r2 eqD (rVar 3) (rC (.int 2)))) (sRet (r2 addD (rSl slD (rVar 1) oNone (oSome (rVar 2))) (rSl slD (rVar 1) (oSome (r2 addD (rVar 2) (rC (.int 1)))) oNone))) sNext) (sRet (rIf (tOf (r2 eqD (rVar 3) (rC (.int 3)))) (r2 addD (r2 addD (rSl slD (rVar 1) oNone (oSome (rVar 2))) (rCall m__law_text (rCons (rVar 0) (rCons (rC (.int 2)) rNil)))) (rSl slD (rVar 1) (oSome (rVar 2)) oNone)) (rVar 1))))))))
def m__law_near : FSem := fnSem 5 2 b__law_near
def b__law_cut : SM := (sSeq (sSet 2 (rLstM rNil)) (sSeq (sFor (.one 3) (iAny (rVar 0)) (sIf (tAndR (tOf (rVar 1)) (tAndR (tOf (rMt tyStr isdigitD (rVar 3) rNil)) (tAndR (tOf (r2 neD (rVar 2) (rLst rNil))) (tOf (rMt tyStr isdigitD (r2 ixD (rVar 2) (r1 negD (rC (.int 1)))) rNil))))) (sSetIx setD (r2 addD (r2 ixD (rVar 2) (r1 negD (rC (.int 1)))) (rVar 3)) (rVar 2) (r1 negD (rC (.int 1)))) (sExpr (rMt tyList appendD (rVar 2) (rCons (rVar 3) rNil))))) (sRet (rFz (rVar 2)))))
def m__law_cut : FSem := fnSem 4 2 b__law_cut
def b__law_less : SM := (sRet (rIf (tOf (r2 ltKD (rVar 0) (rVar 1))) (r1 negD (rC (.int 1))) (rIf (tOf (r2 gtKD (rVar 0) (rVar 1))) (rC (.int 1)) (rC (.int 0)))))
def m__law_less : FSem := fnSem 2 2 b__law_less
def b__law_number_key : SM := (sSeq (sSet 1 (rLstM rNil)) (sSeq (sFor (.one 2) (iAny (rCall m__law_cut (rCons (rMt tyStr lowerD (rVar 0) rNil) (rCons (rC (.bl true)) rNil)))) (sExpr (rMt tyList appendD (rVar 1) (rCons (rIf (tOf (r2 eqD (rVar 2) (rC (.str [95])))) (rLst (rCons (rC (.int 0)) (rCons (rC (.int 0)) rNil))) (rIf (tOf (rMt tyStr isdigitD (rVar 2) rNil)) (rLst (rCons (rC (.int 1)) (rCons (rCB intD (rCons (rVar 2) rNil)) rNil))) (rLst (rCons (rC (.int 2)) (rCons (rCB ordD (rCons (rVar 2) rNil)) rNil))))) rNil)))) (sRet (rFz (rVar 1)))))
def m__law_number_key : FSem := fnSem 3 1 b__law_number_key
def b_law : SM := (sSeq (sSet 1 (rCall m__law_start (rCons (rVar 0) rNil))) (sSeq (sSet 2 (rCall m__law_wild (rCons (rVar 1) (rCons (rC (.int 20)) rNil)))) (sSeq (sSet 3 (rSl slD (rCall m__law_near (rCons (rVar 1) (rCons (rVar 2) rNil))) oNone (oSome (rC (.int 40))))) (sSeq (sMarks 4 5 [97, 104, 101, 97, 100] [32] [98, 101, 104, 105, 110, 100] [126] (sSeq (sSet 6 (rTup (rCons (rC (.str [97, 112, 97, 114, 116])) (rCons (rC (.str [115, 105, 103, 110, 115])) (rCons (rVar 4) (rCons (rC (.str [102, 105, 114, 115, 116])) (rCons (rC (.int 0)) rNil))))))) (sSeq (sSet 7 (rCall m__law_less (rCons (rSw 95 [32] (rVar 2)) (rCons (rSw 95 [32] (rVar 3)) rNil)))) (sSeq (sIf (tOrR (tOf (r2 neI (rCall m_compare (rCons (rVar 6) (rCons (rVar 2) (rCons (rVar 3) rNil)))) (rVar 7))) (tOf (r2 neI (rCall m_compare (rCons (r2 addTT (rSl slTT (rVar 6) oNone (oSome (rC (.int 4)))) (rTup (rCons (rC (.int 1)) rNil))) (rCons (rVar 2) (rCons (rVar 3) rNil)))) (r1 negD (rVar 7))))) (sSeq (sRet (rC (.bl false))) sNext) sNext) (sSeq (sSet 8 (rTup (rCons (rC (.str [116, 111, 103, 101, 116, 104, 101, 114])) (rCons (rC (.str [115, 105, 103, 110, 115])) (rCons (rVar 4) (rCons (rC (.str [102, 105, 114, 115, 116])) (rCons (rC (.int 0)) rNil))))))) (sSeq (sIf (tOf (r2 neI (rCall m_compare (rCons (rVar 8) (rCons (rVar 2) (rCons (rVar 3) rNil)))) (rCall m__law_less (rCons (rMt tyStr lowerD (rSw 95 [32] (rVar 2)) rNil) (rCons (rMt tyStr lowerD (rSw 95 [32] (rVar 3)) rNil) rNil))))) (sSeq (sRet (rC (.bl false))) sNext) sNext) (sSeq (sSet 9 (rTup (rCons (rC (.str [97, 112, 97, 114, 116])) (rCons (rC (.str [115, 105, 103, 110, 115])) (rCons (rVar 4) (rCons (rC (.str [98, 101, 104, 105, 110, 100])) (rCons (rC (.int 0)) rNil))))))) (sSeq (sSet 10 (rLc (.one 11) (iTupS (rTup (rCons (rVar 2) (rCons (rVar 3) rNil)))) tYesR (r2 addD (rSw 95 [32] (rVar 11)) (rC (.str [126, 126]))) [11])) (sIf (tAndR (tOf (r2 eqD (rVar 4) (rC (.str [97, 104, 101, 97, 100])))) (tOf (r2 neD (rCall m_compare (rCons (rVar 9) (rCons (rVar 2) (rCons (rVar 3) rNil)))) (rCall m__law_less (rCons (r2 ixD (rVar 10) (rC (.int 0))) (rCons (r2 ixD (rVar 10) (rC (.int 1))) rNil)))))) (sRet (rC (.bl false))) sNext)))))))) (sSeq (sSet 6 (rTup (rCons (rC (.str [97, 112, 97, 114, 116])) (rCons (rC (.str [115, 105, 103, 110, 115])) (rCons (rVar 4) (rCons (rC (.str [102, 105, 114, 115, 116])) (rCons (rC (.int 0)) rNil))))))) (sSeq (sSet 7 (rCall m__law_less (rCons (rSw 95 [126] (rVar 2)) (rCons (rSw 95 [126] (rVar 3)) rNil)))) (sSeq (sIf (tOrR (tOf (r2 neI (rCall m_compare (rCons (rVar 6) (rCons (rVar 2) (rCons (rVar 3) rNil)))) (rVar 7))) (tOf (r2 neI (rCall m_compare (rCons (r2 addTT (rSl slTT (rVar 6) oNone (oSome (rC (.int 4)))) (rTup (rCons (rC (.int 1)) rNil))) (rCons (rVar 2) (rCons (rVar 3) rNil)))) (r1 negD (rVar 7))))) (sSeq (sRet (rC (.bl false))) sNext) sNext) (sSeq (sSet 8 (rTup (rCons (rC (.str [116, 111, 103, 101, 116, 104, 101, 114])) (rCons (rC (.str [115, 105, 103, 110, 115])) (rCons (rVar 4) (rCons (rC (.str [102, 105, 114, 115, 116])) (rCons (rC (.int 0)) rNil))))))) (sSeq (sIf (tOf (r2 neI (rCall m_compare (rCons (rVar 8) (rCons (rVar 2) (rCons (rVar 3) rNil)))) (rCall m__law_less (rCons (rMt tyStr lowerD (rSw 95 [126] (rVar 2)) rNil) (rCons (rMt tyStr lowerD (rSw 95 [126] (rVar 3)) rNil) rNil))))) (sSeq (sRet (rC (.bl false))) sNext) sNext) (sSeq (sSet 9 (rTup (rCons (rC (.str [97, 112, 97, 114, 116])) (rCons (rC (.str [115, 105, 103, 110, 115])) (rCons (rVar 4) (rCons (rC (.str [98, 101, 104, 105, 110, 100])) (rCons (rC (.int 0)) rNil))))))) (sSeq (sSet 10 (rLc (.one 11) (iTupS (rTup (rCons (rVar 2) (rCons (rVar 3) rNil)))) tYesR (r2 addD (rSw 95 [126] (rVar 11)) (rC (.str [126, 126]))) [11])) (sIf (tAndR (tOf (r2 eqD (rVar 4) (rC (.str [97, 104, 101, 97, 100])))) (tOf (r2 neD (rCall m_compare (rCons (rVar 9) (rCons (rVar 2) (rCons (rVar 3) rNil)))) (rCall m__law_less (rCons (r2 ixD (rVar 10) (rC (.int 0))) (rCons (r2 ixD (rVar 10) (rC (.int 1))) rNil)))))) (sRet (rC (.bl false))) sNext))))))))) (sSeq (sSet 12 (rTup (rCons (rC (.str [116, 111, 103, 101, 116, 104, 101, 114])) (rCons (rC (.str [110, 117, 109, 98, 101, 114, 115])) (rCons (rC (.str [97, 104, 101, 97, 100])) (rCons (rC (.str [102, 105, 114, 115, 116])) (rCons (rC (.int 0)) rNil))))))) (sSeq (sIf (tOf (r2 neD (rCall m_compare (rCons (rVar 12) (rCons (rVar 2) (rCons (rVar 3) rNil)))) (rCall m__law_less (rCons (rCall m__law_number_key (rCons (rVar 2) rNil)) (rCons (rCall m__law_number_key (rCons (rVar 3) rNil)) rNil))))) (sRet (rC (.bl false))) sNext) (sSeq (sSet 13 (rTup (rCons (rC (.str [108, 97, 115, 116])) (rCons (rC (.str [110, 117, 109, 98, 101, 114, 115])) (rCons (rC (.str [97, 104, 101, 97, 100])) (rCons (rC (.str [102, 105, 114, 115, 116])) (rCons (rC (.int 0)) rNil))))))) (sSeq (sSet 14 (rLc (.one 11) (iAny (rTup (rCons (rVar 2) (rCons (rVar 3) rNil)))) tYesR (rMt tyStr joinD (rC (.str [])) (rCons (rLc (.one 15) (iAny (rVar 11)) (tOf (rMt tyStr isalphaD (rVar 15) rNil)) (rVar 15) [15]) rNil)) [11])) (sSeq (sSet 16 (rCall m_compare (rCons (rVar 12) (rCons (rVar 2) (rCons (rVar 3) rNil))))) (sSeq (sIf (tOf (r2 neD (rCall m_compare (rCons (rVar 13) (rCons (rVar 2) (rCons (rVar 3) rNil)))) (rIf (tOf (r2 neD (rVar 16) (rC (.int 0)))) (rVar 16) (rCall m__law_less (rCons (r2 ixD (rVar 14) (rC (.int 0))) (rCons (r2 ixD (rVar 14) (rC (.int 1))) rNil)))))) (sRet (rC (.bl false))) sNext) (sSeq (sSet 17 (rLc (.one 18) (iRng1S (rCons (rC (.int 12)) rNil)) tYesR (rSl slD (rCall m__law_near (rCons (rVar 1) (rCons (rVar 2) rNil))) oNone (oSome (rC (.int 40)))) [18])) (sSeq (sSet 7 (rLc (.tup [19, 20, 11]) (iAny (rCB sortPD (rCons (rLc (.one 18) (iRng1S (rCons (rC (.int 12)) rNil)) tYesR (rTup (rCons (rCall m__law_number_key (rCons (r2 ixD (rVar 17) (rVar 18)) rNil)) (rCons (rVar 18) (rCons (r2 ixD (rVar 17) (rVar 18)) rNil)))) [18]) rNil))) tYesR (rVar 11) [19, 20, 11])) (sSeq (sIf (tOf (r2 neD (rCall m_sorted_by (rCons (rVar 12) (rCons (rVar 17) rNil))) (rVar 7))) (sRet (rC (.bl false))) sNext) (sSeq (sSet 21 (rLc (.tup [19, 11]) (iSeq (rCB sortPD (rCons (rLc (.one 11) (iSeq (rVar 17)) tYesR (rTup (rCons (rSw 95 [32] (rVar 11)) (rCons (rVar 11) rNil))) [11]) rNil))) tYesR (rVar 11) [19, 11])) (sRet (r2 eqD (rCall m_sorted_by (rCons (rTup (rCons (rC (.str [97, 112, 97, 114, 116])) (rCons (rC (.str [115, 105, 103, 110, 115])) (rCons (rC (.str [97, 104, 101, 97, 100])) (rCons (rC (.str [102, 105, 114, 115, 116])) (rCons (rC (.int 0)) rNil)))))) (rCons (rVar 17) rNil))) (rVar 21)))))))))))))))))
def m_law : FSem := fnSem 22 1 b_law
section
variable {P : Program} {w : World} {K : PySem.W.Frag} {mg : Str → Option Value} {base : Heap} {Y : Pc}
abbrev s_is_int : Stmt := top 4
theorem sc_is_int : FnScope ["value", "low", "high"] ["value", "low", "high"] (defScope s_is_int) := ⟨rfl, rfl, rfl, by decide +kernel, rfl, by decide +kernel, by decide +kernel⟩
theorem ok_is_int {f : Addr} {fd : FuncData} (G : Gb w K mg Y)  (Fu : FunD K "is_int" "is_int" (defArgs s_is_int) (defBody s_is_int) (defScope s_is_int) [] [] f fd) (hm : mg "is_int" = some (.ref f)) : DefOk P w K mg base Y "is_int" 3 2 m_is_int := by
  refine defok (N := ["value", "low", "high"]) (ps := ["value", "low", "high"]) (k := 1) 3 3 Fu hm sc_is_int rfl rfl (fun _ _ _ _ _ _ us hl => match us, hl with | [_, _, _], _ => rfl) fun X W cdv A outer s H E hX C po tk => ?_
  subst hX
  exact (ss_one (ss_ret (se_and (se_isi .int (by decide +kernel) rfl G.b_isinstance G.b_int (se_var 0)) (se_and (se_not (se_isi .bool (by decide +kernel) rfl G.b_isinstance G.b_bool (se_var 0))) (se_one (se_chain sop_le sop_le (se_var 1) (se_var 0) (se_var 2)))))))
abbrev s_is_text : Stmt := top 11
theorem sc_is_text : FnScope ["value", "sign"] ["value"] (defScope s_is_text) := ⟨rfl, rfl, rfl, by decide +kernel, rfl, by decide +kernel, by decide +kernel⟩
theorem ok_is_text {f : Addr} {fd : FuncData} (G : Gb w K mg Y)  (Fu : FunD K "is_text" "is_text" (defArgs s_is_text) (defBody s_is_text) (defScope s_is_text) [] [] f fd) (hm : mg "is_text" = some (.ref f)) : DefOk P w K mg base Y "is_text" 1 2 m_is_text := by
  refine defok (N := ["value", "sign"]) (ps := ["value"]) (k := 1) 2 1 Fu hm sc_is_text rfl rfl (fun _ _ _ _ _ _ us hl => match us, hl with | [_], _ => rfl) fun X W cdv A outer s H E hX C po tk => ?_
  subst hX
  exact (ss_cons (ss_if ((sw_or (sb_not (sb_val (se_isi .str (by decide +kernel) rfl G.b_isinstance G.b_str (se_var 0)))) (sw_or1 (sb_cmp sop_gt (se_callB scall_len G.b_len (by decide +kernel) (sa_cons (se_var 0) sa_nil)) (se_gint G.c_MOST_TEXT))))).sb (ss_one (ss_ret se_bl)) ss_nil) (ss_one (ss_ret (se_callB (scall_all C) G.b_all (by decide +kernel) (sa_cons (se_lc [("sign", 1)] C (si_any (se_var 0)) (by kernel_rfl) (fun _ _ _ _ _ => (tg_one 1 C.nd)) (fun _ _ _ _ _ C => pts_yes) (fun _ _ _ _ _ C => (se_cmp (sop_in C) (se_var 1) (se_bin sop_add (se_bin sop_add (se_bin sop_add (se_gstr G.c_FIGURES) (se_gstr G.c_CAPITALS)) (se_gstr G.c_SMALL)) se_str)))) sa_nil)))))
abbrev s_check_text : Stmt := top 12
theorem sc_check_text : FnScope ["value"] ["value"] (defScope s_check_text) := ⟨rfl, rfl, rfl, by decide +kernel, rfl, by decide +kernel, by decide +kernel⟩
theorem ok_check_text {f : Addr} {fd : FuncData} (G : Gb w K mg Y) (d_is_text : DefOk P w K mg base Y "is_text" 1 2 m_is_text) (Fu : FunD K "check_text" "check_text" (defArgs s_check_text) (defBody s_check_text) (defScope s_check_text) [] [] f fd) (hm : mg "check_text" = some (.ref f)) : DefOk P w K mg base Y "check_text" 1 3 m_check_text := by
  refine defok (N := ["value"]) (ps := ["value"]) (k := 2) 1 1 Fu hm sc_check_text rfl rfl (fun _ _ _ _ _ _ us hl => match us, hl with | [_], _ => rfl) fun X W cdv A outer s H E hX C po tk => ?_
  subst hX
  exact (ss_one (ss_if (sb_not (sb_val (se_def C d_is_text (by decide) (sa_cons (se_var 0) sa_nil) (len_cons len_nil)))) (ss_one (ss_raise 2 C.calm tk G.x_BadText)) ss_nil))
abbrev s_check_list : Stmt := top 13
theorem sc_check_list : FnScope ["value", "one"] ["value"] (defScope s_check_list) := ⟨rfl, rfl, rfl, by decide +kernel, rfl, by decide +kernel, by decide +kernel⟩
theorem ok_check_list {f : Addr} {fd : FuncData} (G : Gb w K mg Y) (d_is_text : DefOk P w K mg base Y "is_text" 1 2 m_is_text) (Fu : FunD K "check_list" "check_list" (defArgs s_check_list) (defBody s_check_list) (defScope s_check_list) [] [] f fd) (hm : mg "check_list" = some (.ref f)) : DefOk P w K mg base Y "check_list" 1 3 m_check_list := by
  refine defok (N := ["value", "one"]) (ps := ["value"]) (k := 2) 2 1 Fu hm sc_check_list rfl rfl (fun _ _ _ _ _ _ us hl => match us, hl with | [_], _ => rfl) fun X W cdv A outer s H E hX C po tk => ?_
  subst hX
  exact (ss_one (ss_if ((sw_or (sb_not (sb_val (se_isi .list (by decide +kernel) rfl G.b_isinstance G.b_list (se_var 0)))) (sw_or (sb_not (sb_chain sop_le sop_le se_int (se_callB scall_len G.b_len (by decide +kernel) (sa_cons (se_var 0) sa_nil)) (se_gint G.c_MOST_LIST))) (sw_or1 (sb_not (sb_val (se_callB (scall_all C) G.b_all (by decide +kernel) (sa_cons (se_lc [("one", 1)] C (si_any (se_var 0)) (by kernel_rfl) (fun _ _ _ _ _ => (tg_one 1 C.nd)) (fun _ _ _ _ _ C => pts_yes) (fun _ _ _ _ _ C => (se_def C d_is_text (by decide) (sa_cons (se_var 1) sa_nil) (len_cons len_nil)))) sa_nil)))))))).sb (ss_one (ss_raise 2 C.calm tk G.x_BadText)) ss_nil))
abbrev s_looks_of : Stmt := top 15
theorem sc_looks_of : FnScope ["rule", "case", "figures", "bars", "ends", "turned", "first", "numbers", "found"] ["rule"] (defScope s_looks_of) := ⟨rfl, rfl, rfl, by decide +kernel, rfl, by decide +kernel, by decide +kernel⟩
theorem ok_looks_of {f : Addr} {fd : FuncData} (G : Gb w K mg Y)  (Fu : FunD K "looks_of" "looks_of" (defArgs s_looks_of) (defBody s_looks_of) (defScope s_looks_of) [] [] f fd) (hm : mg "looks_of" = some (.ref f)) : DefOk P w K mg base Y "looks_of" 1 2 m_looks_of := by
  refine defok (N := ["rule", "case", "figures", "bars", "ends", "turned", "first", "numbers", "found"]) (ps := ["rule"]) (k := 1) 9 1 Fu hm sc_looks_of rfl rfl (fun _ _ _ _ _ _ us hl => match us, hl with | [_], _ => rfl) fun X W cdv A outer s H E hX C po tk => ?_
  subst hX
  exact (ss_cons (ss_asg (se_var 0) (tg_tup C.calm (tgs_cons 1 (tgs_cons 2 (tgs_cons 3 (tgs_cons 4 (tgs_cons 5 tgs_nil C.nd) C.nd) C.nd) C.nd) C.nd))) (ss_cons (ss_par 6 7 C.calm (sa_cons (se_ifExp (sb_cmp (sop_eq C) (se_var 1) se_str) se_str (se_var 1)) (sa_cons (se_ifExp (sb_cmp (sop_eq C) (se_var 2) se_str) se_int se_int) sa_nil)) C.nd) (ss_cons (ss_set 8 (se_lstM (sa_cons (se_tup (sa_cons (se_var 6) (sa_cons (se_var 7) (sa_cons (se_var 3) (sa_cons (se_var 4) sa_nil))))) sa_nil)) C.nd) (ss_cons (ss_if (sb_cmp (sop_eq C) (se_var 2) se_str) (ss_one (ss_expr (se_bm smt_append PySem.F.plainAttrs_list PySem.F.slot_list_append PySem.F.type_list_append (se_var 8) (sa_cons (se_tup (sa_cons (se_var 6) (sa_cons se_int (sa_cons (se_var 3) (sa_cons (se_var 4) sa_nil))))) sa_nil)))) ss_nil) (ss_cons (ss_if (sb_cmp (sop_eq C) (se_var 1) se_str) (ss_one (ss_expr (se_bm smt_append PySem.F.plainAttrs_list PySem.F.slot_list_append PySem.F.type_list_append (se_var 8) (sa_cons (se_tup (sa_cons se_str (sa_cons (se_var 7) (sa_cons (se_var 3) (sa_cons (se_var 4) sa_nil))))) sa_nil)))) ss_nil) (ss_one (ss_ret (se_fz (se_var 8)))))))))
abbrev s_sign_of : Stmt := top 16
theorem sc_sign_of : FnScope ["rule"] ["rule"] (defScope s_sign_of) := ⟨rfl, rfl, rfl, by decide +kernel, rfl, by decide +kernel, by decide +kernel⟩
theorem ok_sign_of {f : Addr} {fd : FuncData} (G : Gb w K mg Y)  (Fu : FunD K "sign_of" "sign_of" (defArgs s_sign_of) (defBody s_sign_of) (defScope s_sign_of) [] [] f fd) (hm : mg "sign_of" = some (.ref f)) : DefOk P w K mg base Y "sign_of" 1 2 m_sign_of := by
  refine defok (N := ["rule"]) (ps := ["rule"]) (k := 1) 1 1 Fu hm sc_sign_of rfl rfl (fun _ _ _ _ _ _ us hl => match us, hl with | [_], _ => rfl) fun X W cdv A outer s H E hX C po tk => ?_
  subst hX
  exact (ss_one (ss_ret (se_ifExp (sb_cmp (sop_eq C) (se_ix six (se_var 0) se_int) se_int) (se_neg se_int) se_int)))
abbrev s_rank_of : Stmt := top 17
theorem sc_rank_of : FnScope ["look", "sign", "case", "bars", "low"] ["look", "sign"] (defScope s_rank_of) := ⟨rfl, rfl, rfl, by decide +kernel, rfl, by decide +kernel, by decide +kernel⟩
theorem ok_rank_of {f : Addr} {fd : FuncData} (G : Gb w K mg Y)  (Fu : FunD K "rank_of" "rank_of" (defArgs s_rank_of) (defBody s_rank_of) (defScope s_rank_of) [] [] f fd) (hm : mg "rank_of" = some (.ref f)) : DefOk P w K mg base Y "rank_of" 2 2 m_rank_of := by
  refine defok (N := ["look", "sign", "case", "bars", "low"]) (ps := ["look", "sign"]) (k := 1) 5 2 Fu hm sc_rank_of rfl rfl (fun _ _ _ _ _ _ us hl => match us, hl with | [_, _], _ => rfl) fun X W cdv A outer s H E hX C po tk => ?_
  subst hX
  exact (ss_cons (ss_par 2 3 C.calm (sa_cons (se_ix six (se_var 0) se_int) (sa_cons (se_ix six (se_var 0) se_int) sa_nil)) C.nd) (ss_cons (ss_if (sb_cmp (sop_eq C) (se_var 1) se_str) (ss_one (ss_ret (se_tup (sa_cons (se_ifExp (sb_cmp (sop_eq C) (se_var 3) se_str) se_int se_int) (sa_cons se_int (sa_cons se_int sa_nil)))))) ss_nil) (ss_cons (ss_if (sb_cmp (sop_in C) (se_var 1) (se_gstr G.c_FIGURES)) (ss_one (ss_ret (se_tup (sa_cons se_int (sa_cons (se_callTy scall_int G.b_int (by decide +kernel) (sa_cons (se_var 1) sa_nil)) (sa_cons se_int sa_nil)))))) ss_nil) (ss_cons (ss_set 4 (se_ifExp (sb_cmp (sop_eq C) (se_var 1) (se_bm0 smt_lower PySem.F.plainAttrs_str PySem.F.slot_str_lower PySem.F.type_str_lower (se_var 1))) se_int se_int) C.nd) (ss_cons (ss_if (sb_cmp (sop_eq C) (se_var 2) se_str) (ss_one (ss_ret (se_tup (sa_cons se_int (sa_cons (se_var 4) (sa_cons (se_callB scall_ord G.b_ord (by decide +kernel) (sa_cons (se_var 1) sa_nil)) sa_nil)))))) ss_nil) (ss_one (ss_ret (se_tup (sa_cons se_int (sa_cons (se_callB scall_ord G.b_ord (by decide +kernel) (sa_cons (se_bm0 smt_lower PySem.F.plainAttrs_str PySem.F.slot_str_lower PySem.F.type_str_lower (se_var 1)) sa_nil)) (sa_cons (se_ifExp (sb_cmp (sop_eq C) (se_var 2) se_str) (se_var 4) se_int) sa_nil)))))))))))
abbrev s_by_rank : Stmt := top 18
theorem sc_by_rank : FnScope ["look", "one", "other", "mine", "yours"] ["look", "one", "other"] (defScope s_by_rank) := ⟨rfl, rfl, rfl, by decide +kernel, rfl, by decide +kernel, by decide +kernel⟩
theorem ok_by_rank {f : Addr} {fd : FuncData} (G : Gb w K mg Y) (d_rank_of : DefOk P w K mg base Y "rank_of" 2 2 m_rank_of) (Fu : FunD K "by_rank" "by_rank" (defArgs s_by_rank) (defBody s_by_rank) (defScope s_by_rank) [] [] f fd) (hm : mg "by_rank" = some (.ref f)) : DefOk P w K mg base Y "by_rank" 3 3 m_by_rank := by
  refine defok (N := ["look", "one", "other", "mine", "yours"]) (ps := ["look", "one", "other"]) (k := 2) 5 3 Fu hm sc_by_rank rfl rfl (fun _ _ _ _ _ _ us hl => match us, hl with | [_, _, _], _ => rfl) fun X W cdv A outer s H E hX C po tk => ?_
  subst hX
  exact (ss_cons (ss_if (sb_cmp (sop_eq C) (se_var 1) (se_var 2)) (ss_one (ss_ret se_int)) ss_nil) (ss_cons (ss_if ((sw_or (sb_cmp (sop_eq C) (se_var 1) se_str) (sw_or1 (sb_cmp (sop_eq C) (se_var 2) se_str)))).sb (ss_one (ss_ret (se_ifExp (sb_cmp (sop_eq C) (se_cmp (sop_eq C) (se_var 1) se_str) (se_cmp (sop_eq C) (se_ix six (se_var 0) se_int) se_str)) (se_neg se_int) se_int))) ss_nil) (ss_cons (ss_par 3 4 C.calm (sa_cons (se_def C d_rank_of (by decide) (sa_cons (se_var 0) (sa_cons (se_var 1) sa_nil)) (len_cons (len_cons len_nil))) (sa_cons (se_def C d_rank_of (by decide) (sa_cons (se_var 0) (sa_cons (se_var 2) sa_nil)) (len_cons (len_cons len_nil))) sa_nil)) C.nd) (ss_one (ss_ret (se_ifExp (sb_cmp (sop_eq C) (se_var 3) (se_var 4)) se_int (se_ifExp (sb_cmp (sop_ltA C) (se_var 3) (se_var 4)) (se_neg se_int) se_int)))))))
abbrev s_is_word : Stmt := top 24
theorem sc_is_word : FnScope ["value", "words"] ["value", "words"] (defScope s_is_word) := ⟨rfl, rfl, rfl, by decide +kernel, rfl, by decide +kernel, by decide +kernel⟩
theorem ok_is_word {f : Addr} {fd : FuncData} (G : Gb w K mg Y)  (Fu : FunD K "is_word" "is_word" (defArgs s_is_word) (defBody s_is_word) (defScope s_is_word) [] [] f fd) (hm : mg "is_word" = some (.ref f)) : DefOk P w K mg base Y "is_word" 2 2 m_is_word := by
  refine defok (N := ["value", "words"]) (ps := ["value", "words"]) (k := 1) 2 2 Fu hm sc_is_word rfl rfl (fun _ _ _ _ _ _ us hl => match us, hl with | [_, _], _ => rfl) fun X W cdv A outer s H E hX C po tk => ?_
  subst hX
  exact (ss_one (ss_ret (se_and (se_isi .str (by decide +kernel) rfl G.b_isinstance G.b_str (se_var 0)) (se_one (se_cmp (sop_in C) (se_var 0) (se_var 1))))))
abbrev s_is_rule : Stmt := top 25
theorem sc_is_rule : FnScope ["value"] ["value"] (defScope s_is_rule) := ⟨rfl, rfl, rfl, by decide +kernel, rfl, by decide +kernel, by decide +kernel⟩
theorem ok_is_rule {f : Addr} {fd : FuncData} (G : Gb w K mg Y) (d_is_word : DefOk P w K mg base Y "is_word" 2 2 m_is_word) (d_is_int : DefOk P w K mg base Y "is_int" 3 2 m_is_int) (Fu : FunD K "is_rule" "is_rule" (defArgs s_is_rule) (defBody s_is_rule) (defScope s_is_rule) [] [] f fd) (hm : mg "is_rule" = some (.ref f)) : DefOk P w K mg base Y "is_rule" 1 3 m_is_rule := by
  refine defok (N := ["value"]) (ps := ["value"]) (k := 2) 1 1 Fu hm sc_is_rule rfl rfl (fun _ _ _ _ _ _ us hl => match us, hl with | [_], _ => rfl) fun X W cdv A outer s H E hX C po tk => ?_
  subst hX
  exact (ss_cons (ss_if ((sw_or (sb_not (sb_val (se_isi .tuple (by decide +kernel) rfl G.b_isinstance G.b_tuple (se_var 0)))) (sw_or1 (sb_cmp (sop_ne C) (se_callB scall_len G.b_len (by decide +kernel) (sa_cons (se_var 0) sa_nil)) se_int)))).sb (ss_one (ss_ret se_bl)) ss_nil) (ss_cons (ss_if ((sw_or (sb_not (sb_val (se_def C d_is_word (by decide) (sa_cons (se_ix six (se_var 0) se_int) (sa_cons (se_gtup (ls := [[97, 112, 97, 114, 116], [109, 105, 120, 101, 100], [116, 111, 103, 101, 116, 104, 101, 114], [108, 97, 115, 116]]) G.c_CASES) sa_nil)) (len_cons (len_cons len_nil))))) (sw_or1 (sb_not (sb_val (se_def C d_is_word (by decide) (sa_cons (se_ix six (se_var 0) se_int) (sa_cons (se_gtup (ls := [[115, 105, 103, 110, 115], [110, 117, 109, 98, 101, 114, 115], [115, 116, 114, 105, 99, 116]]) G.c_NUMBERS) sa_nil)) (len_cons (len_cons len_nil)))))))).sb (ss_one (ss_ret se_bl)) ss_nil) (ss_one (ss_ret (se_and (se_def C d_is_word (by decide) (sa_cons (se_ix six (se_var 0) se_int) (sa_cons (se_gtup (ls := [[97, 104, 101, 97, 100], [98, 101, 104, 105, 110, 100]]) G.c_BARS) sa_nil)) (len_cons (len_cons len_nil))) (se_and (se_def C d_is_word (by decide) (sa_cons (se_ix six (se_var 0) se_int) (sa_cons (se_gtup (ls := [[102, 105, 114, 115, 116], [98, 101, 104, 105, 110, 100]]) G.c_ENDS) sa_nil)) (len_cons (len_cons len_nil))) (se_one (se_def C d_is_int (by decide) (sa_cons (se_ix six (se_var 0) se_int) (sa_cons se_int (sa_cons se_int sa_nil))) (len_cons (len_cons (len_cons len_nil)))))))))))
abbrev s_check_rule : Stmt := top 26
theorem sc_check_rule : FnScope ["value"] ["value"] (defScope s_check_rule) := ⟨rfl, rfl, rfl, by decide +kernel, rfl, by decide +kernel, by decide +kernel⟩
theorem ok_check_rule {f : Addr} {fd : FuncData} (G : Gb w K mg Y) (d_is_rule : DefOk P w K mg base Y "is_rule" 1 3 m_is_rule) (Fu : FunD K "check_rule" "check_rule" (defArgs s_check_rule) (defBody s_check_rule) (defScope s_check_rule) [] [] f fd) (hm : mg "check_rule" = some (.ref f)) : DefOk P w K mg base Y "check_rule" 1 4 m_check_rule := by
  refine defok (N := ["value"]) (ps := ["value"]) (k := 3) 1 1 Fu hm sc_check_rule rfl rfl (fun _ _ _ _ _ _ us hl => match us, hl with | [_], _ => rfl) fun X W cdv A outer s H E hX C po tk => ?_
  subst hX
  exact (ss_one (ss_if (sb_not (sb_val (se_def C d_is_rule (by decide) (sa_cons (se_var 0) sa_nil) (len_cons len_nil)))) (ss_one (ss_raise 1 C.calm tk G.x_BadRule)) ss_nil))
abbrev s_cut : Stmt := top 28
theorem sc_cut : FnScope ["text", "numbers", "found", "place", "sign"] ["text", "numbers"] (defScope s_cut) := ⟨rfl, rfl, rfl, by decide +kernel, rfl, by decide +kernel, by decide +kernel⟩
theorem ok_cut {f : Addr} {fd : FuncData} (G : Gb w K mg Y)  (Fu : FunD K "cut" "cut" (defArgs s_cut) (defBody s_cut) (defScope s_cut) [] [] f fd) (hm : mg "cut" = some (.ref f)) : DefOk P w K mg base Y "cut" 2 2 m_cut := by
  refine defok (N := ["text", "numbers", "found", "place", "sign"]) (ps := ["text", "numbers"]) (k := 1) 5 2 Fu hm sc_cut rfl rfl (fun _ _ _ _ _ _ us hl => match us, hl with | [_, _], _ => rfl) fun X W cdv A outer s H E hX C po tk => ?_
  subst hX
  exact (ss_cons (ss_set 2 (se_lstM sa_nil) C.nd) (ss_cons (ss_for po C (si_enum G.b_enumerate (sa_cons (se_var 0) sa_nil)) (tg_tup C.calm (tgs_cons 3 (tgs_cons 4 tgs_nil C.nd) C.nd)) (ss_one (ss_if ((sw_and (sb_cmp (sop_eq C) (se_var 1) se_int) (sw_and (sb_cmp sop_gt (se_var 3) se_int) (sw_and (sb_cmp (sop_in C) (se_var 4) (se_gstr G.c_FIGURES)) (sw_and1 (sb_cmp (sop_in C) (se_ix six (se_var 0) (se_bin sop_sub (se_var 3) se_int)) (se_gstr G.c_FIGURES))))))).sb (ss_one (ss_augix sget_list sip_add sset_list (se_var 2) (se_neg se_int) (se_var 4))) (ss_one (ss_expr (se_bm smt_append PySem.F.plainAttrs_list PySem.F.slot_list_append PySem.F.type_list_append (se_var 2) (sa_cons (se_var 4) sa_nil))))))) (ss_one (ss_ret (se_fz (se_var 2))))))
abbrev s_by_piece : Stmt := top 29
theorem sc_by_piece : FnScope ["look", "one", "other", "mine", "yours"] ["look", "one", "other"] (defScope s_by_piece) := ⟨rfl, rfl, rfl, by decide +kernel, rfl, by decide +kernel, by decide +kernel⟩
theorem ok_by_piece {f : Addr} {fd : FuncData} (G : Gb w K mg Y) (d_by_rank : DefOk P w K mg base Y "by_rank" 3 3 m_by_rank) (Fu : FunD K "by_piece" "by_piece" (defArgs s_by_piece) (defBody s_by_piece) (defScope s_by_piece) [] [] f fd) (hm : mg "by_piece" = some (.ref f)) : DefOk P w K mg base Y "by_piece" 3 4 m_by_piece := by
  refine defok (N := ["look", "one", "other", "mine", "yours"]) (ps := ["look", "one", "other"]) (k := 3) 5 3 Fu hm sc_by_piece rfl rfl (fun _ _ _ _ _ _ us hl => match us, hl with | [_, _, _], _ => rfl) fun X W cdv A outer s H E hX C po tk => ?_
  subst hX
  exact (ss_cons (ss_if ((sw_and (sb_cmp (sop_in C) (se_ix six (se_var 1) se_int) (se_gstr G.c_FIGURES)) (sw_and1 (sb_cmp (sop_in C) (se_ix six (se_var 2) se_int) (se_gstr G.c_FIGURES))))).sb (ss_cons (ss_par 3 4 C.calm (sa_cons (se_callTy scall_int G.b_int (by decide +kernel) (sa_cons (se_var 1) sa_nil)) (sa_cons (se_callTy scall_int G.b_int (by decide +kernel) (sa_cons (se_var 2) sa_nil)) sa_nil)) C.nd) (ss_one (ss_ret (se_ifExp (sb_cmp (sop_eq C) (se_var 3) (se_var 4)) se_int (se_ifExp (sb_cmp (sop_ltA C) (se_var 3) (se_var 4)) (se_neg se_int) se_int))))) ss_nil) (ss_one (ss_ret (se_def C d_by_rank (by decide) (sa_cons (se_var 0) (sa_cons (se_ix six (se_var 1) se_int) (sa_cons (se_ix six (se_var 2) se_int) sa_nil))) (len_cons (len_cons (len_cons len_nil)))))))
abbrev s_by_look : Stmt := top 30
theorem sc_by_look : FnScope ["look", "one", "other", "mine", "yours", "first", "second", "told"] ["look", "one", "other"] (defScope s_by_look) := ⟨rfl, rfl, rfl, by decide +kernel, rfl, by decide +kernel, by decide +kernel⟩
theorem ok_by_look {f : Addr} {fd : FuncData} (G : Gb w K mg Y) (d_cut : DefOk P w K mg base Y "cut" 2 2 m_cut) (d_by_piece : DefOk P w K mg base Y "by_piece" 3 4 m_by_piece) (d_by_rank : DefOk P w K mg base Y "by_rank" 3 3 m_by_rank) (Fu : FunD K "by_look" "by_look" (defArgs s_by_look) (defBody s_by_look) (defScope s_by_look) [] [] f fd) (hm : mg "by_look" = some (.ref f)) : DefOk P w K mg base Y "by_look" 3 5 m_by_look := by
  refine defok (N := ["look", "one", "other", "mine", "yours", "first", "second", "told"]) (ps := ["look", "one", "other"]) (k := 4) 8 3 Fu hm sc_by_look rfl rfl (fun _ _ _ _ _ _ us hl => match us, hl with | [_, _, _], _ => rfl) fun X W cdv A outer s H E hX C po tk => ?_
  subst hX
  exact (ss_cons (ss_par 3 4 C.calm (sa_cons (se_def C d_cut (by decide) (sa_cons (se_var 1) (sa_cons (se_ix six (se_var 0) se_int) sa_nil)) (len_cons (len_cons len_nil))) (sa_cons (se_def C d_cut (by decide) (sa_cons (se_var 2) (sa_cons (se_ix six (se_var 0) se_int) sa_nil)) (len_cons (len_cons len_nil))) sa_nil)) C.nd) (ss_cons (ss_for po C (si_zip G.b_zip (sa_cons (se_var 3) (sa_cons (se_var 4) sa_nil))) (tg_tup C.calm (tgs_cons 5 (tgs_cons 6 tgs_nil C.nd) C.nd)) (ss_cons (ss_set 7 (se_def C d_by_piece (by decide) (sa_cons (se_var 0) (sa_cons (se_var 5) (sa_cons (se_var 6) sa_nil))) (len_cons (len_cons (len_cons len_nil)))) C.nd) (ss_one (ss_if (sb_cmp (sop_ne C) (se_var 7) se_int) (ss_one (ss_ret (se_var 7))) ss_nil)))) (ss_cons (ss_if (sb_cmp (sop_eq C) (se_callB scall_len G.b_len (by decide +kernel) (sa_cons (se_var 3) sa_nil)) (se_callB scall_len G.b_len (by decide +kernel) (sa_cons (se_var 4) sa_nil))) (ss_one (ss_ret se_int)) ss_nil) (ss_one (ss_ret (se_ifExp (sb_cmp (sop_ltA C) (se_callB scall_len G.b_len (by decide +kernel) (sa_cons (se_var 3) sa_nil)) (se_callB scall_len G.b_len (by decide +kernel) (sa_cons (se_var 4) sa_nil))) (se_def C d_by_rank (by decide) (sa_cons (se_var 0) (sa_cons se_str (sa_cons se_str sa_nil))) (len_cons (len_cons (len_cons len_nil)))) (se_def C d_by_rank (by decide) (sa_cons (se_var 0) (sa_cons se_str (sa_cons se_str sa_nil))) (len_cons (len_cons (len_cons len_nil))))))))))
abbrev s_by_looks : Stmt := top 31
theorem sc_by_looks : FnScope ["looks", "one", "other", "look", "told"] ["looks", "one", "other"] (defScope s_by_looks) := ⟨rfl, rfl, rfl, by decide +kernel, rfl, by decide +kernel, by decide +kernel⟩
theorem ok_by_looks {f : Addr} {fd : FuncData} (G : Gb w K mg Y) (d_by_look : DefOk P w K mg base Y "by_look" 3 5 m_by_look) (Fu : FunD K "by_looks" "by_looks" (defArgs s_by_looks) (defBody s_by_looks) (defScope s_by_looks) [] [] f fd) (hm : mg "by_looks" = some (.ref f)) : DefOk P w K mg base Y "by_looks" 3 6 m_by_looks := by
  refine defok (N := ["looks", "one", "other", "look", "told"]) (ps := ["looks", "one", "other"]) (k := 5) 5 3 Fu hm sc_by_looks rfl rfl (fun _ _ _ _ _ _ us hl => match us, hl with | [_, _, _], _ => rfl) fun X W cdv A outer s H E hX C po tk => ?_
  subst hX
  exact (ss_cons (ss_for po C (si_any (se_var 0)) (tg_one 3 C.nd) (ss_cons (ss_set 4 (se_def C d_by_look (by decide) (sa_cons (se_var 3) (sa_cons (se_var 1) (sa_cons (se_var 2) sa_nil))) (len_cons (len_cons (len_cons len_nil)))) C.nd) (ss_one (ss_if (sb_cmp (sop_ne C) (se_var 4) se_int) (ss_one (ss_ret (se_var 4))) ss_nil)))) (ss_one (ss_ret se_int)))
abbrev s_told_by : Stmt := top 32
theorem sc_told_by : FnScope ["rule", "one", "other"] ["rule", "one", "other"] (defScope s_told_by) := ⟨rfl, rfl, rfl, by decide +kernel, rfl, by decide +kernel, by decide +kernel⟩
theorem ok_told_by {f : Addr} {fd : FuncData} (G : Gb w K mg Y) (d_sign_of : DefOk P w K mg base Y "sign_of" 1 2 m_sign_of) (d_by_looks : DefOk P w K mg base Y "by_looks" 3 6 m_by_looks) (d_looks_of : DefOk P w K mg base Y "looks_of" 1 2 m_looks_of) (Fu : FunD K "told_by" "told_by" (defArgs s_told_by) (defBody s_told_by) (defScope s_told_by) [] [] f fd) (hm : mg "told_by" = some (.ref f)) : DefOk P w K mg base Y "told_by" 3 7 m_told_by := by
  refine defok (N := ["rule", "one", "other"]) (ps := ["rule", "one", "other"]) (k := 6) 3 3 Fu hm sc_told_by rfl rfl (fun _ _ _ _ _ _ us hl => match us, hl with | [_, _, _], _ => rfl) fun X W cdv A outer s H E hX C po tk => ?_
  subst hX
  exact (ss_one (ss_ret (se_bin sop_mul (se_def C d_sign_of (by decide) (sa_cons (se_var 0) sa_nil) (len_cons len_nil)) (se_def C d_by_looks (by decide) (sa_cons (se_def C d_looks_of (by decide) (sa_cons (se_var 0) sa_nil) (len_cons len_nil)) (sa_cons (se_var 1) (sa_cons (se_var 2) sa_nil))) (len_cons (len_cons (len_cons len_nil)))))))
abbrev s_compare : Stmt := top 33
theorem sc_compare : FnScope ["rule", "one", "other"] ["rule", "one", "other"] (defScope s_compare) := ⟨rfl, rfl, rfl, by decide +kernel, rfl, by decide +kernel, by decide +kernel⟩
theorem ok_compare {f : Addr} {fd : FuncData} (G : Gb w K mg Y) (d_check_rule : DefOk P w K mg base Y "check_rule" 1 4 m_check_rule) (d_check_text : DefOk P w K mg base Y "check_text" 1 3 m_check_text) (d_told_by : DefOk P w K mg base Y "told_by" 3 7 m_told_by) (Fu : FunD K "compare" "compare" (defArgs s_compare) (defBody s_compare) (defScope s_compare) [] [] f fd) (hm : mg "compare" = some (.ref f)) : DefOk P w K mg base Y "compare" 3 8 m_compare := by
  refine defok (N := ["rule", "one", "other"]) (ps := ["rule", "one", "other"]) (k := 7) 3 3 Fu hm sc_compare rfl rfl (fun _ _ _ _ _ _ us hl => match us, hl with | [_, _, _], _ => rfl) fun X W cdv A outer s H E hX C po tk => ?_
  subst hX
  exact (ss_cons (ss_expr (se_def C d_check_rule (by decide) (sa_cons (se_var 0) sa_nil) (len_cons len_nil))) (ss_cons (ss_expr (se_def C d_check_text (by decide) (sa_cons (se_var 1) sa_nil) (len_cons len_nil))) (ss_cons (ss_expr (se_def C d_check_text (by decide) (sa_cons (se_var 2) sa_nil) (len_cons len_nil))) (ss_one (ss_ret (se_def C d_told_by (by decide) (sa_cons (se_var 0) (sa_cons (se_var 1) (sa_cons (se_var 2) sa_nil))) (len_cons (len_cons (len_cons len_nil)))))))))
abbrev s_place_for : Stmt := top 34
theorem sc_place_for : FnScope ["rule", "texts", "text", "place"] ["rule", "texts", "text"] (defScope s_place_for) := ⟨rfl, rfl, rfl, by decide +kernel, rfl, by decide +kernel, by decide +kernel⟩
theorem ok_place_for {f : Addr} {fd : FuncData} (G : Gb w K mg Y) (d_told_by : DefOk P w K mg base Y "told_by" 3 7 m_told_by) (Fu : FunD K "place_for" "place_for" (defArgs s_place_for) (defBody s_place_for) (defScope s_place_for) [] [] f fd) (hm : mg "place_for" = some (.ref f)) : DefOk P w K mg base Y "place_for" 3 8 m_place_for := by
  refine defok (N := ["rule", "texts", "text", "place"]) (ps := ["rule", "texts", "text"]) (k := 7) 4 3 Fu hm sc_place_for rfl rfl (fun _ _ _ _ _ _ us hl => match us, hl with | [_, _, _], _ => rfl) fun X W cdv A outer s H E hX C po tk => ?_
  subst hX
  exact (ss_cons (ss_set 3 (se_callB scall_len G.b_len (by decide +kernel) (sa_cons (se_var 1) sa_nil)) C.nd) (ss_cons (ss_while 1000 po ((sw_and (sb_cmp sop_gt (se_var 3) se_int) (sw_and1 (sb_cmp (sop_eq C) (se_def C d_told_by (by decide) (sa_cons (se_var 0) (sa_cons (se_ix six (se_var 1) (se_bin sop_sub (se_var 3) se_int)) (sa_cons (se_var 2) sa_nil))) (len_cons (len_cons (len_cons len_nil)))) se_int)))).sb (ss_one (ss_aug 3 sip_sub se_int C.nd))) (ss_one (ss_ret (se_var 3)))))
abbrev s_in_order : Stmt := top 35
theorem sc_in_order : FnScope ["rule", "texts", "found", "text"] ["rule", "texts"] (defScope s_in_order) := ⟨rfl, rfl, rfl, by decide +kernel, rfl, by decide +kernel, by decide +kernel⟩
theorem ok_in_order {f : Addr} {fd : FuncData} (G : Gb w K mg Y) (d_place_for : DefOk P w K mg base Y "place_for" 3 8 m_place_for) (Fu : FunD K "in_order" "in_order" (defArgs s_in_order) (defBody s_in_order) (defScope s_in_order) [] [] f fd) (hm : mg "in_order" = some (.ref f)) : DefOk P w K mg base Y "in_order" 2 9 m_in_order := by
  refine defok (N := ["rule", "texts", "found", "text"]) (ps := ["rule", "texts"]) (k := 8) 4 2 Fu hm sc_in_order rfl rfl (fun _ _ _ _ _ _ us hl => match us, hl with | [_, _], _ => rfl) fun X W cdv A outer s H E hX C po tk => ?_
  subst hX
  exact (ss_cons (ss_set 2 (se_lstM sa_nil) C.nd) (ss_cons (ss_for po C (si_any (se_var 1)) (tg_one 3 C.nd) (ss_one (ss_expr (se_bm smt_insert PySem.F.plainAttrs_list PySem.F.slot_list_insert PySem.F.type_list_insert (se_var 2) (sa_cons (se_def C d_place_for (by decide) (sa_cons (se_var 0) (sa_cons (se_var 2) (sa_cons (se_var 3) sa_nil))) (len_cons (len_cons (len_cons len_nil)))) (sa_cons (se_var 3) sa_nil)))))) (ss_one (ss_ret (se_fz (se_var 2))))))
abbrev s_sorted_by : Stmt := top 36
theorem sc_sorted_by : FnScope ["rule", "texts"] ["rule", "texts"] (defScope s_sorted_by) := ⟨rfl, rfl, rfl, by decide +kernel, rfl, by decide +kernel, by decide +kernel⟩
theorem ok_sorted_by {f : Addr} {fd : FuncData} (G : Gb w K mg Y) (d_check_rule : DefOk P w K mg base Y "check_rule" 1 4 m_check_rule) (d_check_list : DefOk P w K mg base Y "check_list" 1 3 m_check_list) (d_in_order : DefOk P w K mg base Y "in_order" 2 9 m_in_order) (Fu : FunD K "sorted_by" "sorted_by" (defArgs s_sorted_by) (defBody s_sorted_by) (defScope s_sorted_by) [] [] f fd) (hm : mg "sorted_by" = some (.ref f)) : DefOk P w K mg base Y "sorted_by" 2 10 m_sorted_by := by
  refine defok (N := ["rule", "texts"]) (ps := ["rule", "texts"]) (k := 9) 2 2 Fu hm sc_sorted_by rfl rfl (fun _ _ _ _ _ _ us hl => match us, hl with | [_, _], _ => rfl) fun X W cdv A outer s H E hX C po tk => ?_
  subst hX
  exact (ss_cons (ss_expr (se_def C d_check_rule (by decide) (sa_cons (se_var 0) sa_nil) (len_cons len_nil))) (ss_cons (ss_expr (se_def C d_check_list (by decide) (sa_cons (se_var 1) sa_nil) (len_cons len_nil))) (ss_one (ss_ret (se_def C d_in_order (by decide) (sa_cons (se_var 0) (sa_cons (se_var 1) sa_nil)) (len_cons (len_cons len_nil)))))))
abbrev s__law_start : Stmt := top 38
theorem sc__law_start : FnScope ["_law_script"] ["_law_script"] (defScope s__law_start) := ⟨rfl, rfl, rfl, by decide +kernel, rfl, by decide +kernel, by decide +kernel⟩
theorem ok__law_start {f : Addr} {fd : FuncData} (G : Gb w K mg Y)  (Fu : FunD K "_law_start" "_law_start" (defArgs s__law_start) (defBody s__law_start) (defScope s__law_start) [] [] f fd) (hm : mg "_law_start" = some (.ref f)) : DefOk P w K mg base Y "_law_start" 1 2 m__law_start := by
  refine defok (N := ["_law_script"]) (ps := ["_law_script"]) (k := 1) 1 1 Fu hm sc__law_start rfl rfl (fun _ _ _ _ _ _ us hl => match us, hl with | [_], _ => rfl) fun X W cdv A outer s H E hX C po tk => ?_
  subst hX
  exact (ss_one (ss_ret (se_lstM (sa_cons (se_ifExp (sb_cmp (sop_ne C) (se_var 0) (se_lst sa_nil)) (se_listM rfl G.b_list (se_var 0)) (se_lstM (sa_cons se_int sa_nil))) (sa_cons se_int sa_nil)))))
abbrev s__law_draw : Stmt := top 39
theorem sc__law_draw : FnScope ["_law_draws", "_law_limit", "_law_numbers", "_law_at", "_law_cell", "_law_mixed"] ["_law_draws", "_law_limit"] (defScope s__law_draw) := ⟨rfl, rfl, rfl, by decide +kernel, rfl, by decide +kernel, by decide +kernel⟩
theorem ok__law_draw {f : Addr} {fd : FuncData} (G : Gb w K mg Y)  (Fu : FunD K "_law_draw" "_law_draw" (defArgs s__law_draw) (defBody s__law_draw) (defScope s__law_draw) [] [] f fd) (hm : mg "_law_draw" = some (.ref f)) : DefOk P w K mg base Y "_law_draw" 2 2 m__law_draw := by
  refine defok (N := ["_law_draws", "_law_limit", "_law_numbers", "_law_at", "_law_cell", "_law_mixed"]) (ps := ["_law_draws", "_law_limit"]) (k := 1) 6 2 Fu hm sc__law_draw rfl rfl (fun _ _ _ _ _ _ us hl => match us, hl with | [_, _], _ => rfl) fun X W cdv A outer s H E hX C po tk => ?_
  subst hX
  exact (ss_cons (ss_set 2 (se_ix six (se_var 0) se_int) C.nd) (ss_cons (ss_setix sset_list (se_bin sop_add (se_ix six (se_var 0) se_int) se_int) (se_var 0) se_int) (ss_cons (ss_set 3 (se_bin sop_mod (se_ix six (se_var 0) se_int) (se_callB scall_len G.b_len (by decide +kernel) (sa_cons (se_var 2) sa_nil))) C.nd) (ss_cons (ss_set 4 (se_ix six (se_var 2) (se_var 3)) C.nd) (ss_cons (ss_if (sb_cmp sop_ge (se_var 4) se_int) (ss_cons (ss_setix sset_list (se_bin sop_fdiv (se_var 4) (se_var 1)) (se_var 2) (se_var 3)) (ss_one (ss_ret (se_bin sop_mod (se_var 4) (se_var 1))))) ss_nil) (ss_cons (ss_set 5 (se_bin sop_mod (se_bin sop_add (se_var 4) (se_bin sop_mul se_int (se_ix six (se_var 0) se_int))) se_int) C.nd) (ss_cons (ss_set 5 (se_bin sop_mod (se_bin sop_pow (se_var 5) se_int) se_int) C.nd) (ss_one (ss_ret (se_bin sop_mod (se_bin sop_fdiv (se_bin sop_mod (se_bin sop_add (se_bin sop_mul (se_bin sop_fdiv (se_var 5) se_int) se_int) (se_var 5)) se_int) se_int) (se_var 1)))))))))))
abbrev s__law_pick : Stmt := top 40
theorem sc__law_pick : FnScope ["_law_draws", "_law_choices"] ["_law_draws", "_law_choices"] (defScope s__law_pick) := ⟨rfl, rfl, rfl, by decide +kernel, rfl, by decide +kernel, by decide +kernel⟩
theorem ok__law_pick {f : Addr} {fd : FuncData} (G : Gb w K mg Y) (d__law_draw : DefOk P w K mg base Y "_law_draw" 2 2 m__law_draw) (Fu : FunD K "_law_pick" "_law_pick" (defArgs s__law_pick) (defBody s__law_pick) (defScope s__law_pick) [] [] f fd) (hm : mg "_law_pick" = some (.ref f)) : DefOk P w K mg base Y "_law_pick" 2 3 m__law_pick := by
  refine defok (N := ["_law_draws", "_law_choices"]) (ps := ["_law_draws", "_law_choices"]) (k := 2) 2 2 Fu hm sc__law_pick rfl rfl (fun _ _ _ _ _ _ us hl => match us, hl with | [_, _], _ => rfl) fun X W cdv A outer s H E hX C po tk => ?_
  subst hX
  exact (ss_one (ss_ret (se_ix six (se_var 1) (se_def C d__law_draw (by decide) (sa_cons (se_var 0) (sa_cons (se_callB scall_len G.b_len (by decide +kernel) (sa_cons (se_var 1) sa_nil)) sa_nil)) (len_cons (len_cons len_nil))))))
abbrev s__law_text : Stmt := top 41
theorem sc__law_text : FnScope ["_law_draws", "_law_longest", "_law_found", "_law_most"] ["_law_draws", "_law_longest"] (defScope s__law_text) := ⟨rfl, rfl, rfl, by decide +kernel, rfl, by decide +kernel, by decide +kernel⟩
theorem ok__law_text {f : Addr} {fd : FuncData} (G : Gb w K mg Y) (d__law_draw : DefOk P w K mg base Y "_law_draw" 2 2 m__law_draw) (Fu : FunD K "_law_text" "_law_text" (defArgs s__law_text) (defBody s__law_text) (defScope s__law_text) [] [] f fd) (hm : mg "_law_text" = some (.ref f)) : DefOk P w K mg base Y "_law_text" 2 3 m__law_text := by
  refine defok (N := ["_law_draws", "_law_longest", "_law_found", "_law_most"]) (ps := ["_law_draws", "_law_longest"]) (k := 2) 4 2 Fu hm sc__law_text rfl rfl (fun _ _ _ _ _ _ us hl => match us, hl with | [_, _], _ => rfl) fun X W cdv A outer s H E hX C po tk => ?_
  subst hX
  exact (ss_cons (ss_set 2 se_str C.nd) (ss_cons (ss_set 3 (se_def C d__law_draw (by decide) (sa_cons (se_var 0) (sa_cons (se_bin sop_add (se_var 1) se_int) sa_nil)) (len_cons (len_cons len_nil))) C.nd) (ss_cons (ss_while 1000 po (sb_cmp (sop_ltA C) (se_callB scall_len G.b_len (by decide +kernel) (sa_cons (se_var 2) sa_nil)) (se_var 3)) (ss_one (ss_set 2 (se_bin sop_add (se_var 2) (se_ix six se_str (se_def C d__law_draw (by decide) (sa_cons (se_var 0) (sa_cons se_int sa_nil)) (len_cons (len_cons len_nil))))) C.nd))) (ss_one (ss_ret (se_var 2))))))
abbrev s__law_wild : Stmt := top 42
theorem sc__law_wild : FnScope ["_law_draws", "_law_longest", "_law_found", "_law_k"] ["_law_draws", "_law_longest"] (defScope s__law_wild) := ⟨rfl, rfl, rfl, by decide +kernel, rfl, by decide +kernel, by decide +kernel⟩
theorem ok__law_wild {f : Addr} {fd : FuncData} (G : Gb w K mg Y) (d__law_draw : DefOk P w K mg base Y "_law_draw" 2 2 m__law_draw) (d__law_pick : DefOk P w K mg base Y "_law_pick" 2 3 m__law_pick) (Fu : FunD K "_law_wild" "_law_wild" (defArgs s__law_wild) (defBody s__law_wild) (defScope s__law_wild) [] [] f fd) (hm : mg "_law_wild" = some (.ref f)) : DefOk P w K mg base Y "_law_wild" 2 4 m__law_wild := by
  refine defok (N := ["_law_draws", "_law_longest", "_law_found", "_law_k"]) (ps := ["_law_draws", "_law_longest"]) (k := 3) 4 2 Fu hm sc__law_wild rfl rfl (fun _ _ _ _ _ _ us hl => match us, hl with | [_, _], _ => rfl) fun X W cdv A outer s H E hX C po tk => ?_
  subst hX
  exact (ss_cons (ss_set 2 se_str C.nd) (ss_cons (ss_for po C (si_range1 G.b_range (sa_cons (se_def C d__law_draw (by decide) (sa_cons (se_var 0) (sa_cons (se_bin sop_add (se_var 1) se_int) sa_nil)) (len_cons (len_cons len_nil))) sa_nil)) (tg_one 3 C.nd) (ss_one (ss_set 2 (se_bin sop_add (se_var 2) (se_def C d__law_pick (by decide) (sa_cons (se_var 0) (sa_cons (se_callTy (scall_listA C) G.b_list (by decide +kernel) (sa_cons se_str sa_nil)) sa_nil)) (len_cons (len_cons len_nil)))) C.nd))) (ss_one (ss_ret (se_var 2)))))
abbrev s__law_near : Stmt := top 43
theorem sc__law_near : FnScope ["_law_draws", "_law_text_here", "_law_at", "_law_way", "_law_sign"] ["_law_draws", "_law_text_here"] (defScope s__law_near) := ⟨rfl, rfl, rfl, by decide +kernel, rfl, by decide +kernel, by decide +kernel⟩
theorem ok__law_near {f : Addr} {fd : FuncData} (G : Gb w K mg Y) (d__law_draw : DefOk P w K mg base Y "_law_draw" 2 2 m__law_draw) (d__law_text : DefOk P w K mg base Y "_law_text" 2 3 m__law_text) (Fu : FunD K "_law_near" "_law_near" (defArgs s__law_near) (defBody s__law_near) (defScope s__law_near) [] [] f fd) (hm : mg "_law_near" = some (.ref f)) : DefOk P w K mg base Y "_law_near" 2 4 m__law_near := by
  refine defok (N := ["_law_draws", "_law_text_here", "_law_at", "_law_way", "_law_sign"]) (ps := ["_law_draws", "_law_text_here"]) (k := 3) 5 2 Fu hm sc__law_near rfl rfl (fun _ _ _ _ _ _ us hl => match us, hl with | [_, _], _ => rfl) fun X W cdv A outer s H E hX C po tk => ?_
  subst hX
  exact (ss_cons (ss_set 2 (se_def C d__law_draw (by decide) (sa_cons (se_var 0) (sa_cons (se_bin sop_add (se_callB scall_len G.b_len (by decide +kernel) (sa_cons (se_var 1) sa_nil)) se_int) sa_nil)) (len_cons (len_cons len_nil))) C.nd) (ss_cons (ss_set 3 (se_def C d__law_draw (by decide) (sa_cons (se_var 0) (sa_cons se_int sa_nil)) (len_cons (len_cons len_nil))) C.nd) (ss_cons (ss_if (sb_cmp (sop_eq C) (se_var 3) se_int) (ss_one (ss_ret (se_bin sop_add (se_bin sop_add (se_slice ssl (se_var 1) so_none (so_some (se_var 2))) se_str) (se_slice ssl (se_var 1) (so_some (se_var 2)) so_none)))) ss_nil) (ss_cons (ss_if (sb_cmp (sop_eq C) (se_var 3) se_int) (ss_cons (ss_set 4 (se_slice ssl (se_var 1) (so_some (se_var 2)) (so_some (se_bin sop_add (se_var 2) se_int))) C.nd) (ss_one (ss_ret (se_bin sop_add (se_bin sop_add (se_slice ssl (se_var 1) so_none (so_some (se_var 2))) (se_ifExp (sb_val (se_bm0 smt_isupper PySem.F.plainAttrs_str PySem.F.slot_str_isupper PySem.F.type_str_isupper (se_var 4))) (se_bm0 smt_lower PySem.F.plainAttrs_str PySem.F.slot_str_lower PySem.F.type_str_lower (se_var 4)) (se_bm0 smt_upper PySem.F.plainAttrs_str PySem.F.slot_str_upper PySem.F.type_str_upper (se_var 4)))) (se_slice ssl (se_var 1) (so_some (se_bin sop_add (se_var 2) se_int)) so_none))))) ss_nil) (ss_cons (ss_if (sb_cmp (sop_eq C) (se_var 3) se_int) (ss_one (ss_ret (se_bin sop_add (se_slice ssl (se_var 1) so_none (so_some (se_var 2))) (se_slice ssl (se_var 1) (so_some (se_bin sop_add (se_var 2) se_int)) so_none)))) ss_nil) (ss_one (ss_ret (se_ifExp (sb_cmp (sop_eq C) (se_var 3) se_int) (se_bin sop_add (se_bin sop_add (se_slice ssl (se_var 1) so_none (so_some (se_var 2))) (se_def C d__law_text (by decide) (sa_cons (se_var 0) (sa_cons se_int sa_nil)) (len_cons (len_cons len_nil)))) (se_slice ssl (se_var 1) (so_some (se_var 2)) so_none)) (se_var 1)))))))))
abbrev s__law_cut : Stmt := top 44
theorem sc__law_cut : FnScope ["_law_text_here", "_law_whole", "_law_found", "_law_sign"] ["_law_text_here", "_law_whole"] (defScope s__law_cut) := ⟨rfl, rfl, rfl, by decide +kernel, rfl, by decide +kernel, by decide +kernel⟩
theorem ok__law_cut {f : Addr} {fd : FuncData} (G : Gb w K mg Y)  (Fu : FunD K "_law_cut" "_law_cut" (defArgs s__law_cut) (defBody s__law_cut) (defScope s__law_cut) [] [] f fd) (hm : mg "_law_cut" = some (.ref f)) : DefOk P w K mg base Y "_law_cut" 2 2 m__law_cut := by
  refine defok (N := ["_law_text_here", "_law_whole", "_law_found", "_law_sign"]) (ps := ["_law_text_here", "_law_whole"]) (k := 1) 4 2 Fu hm sc__law_cut rfl rfl (fun _ _ _ _ _ _ us hl => match us, hl with | [_, _], _ => rfl) fun X W cdv A outer s H E hX C po tk => ?_
  subst hX
  exact (ss_cons (ss_set 2 (se_lstM sa_nil) C.nd) (ss_cons (ss_for po C (si_any (se_var 0)) (tg_one 3 C.nd) (ss_one (ss_if ((sw_and (sb_val (se_var 1)) (sw_and (sb_val (se_bm0 smt_isdigit PySem.F.plainAttrs_str PySem.F.slot_str_isdigit PySem.F.type_str_isdigit (se_var 3))) (sw_and (sb_cmp (sop_ne C) (se_var 2) (se_lst sa_nil)) (sw_and1 (sb_val (se_bm0 smt_isdigit PySem.F.plainAttrs_str PySem.F.slot_str_isdigit PySem.F.type_str_isdigit (se_ix six (se_var 2) (se_neg se_int))))))))).sb (ss_one (ss_setix sset_list (se_bin sop_add (se_ix six (se_var 2) (se_neg se_int)) (se_var 3)) (se_var 2) (se_neg se_int))) (ss_one (ss_expr (se_bm smt_append PySem.F.plainAttrs_list PySem.F.slot_list_append PySem.F.type_list_append (se_var 2) (sa_cons (se_var 3) sa_nil))))))) (ss_one (ss_ret (se_fz (se_var 2))))))
abbrev s__law_less : Stmt := top 45
theorem sc__law_less : FnScope ["_law_one", "_law_other"] ["_law_one", "_law_other"] (defScope s__law_less) := ⟨rfl, rfl, rfl, by decide +kernel, rfl, by decide +kernel, by decide +kernel⟩
theorem ok__law_less {f : Addr} {fd : FuncData} (G : Gb w K mg Y)  (Fu : FunD K "_law_less" "_law_less" (defArgs s__law_less) (defBody s__law_less) (defScope s__law_less) [] [] f fd) (hm : mg "_law_less" = some (.ref f)) : DefOk P w K mg base Y "_law_less" 2 2 m__law_less := by
  refine defok (N := ["_law_one", "_law_other"]) (ps := ["_law_one", "_law_other"]) (k := 1) 2 2 Fu hm sc__law_less rfl rfl (fun _ _ _ _ _ _ us hl => match us, hl with | [_, _], _ => rfl) fun X W cdv A outer s H E hX C po tk => ?_
  subst hX
  exact (ss_one (ss_ret (se_ifExp (sb_cmp (sop_ltK C) (se_var 0) (se_var 1)) (se_neg se_int) (se_ifExp (sb_cmp (sop_gtK C) (se_var 0) (se_var 1)) se_int se_int))))
abbrev s__law_swap : Stmt := top 46
theorem sc__law_swap : FnScope ["_law_text_here", "_law_mark"] ["_law_text_here", "_law_mark"] (defScope s__law_swap) := ⟨rfl, rfl, rfl, by decide +kernel, rfl, by decide +kernel, by decide +kernel⟩
theorem ok__law_swap {f : Addr} {fd : FuncData} (G : Gb w K mg Y) (Fu : FunD K "_law_swap" "_law_swap" (defArgs s__law_swap) (defBody s__law_swap) (defScope s__law_swap) [] [] f fd) (hm : mg "_law_swap" = some (.ref f)) : SwDef P w K mg base "_law_swap" 2 (tx [95]) := by
  have h := swdef (P := P) (w := w) (base := base) (k := 1) Fu hm sc__law_swap (fun _ _ _ _ _ _ us hl => match us, hl with | [_, _], _ => rfl)
  rw [tx_of (show ("_" : Str).cps.toList = [95] by decide +kernel)] at h
  exact h
abbrev s__law_number_key : Stmt := top 47
theorem sc__law_number_key : FnScope ["_law_text_here", "_law_found", "_law_piece"] ["_law_text_here"] (defScope s__law_number_key) := ⟨rfl, rfl, rfl, by decide +kernel, rfl, by decide +kernel, by decide +kernel⟩
theorem ok__law_number_key {f : Addr} {fd : FuncData} (G : Gb w K mg Y) (d__law_cut : DefOk P w K mg base Y "_law_cut" 2 2 m__law_cut) (Fu : FunD K "_law_number_key" "_law_number_key" (defArgs s__law_number_key) (defBody s__law_number_key) (defScope s__law_number_key) [] [] f fd) (hm : mg "_law_number_key" = some (.ref f)) : DefOk P w K mg base Y "_law_number_key" 1 3 m__law_number_key := by
  refine defok (N := ["_law_text_here", "_law_found", "_law_piece"]) (ps := ["_law_text_here"]) (k := 2) 3 1 Fu hm sc__law_number_key rfl rfl (fun _ _ _ _ _ _ us hl => match us, hl with | [_], _ => rfl) fun X W cdv A outer s H E hX C po tk => ?_
  subst hX
  exact (ss_cons (ss_set 1 (se_lstM sa_nil) C.nd) (ss_cons (ss_for po C (si_any (se_def C d__law_cut (by decide) (sa_cons (se_bm0 smt_lower PySem.F.plainAttrs_str PySem.F.slot_str_lower PySem.F.type_str_lower (se_var 0)) (sa_cons se_bl sa_nil)) (len_cons (len_cons len_nil)))) (tg_one 2 C.nd) (ss_one (ss_expr (se_bm smt_append PySem.F.plainAttrs_list PySem.F.slot_list_append PySem.F.type_list_append (se_var 1) (sa_cons (se_ifExp (sb_cmp (sop_eq C) (se_var 2) se_str) (se_lst (sa_cons se_int (sa_cons se_int sa_nil))) (se_ifExp (sb_val (se_bm0 smt_isdigit PySem.F.plainAttrs_str PySem.F.slot_str_isdigit PySem.F.type_str_isdigit (se_var 2))) (se_lst (sa_cons se_int (sa_cons (se_callTy scall_int G.b_int (by decide +kernel) (sa_cons (se_var 2) sa_nil)) sa_nil))) (se_lst (sa_cons se_int (sa_cons (se_callB scall_ord G.b_ord (by decide +kernel) (sa_cons (se_var 2) sa_nil)) sa_nil))))) sa_nil))))) (ss_one (ss_ret (se_fz (se_var 1))))))
abbrev s_law : Stmt := top 48
theorem sc_law : FnScope ["_law_script", "_law_draws", "_law_one", "_law_other", "_law_bars_here", "_law_mark", "_law_plain", "_law_due", "_law_low", "_law_ends", "_law_far", "_law_text_here", "_law_whole", "_law_cased", "_law_letters", "_law_sign", "_law_told", "_law_texts", "_law_k", "_law_key", "_law_place", "_law_line"] ["_law_script"] (defScope s_law) := ⟨rfl, rfl, rfl, by decide +kernel, rfl, by decide +kernel, by decide +kernel⟩
theorem ok_law {f : Addr} {fd : FuncData} (G : Gb w K mg Y) (d__law_start : DefOk P w K mg base Y "_law_start" 1 2 m__law_start) (d__law_wild : DefOk P w K mg base Y "_law_wild" 2 4 m__law_wild) (d_compare : DefOk P w K mg base Y "compare" 3 8 m_compare) (d__law_near : DefOk P w K mg base Y "_law_near" 2 4 m__law_near) (d__law_less : DefOk P w K mg base Y "_law_less" 2 2 m__law_less) (d_sorted_by : DefOk P w K mg base Y "sorted_by" 2 10 m_sorted_by) (d__law_swap : SwDef P w K mg base "_law_swap" 2 (tx [95])) (d__law_number_key : DefOk P w K mg base Y "_law_number_key" 1 3 m__law_number_key) (Fu : FunD K "law" "law" (defArgs s_law) (defBody s_law) (defScope s_law) [] [] f fd) : GnOk P w K mg base (L2.CX P w) 11 f fd ["_law_script"] (spOf K Y m_law 1) := by
  refine fnokD (N := ["_law_script", "_law_draws", "_law_one", "_law_other", "_law_bars_here", "_law_mark", "_law_plain", "_law_due", "_law_low", "_law_ends", "_law_far", "_law_text_here", "_law_whole", "_law_cased", "_law_letters", "_law_sign", "_law_told", "_law_texts", "_law_k", "_law_key", "_law_place", "_law_line"]) (ps := ["_law_script"]) (k := 10) 22 1 Fu sc_law rfl rfl fun X W cdv A outer s H E hX C po tk => ?_
  subst hX
  exact (ss_cons (ss_set 1 (se_def C d__law_start (by decide) (sa_cons (se_var 0) sa_nil) (len_cons len_nil)) C.nd) (ss_cons (ss_set 2 (se_def C d__law_wild (by decide) (sa_cons (se_var 1) (sa_cons se_int sa_nil)) (len_cons (len_cons len_nil))) C.nd) (ss_cons (ss_set 3 (se_slice ssl (se_def C d__law_near (by decide) (sa_cons (se_var 1) (sa_cons (se_var 2) sa_nil)) (len_cons (len_cons len_nil))) so_none (so_some se_int)) C.nd) (ss_cons (ss_marks 4 5 po C rfl (smss_cons (sms_set 6 C (sme_tup (sma_cons sme_str (sma_cons sme_str (sma_cons (sme_var 4) (sma_cons sme_str (sma_cons sme_int sma_nil))))))) (smss_cons (sms_set 7 C (sme_def C d__law_less (by decide) (sma_cons (sme_sw C d__law_swap (by decide) (sme_var 2) (by decide +kernel) (by decide +kernel)) (sma_cons (sme_sw C d__law_swap (by decide) (sme_var 3) (by decide +kernel) (by decide +kernel)) sma_nil)) (len_cons (len_cons len_nil)))) (smss_cons (sms_ifRet (smw_b (smw_or (smb_ne (sme_def C d_compare (by decide) (sma_cons (sme_var 6) (sma_cons (sme_var 2) (sma_cons (sme_var 3) sma_nil))) (len_cons (len_cons (len_cons len_nil)))) (sme_var 7)) (smw_or1 (smb_ne (sme_def C d_compare (by decide) (sma_cons (sme_cat (sme_sl (sme_var 6)) (sme_tup (sma_cons sme_int sma_nil))) (sma_cons (sme_var 2) (sma_cons (sme_var 3) sma_nil))) (len_cons (len_cons (len_cons len_nil)))) (sme_neg (sme_var 7)))))) se_bl) (smss_cons (sms_set 8 C (sme_tup (sma_cons sme_str (sma_cons sme_str (sma_cons (sme_var 4) (sma_cons sme_str (sma_cons sme_int sma_nil))))))) (smss_cons (sms_ifRet (smb_ne (sme_def C d_compare (by decide) (sma_cons (sme_var 8) (sma_cons (sme_var 2) (sma_cons (sme_var 3) sma_nil))) (len_cons (len_cons (len_cons len_nil)))) (sme_def C d__law_less (by decide) (sma_cons (sme_lower (sme_sw C d__law_swap (by decide) (sme_var 2) (by decide +kernel) (by decide +kernel))) (sma_cons (sme_lower (sme_sw C d__law_swap (by decide) (sme_var 3) (by decide +kernel) (by decide +kernel))) sma_nil)) (len_cons (len_cons len_nil)))) se_bl) (smss_cons (sms_set 9 C (sme_tup (sma_cons sme_str (sma_cons sme_str (sma_cons (sme_var 4) (sma_cons sme_str (sma_cons sme_int sma_nil))))))) (smss_far 10 [("_law_text_here", 11)] C (sme_tup (sma_cons (sme_var 2) (sma_cons (sme_var 3) sma_nil))) (by kernel_rfl) (fun _ _ _ _ _ => (tg_one 11 C.nd)) (fun pins σ z H fp I mz fz => pn_far (own := [("_law_text_here", 11)]) C d__law_swap (by decide) (by decide +kernel) (by decide +kernel) (by kernel_rfl) rfl rfl (fun _ _ _ _ _ => Or.inl rfl) (fun _ _ _ _ _ => by rfl) (fun _ _ _ _ _ => by first | exact Or.inl rfl | exact Or.inr rfl) (fun _ _ _ _ _ => rfl) (fun _ _ _ _ _ => rfl) (pins := pins) (σ := σ) (z := z) (H := H) (fp := fp) (I := I) (mz := mz) (fz := fz)) (ss_one (ss_if ((sw_and (sb_cmp (sop_eq C) (se_var 4) se_str) (sw_and1 (sb_cmp (sop_ne C) (se_def C d_compare (by decide) (sa_cons (se_var 9) (sa_cons (se_var 2) (sa_cons (se_var 3) sa_nil))) (len_cons (len_cons (len_cons len_nil)))) (se_def C d__law_less (by decide) (sa_cons (se_ix six (se_var 10) se_int) (sa_cons (se_ix six (se_var 10) se_int) sa_nil)) (len_cons (len_cons len_nil))))))).sb (ss_one (ss_ret se_bl)) ss_nil))))))))) (smss_cons (sms_set 6 C (sme_tup (sma_cons sme_str (sma_cons sme_str (sma_cons (sme_var 4) (sma_cons sme_str (sma_cons sme_int sma_nil))))))) (smss_cons (sms_set 7 C (sme_def C d__law_less (by decide) (sma_cons (sme_sw C d__law_swap (by decide) (sme_var 2) (by decide +kernel) (by decide +kernel)) (sma_cons (sme_sw C d__law_swap (by decide) (sme_var 3) (by decide +kernel) (by decide +kernel)) sma_nil)) (len_cons (len_cons len_nil)))) (smss_cons (sms_ifRet (smw_b (smw_or (smb_ne (sme_def C d_compare (by decide) (sma_cons (sme_var 6) (sma_cons (sme_var 2) (sma_cons (sme_var 3) sma_nil))) (len_cons (len_cons (len_cons len_nil)))) (sme_var 7)) (smw_or1 (smb_ne (sme_def C d_compare (by decide) (sma_cons (sme_cat (sme_sl (sme_var 6)) (sme_tup (sma_cons sme_int sma_nil))) (sma_cons (sme_var 2) (sma_cons (sme_var 3) sma_nil))) (len_cons (len_cons (len_cons len_nil)))) (sme_neg (sme_var 7)))))) se_bl) (smss_cons (sms_set 8 C (sme_tup (sma_cons sme_str (sma_cons sme_str (sma_cons (sme_var 4) (sma_cons sme_str (sma_cons sme_int sma_nil))))))) (smss_cons (sms_ifRet (smb_ne (sme_def C d_compare (by decide) (sma_cons (sme_var 8) (sma_cons (sme_var 2) (sma_cons (sme_var 3) sma_nil))) (len_cons (len_cons (len_cons len_nil)))) (sme_def C d__law_less (by decide) (sma_cons (sme_lower (sme_sw C d__law_swap (by decide) (sme_var 2) (by decide +kernel) (by decide +kernel))) (sma_cons (sme_lower (sme_sw C d__law_swap (by decide) (sme_var 3) (by decide +kernel) (by decide +kernel))) sma_nil)) (len_cons (len_cons len_nil)))) se_bl) (smss_cons (sms_set 9 C (sme_tup (sma_cons sme_str (sma_cons sme_str (sma_cons (sme_var 4) (sma_cons sme_str (sma_cons sme_int sma_nil))))))) (smss_far 10 [("_law_text_here", 11)] C (sme_tup (sma_cons (sme_var 2) (sma_cons (sme_var 3) sma_nil))) (by kernel_rfl) (fun _ _ _ _ _ => (tg_one 11 C.nd)) (fun pins σ z H fp I mz fz => pn_far (own := [("_law_text_here", 11)]) C d__law_swap (by decide) (by decide +kernel) (by decide +kernel) (by kernel_rfl) rfl rfl (fun _ _ _ _ _ => Or.inl rfl) (fun _ _ _ _ _ => by rfl) (fun _ _ _ _ _ => by first | exact Or.inl rfl | exact Or.inr rfl) (fun _ _ _ _ _ => rfl) (fun _ _ _ _ _ => rfl) (pins := pins) (σ := σ) (z := z) (H := H) (fp := fp) (I := I) (mz := mz) (fz := fz)) (ss_one (ss_if ((sw_and (sb_cmp (sop_eq C) (se_var 4) se_str) (sw_and1 (sb_cmp (sop_ne C) (se_def C d_compare (by decide) (sa_cons (se_var 9) (sa_cons (se_var 2) (sa_cons (se_var 3) sa_nil))) (len_cons (len_cons (len_cons len_nil)))) (se_def C d__law_less (by decide) (sa_cons (se_ix six (se_var 10) se_int) (sa_cons (se_ix six (se_var 10) se_int) sa_nil)) (len_cons (len_cons len_nil))))))).sb (ss_one (ss_ret se_bl)) ss_nil)))))))))) (sss_tupT 12 C (sa_cons se_str (sa_cons se_str (sa_cons se_str (sa_cons se_int sa_nil)))) (ssst_cons (sst_of (ss_if (sb_cmp (sop_ne C) (se_def C d_compare (by decide) (sa_cons (se_var 12) (sa_cons (se_var 2) (sa_cons (se_var 3) sa_nil))) (len_cons (len_cons (len_cons len_nil)))) (se_def C d__law_less (by decide) (sa_cons (se_def C d__law_number_key (by decide) (sa_cons (se_var 2) sa_nil) (len_cons len_nil)) (sa_cons (se_def C d__law_number_key (by decide) (sa_cons (se_var 3) sa_nil) (len_cons len_nil)) sa_nil)) (len_cons (len_cons len_nil)))) (ss_one (ss_ret se_bl)) ss_nil)) (ssst_cons (sst_of (ss_set 13 (se_tup (sa_cons se_str (sa_cons se_str (sa_cons se_str (sa_cons se_str (sa_cons se_int sa_nil)))))) C.nd)) (ssst_cons (sst_of (ss_setLc 14 [("_law_text_here", 11)] C (si_any (se_tup (sa_cons (se_var 2) (sa_cons (se_var 3) sa_nil)))) (by kernel_rfl) (fun _ _ _ _ _ => (tg_one 11 C.nd)) (fun _ _ _ _ _ C => pts_yes) (fun _ _ _ _ _ C => (se_bm smt_join PySem.F.plainAttrs_str PySem.F.slot_str_join PySem.F.type_str_join se_str (sa_cons (se_lc [("_law_sign", 15)] C (si_any (se_var 11)) (by kernel_rfl) (fun _ _ _ _ _ => (tg_one 15 C.nd)) (fun _ _ _ _ _ C => (pts_test (sb_val (se_bm0 smt_isalpha PySem.F.plainAttrs_str PySem.F.slot_str_isalpha PySem.F.type_str_isalpha (se_var 15))))) (fun _ _ _ _ _ C => (se_var 15))) sa_nil))))) (ssst_cons (sst_of (ss_set 16 (se_def C d_compare (by decide) (sa_cons (se_var 12) (sa_cons (se_var 2) (sa_cons (se_var 3) sa_nil))) (len_cons (len_cons (len_cons len_nil)))) C.nd)) (ssst_cons (sst_of (ss_if (sb_cmp (sop_ne C) (se_def C d_compare (by decide) (sa_cons (se_var 13) (sa_cons (se_var 2) (sa_cons (se_var 3) sa_nil))) (len_cons (len_cons (len_cons len_nil)))) (se_ifExp (sb_cmp (sop_ne C) (se_var 16) se_int) (se_var 16) (se_def C d__law_less (by decide) (sa_cons (se_ix six (se_var 14) se_int) (sa_cons (se_ix six (se_var 14) se_int) sa_nil)) (len_cons (len_cons len_nil))))) (ss_one (ss_ret se_bl)) ss_nil)) (ssst_cons (sst_of (ss_set 17 (se_lc [("_law_k", 18)] C (si_range1 G.b_range (sa_cons se_int sa_nil)) (by kernel_rfl) (fun _ _ _ _ _ => (tg_one 18 C.nd)) (fun _ _ _ _ _ C => pts_yes) (fun _ _ _ _ _ C => (se_slice ssl (se_def C d__law_near (by decide) (sa_cons (se_var 1) (sa_cons (se_var 2) sa_nil)) (len_cons (len_cons len_nil))) so_none (so_some se_int)))) C.nd)) (ssst_cons (sst_of (ss_setLc 7 [("_law_key", 19), ("_law_place", 20), ("_law_text_here", 11)] C (si_any (se_callB (scall_sortP C) G.b_sorted (by decide +kernel) (sa_cons (se_lc [("_law_k", 18)] C (si_range1 G.b_range (sa_cons se_int sa_nil)) (by kernel_rfl) (fun _ _ _ _ _ => (tg_one 18 C.nd)) (fun _ _ _ _ _ C => pts_yes) (fun _ _ _ _ _ C => (se_tup (sa_cons (se_def C d__law_number_key (by decide) (sa_cons (se_ix six (se_var 17) (se_var 18)) sa_nil) (len_cons len_nil)) (sa_cons (se_var 18) (sa_cons (se_ix six (se_var 17) (se_var 18)) sa_nil)))))) sa_nil))) (by kernel_rfl) (fun _ _ _ _ _ => (tg_tup C.calm (tgs_cons 19 (tgs_cons 20 (tgs_cons 11 tgs_nil C.nd) C.nd) C.nd))) (fun _ _ _ _ _ C => pts_yes) (fun _ _ _ _ _ C => (se_var 11)))) (ssst_cons (sst_of (ss_if (sb_cmp (sop_ne C) (se_def C d_sorted_by (by decide) (sa_cons (se_var 12) (sa_cons (se_var 17) sa_nil)) (len_cons (len_cons len_nil))) (se_var 7)) (ss_one (ss_ret se_bl)) ss_nil)) (ssst_cons (sst_line 21 [("_law_key", 19), ("_law_text_here", 11)] [("_law_text_here", 11)] (tx_of (by decide +kernel)) C d__law_swap (by decide) (by decide +kernel) (by decide +kernel) (by kernel_rfl) (by kernel_rfl) (fun _ _ _ _ _ => (tg_tup C.calm (tgs_cons 19 (tgs_cons 11 tgs_nil C.nd) C.nd))) (fun _ _ _ _ _ C => (se_var 11)) (fun _ _ _ _ _ => (tg_one 11 C.nd)) (se_var 17) G.b_sorted (by rfl) rfl (fun _ _ _ _ _ => Or.inl rfl) (fun _ _ _ _ _ => by rfl) (fun _ _ _ _ _ => rfl) (fun _ _ _ _ _ => rfl) (fun _ _ _ _ _ => rfl) (fun _ _ _ _ _ => rfl) rfl rfl rfl (by exact sw_true rfl rfl rfl (by decide +kernel)) (by decide) (by decide) (fun _ => rfl) (fun _ => rfl)) (ssst_of (ss_one (ss_ret (se_cmp (sop_eq C) (se_def C d_sorted_by (by decide) (sa_cons (se_tup (sa_cons se_str (sa_cons se_str (sa_cons se_str (sa_cons se_str (sa_cons se_int sa_nil)))))) (sa_cons (se_var 17) sa_nil)) (len_cons (len_cons len_nil))) (se_var 21)))))))))))))))))))
end
end G
set_option maxRecDepth 100000
set_option maxHeartbeats 0
namespace G
open PySem PySem.Spec L2 L3
def Yc (w : World) (K : PySem.W.Frag) : Pc := ⟨fun _ => 0, fun i => He.ga K (["OrderError", "BadRule", "BadText"].getD i ""), NestedKey.hash w⟩
theorem facts {P : Program} {w : World} {K : PySem.W.Frag} {h : Heap} {mg : Str → Option Value} {f : Addr} (X : K.In h) (G : h.Ns mainGlobals mg) (hfa : mg ("law" : Str) = some (.ref f)) (c : He.SaysD fa fn K) (hx : ex K = true) :
    ∃ fd : FuncData, (∀ (s : Shared) (v : Value), BindsTo s fd ⟨[v], []⟩ [("_law_script", v)]) ∧ ∀ base : Heap, K.In base → base.Ns mainGlobals mg → GnOk P w K mg base (L2.CX P w) 11 f fd ["_law_script"] (spOf K (Yc w K) m_law 1) := by
  unfold ex at hx
  simp only [Bool.and_eq_true] at hx
  have Gb1 : Gb w K mg (Yc w K) := ⟨He.free_ok X G (c.fact 31 (f := .free "all") rfl),
    He.free_ok X G (c.fact 32 (f := .free "bool") rfl),
    He.free_ok X G (c.fact 33 (f := .free "enumerate") rfl),
    He.free_ok X G (c.fact 34 (f := .free "int") rfl),
    He.free_ok X G (c.fact 35 (f := .free "isinstance") rfl),
    He.free_ok X G (c.fact 36 (f := .free "len") rfl),
    He.free_ok X G (c.fact 37 (f := .free "list") rfl),
    He.free_ok X G (c.fact 38 (f := .free "ord") rfl),
    He.free_ok X G (c.fact 39 (f := .free "range") rfl),
    He.free_ok X G (c.fact 40 (f := .free "sorted") rfl),
    He.free_ok X G (c.fact 41 (f := .free "str") rfl),
    He.free_ok X G (c.fact 42 (f := .free "tuple") rfl),
    He.free_ok X G (c.fact 43 (f := .free "zip") rfl),
    ⟨_, He.glo_ok X G (c.fact 44 (f := .glo "BARS") rfl), fun H => He.tupB_ok hx.1.1.1 H⟩,
    He.str_ok X G (c.fact 45 (f := .str "CAPITALS" "ABCDEFGHIJKLMNOPQRSTUVWXYZ") rfl),
    ⟨_, He.glo_ok X G (c.fact 46 (f := .glo "CASES") rfl), fun H => He.tupB_ok hx.1.1.2 H⟩,
    ⟨_, He.glo_ok X G (c.fact 47 (f := .glo "ENDS") rfl), fun H => He.tupB_ok hx.1.2 H⟩,
    He.str_ok X G (c.fact 48 (f := .str "FIGURES" "0123456789") rfl),
    He.int_ok X G (c.fact 49 (f := .int "MOST_LIST" 12) rfl),
    He.int_ok X G (c.fact 50 (f := .int "MOST_TEXT" 40) rfl),
    ⟨_, He.glo_ok X G (c.fact 51 (f := .glo "NUMBERS") rfl), fun H => He.tupB_ok hx.2 H⟩,
    He.str_ok X G (c.fact 52 (f := .str "SMALL" "abcdefghijklmnopqrstuvwxyz") rfl),
    (let z := He.exc_ok (c.fact 53 (f := .exc "BadRule") rfl); ⟨z.1, He.glo_ok X G (c.fact 54 (f := .glo "BadRule") rfl), z.2.1, z.2.2.1, z.2.2.2⟩),
    (let z := He.exc_ok (c.fact 55 (f := .exc "BadText") rfl); ⟨z.1, He.glo_ok X G (c.fact 56 (f := .glo "BadText") rfl), z.2.1, z.2.2.1, z.2.2.2⟩),
    rfl⟩
  obtain ⟨fd_is_int, F_is_int⟩ := c.def_ 0 (d := dd "is_int" 4) rfl
  obtain ⟨fd_is_text, F_is_text⟩ := c.def_ 1 (d := dd "is_text" 11) rfl
  obtain ⟨fd_check_text, F_check_text⟩ := c.def_ 2 (d := dd "check_text" 12) rfl
  obtain ⟨fd_check_list, F_check_list⟩ := c.def_ 3 (d := dd "check_list" 13) rfl
  obtain ⟨fd_looks_of, F_looks_of⟩ := c.def_ 4 (d := dd "looks_of" 15) rfl
  obtain ⟨fd_sign_of, F_sign_of⟩ := c.def_ 5 (d := dd "sign_of" 16) rfl
  obtain ⟨fd_rank_of, F_rank_of⟩ := c.def_ 6 (d := dd "rank_of" 17) rfl
  obtain ⟨fd_by_rank, F_by_rank⟩ := c.def_ 7 (d := dd "by_rank" 18) rfl
  obtain ⟨fd_is_word, F_is_word⟩ := c.def_ 8 (d := dd "is_word" 24) rfl
  obtain ⟨fd_is_rule, F_is_rule⟩ := c.def_ 9 (d := dd "is_rule" 25) rfl
  obtain ⟨fd_check_rule, F_check_rule⟩ := c.def_ 10 (d := dd "check_rule" 26) rfl
  obtain ⟨fd_cut, F_cut⟩ := c.def_ 11 (d := dd "cut" 28) rfl
  obtain ⟨fd_by_piece, F_by_piece⟩ := c.def_ 12 (d := dd "by_piece" 29) rfl
  obtain ⟨fd_by_look, F_by_look⟩ := c.def_ 13 (d := dd "by_look" 30) rfl
  obtain ⟨fd_by_looks, F_by_looks⟩ := c.def_ 14 (d := dd "by_looks" 31) rfl
  obtain ⟨fd_told_by, F_told_by⟩ := c.def_ 15 (d := dd "told_by" 32) rfl
  obtain ⟨fd_compare, F_compare⟩ := c.def_ 16 (d := dd "compare" 33) rfl
  obtain ⟨fd_place_for, F_place_for⟩ := c.def_ 17 (d := dd "place_for" 34) rfl
  obtain ⟨fd_in_order, F_in_order⟩ := c.def_ 18 (d := dd "in_order" 35) rfl
  obtain ⟨fd_sorted_by, F_sorted_by⟩ := c.def_ 19 (d := dd "sorted_by" 36) rfl
  obtain ⟨fd__law_start, F__law_start⟩ := c.def_ 20 (d := dd "_law_start" 38) rfl
  obtain ⟨fd__law_draw, F__law_draw⟩ := c.def_ 21 (d := dd "_law_draw" 39) rfl
  obtain ⟨fd__law_pick, F__law_pick⟩ := c.def_ 22 (d := dd "_law_pick" 40) rfl
  obtain ⟨fd__law_text, F__law_text⟩ := c.def_ 23 (d := dd "_law_text" 41) rfl
  obtain ⟨fd__law_wild, F__law_wild⟩ := c.def_ 24 (d := dd "_law_wild" 42) rfl
  obtain ⟨fd__law_near, F__law_near⟩ := c.def_ 25 (d := dd "_law_near" 43) rfl
  obtain ⟨fd__law_cut, F__law_cut⟩ := c.def_ 26 (d := dd "_law_cut" 44) rfl
  obtain ⟨fd__law_less, F__law_less⟩ := c.def_ 27 (d := dd "_law_less" 45) rfl
  obtain ⟨fd__law_swap, F__law_swap⟩ := c.def_ 28 (d := dd "_law_swap" 46) rfl
  obtain ⟨fd__law_number_key, F__law_number_key⟩ := c.def_ 29 (d := dd "_law_number_key" 47) rfl
  obtain ⟨fd_law, F_law⟩ := c.def_ 30 (d := dd "law" 48) rfl
  have e := hfa.symm.trans (He.glo_ok X G (c.fact 30 (f := .glo "law") rfl))
  cases e
  have b := FunD.bindsA (ps := ["_law_script"]) F_law fun _ _ _ _ _ _ us hl => match us, hl with | [_], _ => rfl
  refine ⟨fd_law, fun s v => b s [v] rfl, fun base _ _ => ?_⟩
  have d_is_int := ok_is_int (P := P) (w := w) (base := base) Gb1  F_is_int (He.glo_ok X G (c.fact 0 (f := .glo "is_int") rfl))
  have d_is_text := ok_is_text (P := P) (w := w) (base := base) Gb1  F_is_text (He.glo_ok X G (c.fact 1 (f := .glo "is_text") rfl))
  have d_check_text := ok_check_text (P := P) (w := w) (base := base) Gb1 d_is_text F_check_text (He.glo_ok X G (c.fact 2 (f := .glo "check_text") rfl))
  have d_check_list := ok_check_list (P := P) (w := w) (base := base) Gb1 d_is_text F_check_list (He.glo_ok X G (c.fact 3 (f := .glo "check_list") rfl))
  have d_looks_of := ok_looks_of (P := P) (w := w) (base := base) Gb1  F_looks_of (He.glo_ok X G (c.fact 4 (f := .glo "looks_of") rfl))
  have d_sign_of := ok_sign_of (P := P) (w := w) (base := base) Gb1  F_sign_of (He.glo_ok X G (c.fact 5 (f := .glo "sign_of") rfl))
  have d_rank_of := ok_rank_of (P := P) (w := w) (base := base) Gb1  F_rank_of (He.glo_ok X G (c.fact 6 (f := .glo "rank_of") rfl))
  have d_by_rank := ok_by_rank (P := P) (w := w) (base := base) Gb1 d_rank_of F_by_rank (He.glo_ok X G (c.fact 7 (f := .glo "by_rank") rfl))
  have d_is_word := ok_is_word (P := P) (w := w) (base := base) Gb1  F_is_word (He.glo_ok X G (c.fact 8 (f := .glo "is_word") rfl))
  have d_is_rule := ok_is_rule (P := P) (w := w) (base := base) Gb1 d_is_word d_is_int F_is_rule (He.glo_ok X G (c.fact 9 (f := .glo "is_rule") rfl))
  have d_check_rule := ok_check_rule (P := P) (w := w) (base := base) Gb1 d_is_rule F_check_rule (He.glo_ok X G (c.fact 10 (f := .glo "check_rule") rfl))
  have d_cut := ok_cut (P := P) (w := w) (base := base) Gb1  F_cut (He.glo_ok X G (c.fact 11 (f := .glo "cut") rfl))
  have d_by_piece := ok_by_piece (P := P) (w := w) (base := base) Gb1 d_by_rank F_by_piece (He.glo_ok X G (c.fact 12 (f := .glo "by_piece") rfl))
  have d_by_look := ok_by_look (P := P) (w := w) (base := base) Gb1 d_cut d_by_piece d_by_rank F_by_look (He.glo_ok X G (c.fact 13 (f := .glo "by_look") rfl))
  have d_by_looks := ok_by_looks (P := P) (w := w) (base := base) Gb1 d_by_look F_by_looks (He.glo_ok X G (c.fact 14 (f := .glo "by_looks") rfl))
  have d_told_by := ok_told_by (P := P) (w := w) (base := base) Gb1 d_sign_of d_by_looks d_looks_of F_told_by (He.glo_ok X G (c.fact 15 (f := .glo "told_by") rfl))
  have d_compare := ok_compare (P := P) (w := w) (base := base) Gb1 d_check_rule d_check_text d_told_by F_compare (He.glo_ok X G (c.fact 16 (f := .glo "compare") rfl))
  have d_place_for := ok_place_for (P := P) (w := w) (base := base) Gb1 d_told_by F_place_for (He.glo_ok X G (c.fact 17 (f := .glo "place_for") rfl))
  have d_in_order := ok_in_order (P := P) (w := w) (base := base) Gb1 d_place_for F_in_order (He.glo_ok X G (c.fact 18 (f := .glo "in_order") rfl))
  have d_sorted_by := ok_sorted_by (P := P) (w := w) (base := base) Gb1 d_check_rule d_check_list d_in_order F_sorted_by (He.glo_ok X G (c.fact 19 (f := .glo "sorted_by") rfl))
  have d__law_start := ok__law_start (P := P) (w := w) (base := base) Gb1  F__law_start (He.glo_ok X G (c.fact 20 (f := .glo "_law_start") rfl))
  have d__law_draw := ok__law_draw (P := P) (w := w) (base := base) Gb1  F__law_draw (He.glo_ok X G (c.fact 21 (f := .glo "_law_draw") rfl))
  have d__law_pick := ok__law_pick (P := P) (w := w) (base := base) Gb1 d__law_draw F__law_pick (He.glo_ok X G (c.fact 22 (f := .glo "_law_pick") rfl))
  have d__law_text := ok__law_text (P := P) (w := w) (base := base) Gb1 d__law_draw F__law_text (He.glo_ok X G (c.fact 23 (f := .glo "_law_text") rfl))
  have d__law_wild := ok__law_wild (P := P) (w := w) (base := base) Gb1 d__law_draw d__law_pick F__law_wild (He.glo_ok X G (c.fact 24 (f := .glo "_law_wild") rfl))
  have d__law_near := ok__law_near (P := P) (w := w) (base := base) Gb1 d__law_draw d__law_text F__law_near (He.glo_ok X G (c.fact 25 (f := .glo "_law_near") rfl))
  have d__law_cut := ok__law_cut (P := P) (w := w) (base := base) Gb1  F__law_cut (He.glo_ok X G (c.fact 26 (f := .glo "_law_cut") rfl))
  have d__law_less := ok__law_less (P := P) (w := w) (base := base) Gb1  F__law_less (He.glo_ok X G (c.fact 27 (f := .glo "_law_less") rfl))
  have d__law_swap := ok__law_swap (P := P) (w := w) (base := base) Gb1  F__law_swap (He.glo_ok X G (c.fact 28 (f := .glo "_law_swap") rfl))
  have d__law_number_key := ok__law_number_key (P := P) (w := w) (base := base) Gb1 d__law_cut F__law_number_key (He.glo_ok X G (c.fact 29 (f := .glo "_law_number_key") rfl))
  exact ok_law Gb1 d__law_start d__law_wild d_compare d__law_near d__law_less d_sorted_by d__law_swap d__law_number_key F_law
/-- what is left to the plain law -/
abbrev LawTrue : Prop := ∀ ns : List Int, ns.length ≤ 63 → ∃ S, m_law [] [.scr ns] = .ok (.bl true) S
end G
section
open PySem PySem.W PySem.Calls PyProof.Rows
theorem G.fin (HL : G.LawTrue) : PySem.Challenge.rw_orderrules_k18_whole_known.Holds := by
  w_on; o_law
  refine HandSHeadRun.head_any (r := OpenLaw.row PySem.Challenge.rw_orderrules_k18_whole_known) (q := view (OpenLaw.row PySem.Challenge.rw_orderrules_k18_whole_known).prog [48]) (H := G.hk) (ob := G.ob) (M := 20000) (loose := G.loose) (d := HandSHeadRun.topDef (OpenLaw.row PySem.Challenge.rw_orderrules_k18_whole_known).prog 48) (kwd := []) G.ob_eq
    (by kernel_rfl) (fun s => by kernel_rfl) G.run (by kernel_rfl) (by kernel_rfl) (by kernel_rfl) (by rfl) (by first | assumption | decide +kernel) (by decide +kernel) ⟨rfl, rfl, rfl, rfl, rfl, by decide +kernel⟩ ?hw ?hc
  case hw => w_witness2
  case hc =>
    refine L2.walk_gn (l := PySem.Challenge.rw_orderrules_k18_whole_known) (n := 63) (k := 11) (x := "_law_script") (cx := L2.CX0) rfl (by decide) (by kernel_rfl) ⟨rfl, by decide, by decide⟩ ?F (fun _ _ _ _ z => z)
    intro w mg fa h Yh Gn hmg0
    obtain ⟨K, KX, c, hx⟩ := Yh
    have hmg : mg ("law" : PySem.Str) = some (.ref fa) := by
      have e : (HandSHeadRun.topDef (OpenLaw.row PySem.Challenge.rw_orderrules_k18_whole_known).prog 48).name = ("law" : PySem.Str) := by kernel_rfl
      rw [← e]
      exact hmg0
    obtain ⟨fd, hb, hF⟩ := G.facts (P := (PySem.Challenge.rw_orderrules_k18_whole_known).prog) (w := w) KX Gn hmg c hx
    exact ⟨K, fd, fun vs H Q _ => L3.spOf K (G.Yc w K) G.m_law 1 vs H Q L2.E0, KX, hb, fun H a ns hl _ hS => L3.law_sp hS (HL ns hl), fun base h1 h2 => L3.fn0 (hF base h1 h2)⟩
end
set_option Elab.async false
set_option linter.all false
set_option maxRecDepth 100000
set_option maxHeartbeats 2000000
/-! what a meaning comes to: wp for expressions, ws for statements -/
namespace L3
section
variable {α β : Type} {Q : α → Store → Prop} {R : D → Store → Prop} {B : Bool → Store → Prop} {A : List D → Store → Prop} {X : Nat → Store → Prop} {Z : Flow → Store → Prop} {env : Ev} {S : Store} {ra rb rc : Ev → Store → Res D} {rt ru : Ev → Store → Res Bool} {rs : Ev → Store → Res (List D)}
def seqZ (Z : Flow → Store → Prop) (k : Ev → Store → Prop) : Flow → Store → Prop := fun fl S => match fl with
  | .nx e => k e S
  | fl => Z fl S
def stepZ (Z : Flow → Store → Prop) (k : Ev → Store → Prop) : Flow → Store → Prop := fun fl S => match fl with
  | .nx e => k e S
  | .ct e => k e S
  | .bk e => Z (.nx e) S
  | .rt d => Z (.rt d) S
  | .ex c e => Z (.ex c e) S
def fnZ (R : D → Store → Prop) (X : Nat → Store → Prop) : Flow → Store → Prop := fun fl S1 => match fl with
  | .nx _ => R .non S1
  | .rt d => R d S1
  | .ex c _ => X c S1
  | _ => False
end
namespace W0
def wp0 {α : Type} (r : Res α) (Q : α → Store → Prop) (X : Nat → Store → Prop) : Prop := match r with
  | .ok a S => Q a S
  | .exc c S => X c S
  | .stuck => False
def ws0 (r : Option (Flow × Store)) (Q : Flow → Store → Prop) : Prop := match r with
  | some (fl, S) => Q fl S
  | none => False
section
variable {α β : Type} {Q : α → Store → Prop} {R : D → Store → Prop} {B : Bool → Store → Prop} {A : List D → Store → Prop} {X : Nat → Store → Prop} {Z : Flow → Store → Prop} {env : Ev} {S : Store} {ra rb rc : Ev → Store → Res D} {rt ru : Ev → Store → Res Bool} {rs : Ev → Store → Res (List D)}
theorem wp_ok {a : α} (h : Q a S) : wp0 (.ok a S) Q X := h
theorem wp_mono {r : Res α} {Q' : α → Store → Prop} {X' : Nat → Store → Prop} (h : wp0 r Q X) (k : ∀ a S, Q a S → Q' a S) (kx : ∀ c S, X c S → X' c S) : wp0 r Q' X' := by
  cases r with
  | ok a S => exact k _ _ h
  | exc c S => exact kx _ _ h
  | stuck => exact h
theorem ws_mono {r : Option (Flow × Store)} {Z' : Flow → Store → Prop} (h : ws0 r Z) (k : ∀ a S, Z a S → Z' a S) : ws0 r Z' := by
  cases r with
  | none => exact h
  | some p => exact k _ _ h
theorem wp_bind {r : Res α} {f : α → Store → Res β} {Q : β → Store → Prop} (h : wp0 r (fun a S => wp0 (f a S) Q X) X) : wp0 (r.bind f) Q X := by
  cases r with
  | ok a S => exact h
  | exc c S => exact h
  | stuck => exact h
theorem ws_st {r : Res α} {f : α → Store → Option (Flow × Store)} (h : wp0 r (fun a S => ws0 (f a S) Z) (fun c S => Z (.ex c env) S)) : ws0 (r.st env f) Z := by
  cases r with
  | ok a S => exact h
  | exc c S => exact h
  | stuck => exact h
theorem wp_lift {o : Option α} (h : ∃ a, o = some a ∧ Q a S) : wp0 (lift o S) Q X := by
  obtain ⟨a, rfl, q⟩ := h
  exact q
theorem w_var {i : Nat} (d : D) (h : env[i]? = some (some d)) (q : R d S) : wp0 (rVar i env S) R X := by
  unfold rVar
  rw [h]
  exact q
theorem w_C {d : D} (q : R d S) : wp0 (rC d env S) R X := q
theorem w_r2 {g : Op2} (h : wp0 (ra env S) (fun x S1 => wp0 (rb env S1) (fun y S2 => ∃ d, g S2 x y = some d ∧ R d S2) X) X) : wp0 (r2 g ra rb env S) R X :=
  wp_bind (wp_mono h (fun _ _ k => wp_bind (wp_mono k (fun _ _ z => wp_lift z) fun _ _ z => z)) fun _ _ z => z)
theorem w_r1 {g : Op1} (h : wp0 (ra env S) (fun x S1 => ∃ d, g S1 x = some d ∧ R d S1) X) : wp0 (r1 g ra env S) R X :=
  wp_bind (wp_mono h (fun _ _ z => wp_lift z) fun _ _ z => z)
theorem w_nil (q : A [] S) : wp0 (rNil env S) A X := q
theorem w_cons (h : wp0 (ra env S) (fun x S1 => wp0 (rs env S1) (fun xs S2 => A (x :: xs) S2) X) X) : wp0 (rCons ra rs env S) A X :=
  wp_bind (wp_mono h (fun _ _ k => wp_bind k) fun _ _ z => z)
theorem w_tup (h : wp0 (rs env S) (fun xs S1 => xs.length ≤ 100000 ∧ R (.tup xs) S1) X) : wp0 (rTup rs env S) R X :=
  wp_bind (wp_mono h (fun _ _ k => by rw [if_pos k.1]; exact k.2) fun _ _ z => z)
theorem w_lst (h : wp0 (rs env S) (fun xs S1 => xs.length ≤ 100000 ∧ R (.lst xs) S1) X) : wp0 (rLst rs env S) R X :=
  wp_bind (wp_mono h (fun _ _ k => by rw [if_pos k.1]; exact k.2) fun _ _ z => z)
theorem w_lstM (h : wp0 (rs env S) (fun xs S1 => xs.length ≤ 100000 ∧ R (.loc S1.length) (S1 ++ [.lst xs])) X) : wp0 (rLstM rs env S) R X :=
  wp_bind (wp_mono h (fun _ _ k => by rw [if_pos k.1]; exact k.2) fun _ _ z => z)
theorem w_listM (h : wp0 (ra env S) (fun d S1 => ∃ xs, listD S1 [d] = some (.lst xs) ∧ R (.loc S1.length) (S1 ++ [.lst xs])) X) : wp0 (rListM ra env S) R X :=
  wp_bind (wp_mono h (fun _ _ ⟨xs, e, k⟩ => by rw [e]; exact k) fun _ _ z => z)
theorem w_if (h : wp0 (rt env S) (fun b S1 => (b = true → wp0 (ra env S1) R X) ∧ (b = false → wp0 (rb env S1) R X)) X) : wp0 (rIf rt ra rb env S) R X :=
  wp_bind (wp_mono h (fun b _ k => by cases b; exact k.2 rfl; exact k.1 rfl) fun _ _ z => z)
theorem w_tOf (h : wp0 (ra env S) (fun x S1 => ∃ b, x = .bl b ∧ B b S1) X) : wp0 (tOf ra env S) B X :=
  wp_bind (wp_mono h (fun _ _ ⟨b, e, q⟩ => by subst e; exact q) fun _ _ z => z)
theorem w_tAnd (h : wp0 (rt env S) (fun b S1 => (b = true → wp0 (ru env S1) B X) ∧ (b = false → B false S1)) X) : wp0 (tAndR rt ru env S) B X :=
  wp_bind (wp_mono h (fun b _ k => by cases b; exact k.2 rfl; exact k.1 rfl) fun _ _ z => z)
theorem w_tOr (h : wp0 (rt env S) (fun b S1 => (b = true → B true S1) ∧ (b = false → wp0 (ru env S1) B X)) X) : wp0 (tOrR rt ru env S) B X :=
  wp_bind (wp_mono h (fun b _ k => by cases b; exact k.2 rfl; exact k.1 rfl) fun _ _ z => z)
theorem w_tNot (h : wp0 (rt env S) (fun b S1 => B (!b) S1) X) : wp0 (tNotR rt env S) B X := wp_bind h
theorem w_tYes (h : B true S) : wp0 (tYesR env S) B X := h
theorem w_vAnd (h : wp0 (ra env S) (fun x S1 => ∃ b, x = .bl b ∧ (b = true → wp0 (rb env S1) R X) ∧ (b = false → R (.bl false) S1)) X) : wp0 (vAnd ra rb env S) R X :=
  wp_bind (wp_mono h (fun _ _ ⟨b, e, k⟩ => by subst e; cases b; exact k.2 rfl; exact k.1 rfl) fun _ _ z => z)
theorem w_vOr (h : wp0 (ra env S) (fun x S1 => ∃ b, x = .bl b ∧ (b = true → R (.bl true) S1) ∧ (b = false → wp0 (rb env S1) R X)) X) : wp0 (vOr ra rb env S) R X :=
  wp_bind (wp_mono h (fun _ _ ⟨b, e, k⟩ => by subst e; cases b; exact k.2 rfl; exact k.1 rfl) fun _ _ z => z)
theorem w_vNot (h : wp0 (ra env S) (fun x S1 => ∃ b, x = .bl b ∧ R (.bl (!b)) S1) X) : wp0 (vNot ra env S) R X :=
  wp_bind (wp_mono h (fun _ _ ⟨b, e, q⟩ => by subst e; exact q) fun _ _ z => z)
theorem w_chain {g g' : Op2} (h : wp0 (ra env S) (fun x S1 => wp0 (rb env S1) (fun y S2 => ∃ b, g S2 x y = some (.bl b) ∧ (b = true → wp0 (rc env S2) (fun z S3 => ∃ d, g' S3 y z = some d ∧ R d S3) X) ∧ (b = false → R (.bl false) S2)) X) X) : wp0 (rChain g g' ra rb rc env S) R X :=
  wp_bind (wp_mono h (fun _ _ k => wp_bind (wp_mono k (fun _ _ ⟨b, e, k1, k2⟩ => by
    rw [e]
    cases b with
    | false => exact k2 rfl
    | true => exact wp_bind (r := lift (some (D.bl true)) _) (wp_bind (r := rc env _) (wp_mono (k1 rfl) (fun _ _ z => wp_lift z) fun _ _ z => z))) fun _ _ z => z)) fun _ _ z => z)
theorem w_call {m : FSem} (h : wp0 (rs env S) (fun ds S1 => wp0 (m S1 ds) R X) X) : wp0 (rCall m rs env S) R X := wp_bind h
theorem w_cb {g : OpN} (h : wp0 (rs env S) (fun ds S1 => ∃ d, g S1 ds = some d ∧ R d S1) X) : wp0 (rCB g rs env S) R X :=
  wp_bind (wp_mono h (fun _ _ z => wp_lift z) fun _ _ z => z)
theorem w_oNone {O : Option Int → Store → Prop} (h : O none S) : wp0 (oNone env S) O X := h
theorem w_oSome {O : Option Int → Store → Prop} (h : wp0 (ra env S) (fun d S1 => ∃ i, d = .int i ∧ O (some i) S1) X) : wp0 (oSome ra env S) O X :=
  wp_bind (wp_mono h (fun _ _ ⟨i, e, q⟩ => by subst e; exact q) fun _ _ z => z)
theorem w_sl {g : OpSl} {rl rh : Ev → Store → Res (Option Int)} (h : wp0 (ra env S) (fun x S1 => wp0 (rl env S1) (fun l S2 => wp0 (rh env S2) (fun hh S3 => ∃ d, g S3 x l hh = some d ∧ R d S3) X) X) X) : wp0 (rSl g ra rl rh env S) R X :=
  wp_bind (wp_mono h (fun _ _ k => wp_bind (wp_mono k (fun _ _ k => wp_bind (wp_mono k (fun _ _ z => wp_lift z) fun _ _ z => z)) fun _ _ z => z)) fun _ _ z => z)
theorem w_mt {tb : Store → D → Bool} {g : OpM} (h : wp0 (ra env S) (fun x S1 => tb S1 x = true ∧ wp0 (rs env S1) (fun xs S2 => ∃ d S3, g S2 x xs = some (d, S3) ∧ R d S3) X) X) : wp0 (rMt tb g ra rs env S) R X :=
  wp_bind (wp_mono h (fun _ _ ⟨e, k⟩ => by
    rw [if_pos e]
    exact wp_bind (wp_mono k (fun _ _ ⟨d, S3, e2, q⟩ => by rw [e2]; exact q) fun _ _ z => z)) fun _ _ z => z)
theorem w_fz (h : wp0 (ra env S) (fun d S1 => ∃ d' S2, fzD d S1 = some (d', S2) ∧ R d' S2) X) : wp0 (rFz ra env S) R X :=
  wp_bind (wp_mono h (fun _ _ ⟨d, S3, e2, q⟩ => by rw [e2]; exact q) fun _ _ z => z)
theorem w_any (h : wp0 (ra env S) (fun d S1 => (∃ ds, d = .lst ds ∧ A ds S1) ∨ (∃ ds, d = .tup ds ∧ A ds S1) ∨ (∃ s, d = .str s ∧ A (s.map fun c => .str [c]) S1)) X) : wp0 (iAny ra env S) A X :=
  wp_bind (wp_mono h (fun _ _ k => by rcases k with ⟨ds, e, q⟩ | ⟨ds, e, q⟩ | ⟨s, e, q⟩ <;> subst e <;> exact q) fun _ _ z => z)
theorem w_rng1 (h : wp0 (rs env S) (fun ds S1 => ∃ n : Int, ds = [.int n] ∧ (n < 100000 ∧ -100000 < n) ∧ A (intsFrom 0 n.toNat) S1) X) : wp0 (iRng1S rs env S) A X :=
  wp_bind (wp_mono h (fun _ _ ⟨n, e, b, q⟩ => by subst e; dsimp only; rw [if_pos b]; exact q) fun _ _ z => z)
theorem w_rng2 (h : wp0 (rs env S) (fun ds S1 => ∃ i n : Int, ds = [.int i, .int n] ∧ ((n < 100000 ∧ -100000 < n) ∧ (i < 100000 ∧ -100000 < i)) ∧ A (intsFrom i (n - i).toNat) S1) X) : wp0 (iRng2S rs env S) A X :=
  wp_bind (wp_mono h (fun _ _ ⟨i, n, e, b, q⟩ => by subst e; dsimp only; rw [if_pos b]; exact q) fun _ _ z => z)
theorem w_zip (h : wp0 (rs env S) (fun ds S1 => ∃ xs ys, ds = [.lst xs, .lst ys] ∧ A (zipD xs ys) S1) X) : wp0 (iZipR rs env S) A X :=
  wp_bind (wp_mono h (fun _ _ ⟨xs, ys, e, q⟩ => by subst e; exact q) fun _ _ z => z)
theorem w_enum (h : wp0 (rs env S) (fun ds S1 => ∃ x xs, ds = [x] ∧ itemsOf x = some xs ∧ A (enumFrom 0 xs) S1) X) : wp0 (iEnumR rs env S) A X :=
  wp_bind (wp_mono h (fun _ _ ⟨x, xs, e, e2, q⟩ => by
    subst e
    cases x <;> first | (cases e2; done) | (cases e2; exact q)) fun _ _ z => z)
/-! statements -/
theorem ws_some {fl : Flow} (h : Z fl S) : ws0 (some (fl, S)) Z := h
theorem s_next (h : Z (.nx env) S) : ws0 (sNext env S) Z := h
theorem seqZ_nx {k : Ev → Store → Prop} {e : Ev} (h : k e S) : seqZ Z k (.nx e) S := h
theorem seqZ_ct {k : Ev → Store → Prop} {e : Ev} (h : Z (.ct e) S) : seqZ Z k (.ct e) S := h
theorem seqZ_bk {k : Ev → Store → Prop} {e : Ev} (h : Z (.bk e) S) : seqZ Z k (.bk e) S := h
theorem seqZ_rt {k : Ev → Store → Prop} {d : D} (h : Z (.rt d) S) : seqZ Z k (.rt d) S := h
theorem seqZ_ex {k : Ev → Store → Prop} {c : Nat} {e : Ev} (h : Z (.ex c e) S) : seqZ Z k (.ex c e) S := h
theorem s_seq {s t : SM} (h : ws0 (s env S) (seqZ Z fun e S1 => ws0 (t e S1) Z)) : ws0 (sSeq s t env S) Z := by
  unfold sSeq
  cases e : s env S with
  | none => rw [e] at h; exact h
  | some p =>
    rw [e] at h
    obtain ⟨fl, S1⟩ := p
    cases fl <;> exact h
theorem s_expr (h : wp0 (ra env S) (fun _ S1 => Z (.nx env) S1) (fun c S => Z (.ex c env) S)) : ws0 (sExpr ra env S) Z := ws_st h
theorem s_ret (h : wp0 (ra env S) (fun d S1 => Z (.rt d) S1) (fun c S => Z (.ex c env) S)) : ws0 (sRet ra env S) Z := ws_st h
theorem s_set {i : Nat} (h : wp0 (ra env S) (fun d S1 => Z (.nx (env.set i (some d))) S1) (fun c S => Z (.ex c env) S)) : ws0 (sSet i ra env S) Z := ws_st h
theorem s_if {s t : SM} (h : wp0 (rt env S) (fun b S1 => (b = true → ws0 (s env S1) Z) ∧ (b = false → ws0 (t env S1) Z)) (fun c S => Z (.ex c env) S)) : ws0 (sIf rt s t env S) Z :=
  ws_st (wp_mono h (fun b _ k => by cases b; exact k.2 rfl; exact k.1 rfl) fun _ _ z => z)
theorem s_break (h : Z (.bk env) S) : ws0 (sBreak env S) Z := h
theorem s_cont (h : Z (.ct env) S) : ws0 (sCont env S) Z := h
theorem s_raise {c : Nat} (h : Z (.ex c env) S) : ws0 (sRaise c env S) Z := h
theorem s_par {i j : Nat} (h : wp0 (rs env S) (fun ds S1 => ∃ x y, ds = [x, y] ∧ Z (.nx ((env.set i (some x)).set j (some y))) S1) (fun c S => Z (.ex c env) S)) : ws0 (sPar i j rs env S) Z :=
  ws_st (wp_mono h (fun _ _ ⟨x, y, e, q⟩ => by subst e; exact q) fun _ _ z => z)
theorem s_asg {t : Tg} (h : wp0 (ra env S) (fun d S1 => ∃ e1, t.set env d = some e1 ∧ Z (.nx e1) S1) (fun c S => Z (.ex c env) S)) : ws0 (sAsg t ra env S) Z :=
  ws_st (wp_mono h (fun _ _ ⟨e1, e, q⟩ => by rw [e]; exact q) fun _ _ z => z)
theorem s_setIx {g : OpSet} (h : wp0 (ra env S) (fun v S1 => wp0 (rb env S1) (fun o S2 => wp0 (rc env S2) (fun i S3 => ∃ S4, g S3 o i v = some S4 ∧ Z (.nx env) S4) (fun c S => Z (.ex c env) S)) (fun c S => Z (.ex c env) S)) (fun c S => Z (.ex c env) S)) : ws0 (sSetIx g ra rb rc env S) Z :=
  ws_st (wp_mono h (fun _ _ k => ws_st (wp_mono k (fun _ _ k => ws_st (wp_mono k (fun _ _ ⟨S4, e, q⟩ => by rw [e]; exact q) fun _ _ z => z)) fun _ _ z => z)) fun _ _ z => z)
theorem s_augIx {gg gp : Op2} {g : OpSet} (h : wp0 (ra env S) (fun o S1 => wp0 (rb env S1) (fun i S2 => ∃ x, gg S2 o i = some x ∧ wp0 (rc env S2) (fun y S3 => ∃ z, gp S3 x y = some z ∧ ∃ S4, g S3 o i z = some S4 ∧ Z (.nx env) S4) (fun c S => Z (.ex c env) S)) (fun c S => Z (.ex c env) S)) (fun c S => Z (.ex c env) S)) : ws0 (sAugIx gg gp g ra rb rc env S) Z :=
  ws_st (wp_mono h (fun _ _ k => ws_st (wp_mono k (fun _ _ ⟨x, e, k⟩ => ws_st (by
    rw [e]
    exact ws_st (wp_mono k (fun _ _ ⟨z, e2, S4, e3, q⟩ => ws_st (by
      rw [e2]
      show ws0 (match g _ _ _ _ with | some S6 => some (Flow.nx env, S6) | none => none) Z
      rw [e3]
      exact q)) fun _ _ z => z))) fun _ _ z => z)) fun _ _ z => z)
theorem s_aug {i : Nat} {gp : Op2} (h : wp0 (rVar i env S) (fun x S0 => wp0 (ra env S0) (fun y S1 => ∃ z, gp S1 x y = some z ∧ Z (.nx (env.set i (some z))) S1) (fun c S => Z (.ex c env) S)) (fun c S => Z (.ex c env) S)) : ws0 (sAug i gp ra env S) Z :=
  ws_st (wp_mono h (fun _ _ k => ws_st (wp_mono k (fun _ _ ⟨z, e, q⟩ => by rw [e]; exact q) fun _ _ z => z)) fun _ _ z => z)
theorem s_for {t : Tg} {body : SM} (h : wp0 (rs env S) (fun items S1 => ws0 (forGo t body items env S1) Z) (fun c S => Z (.ex c env) S)) : ws0 (sFor t rs body env S) Z := ws_st h
theorem stepZ_nx {k : Ev → Store → Prop} {e : Ev} (h : k e S) : stepZ Z k (.nx e) S := h
theorem stepZ_ct {k : Ev → Store → Prop} {e : Ev} (h : k e S) : stepZ Z k (.ct e) S := h
theorem stepZ_bk {k : Ev → Store → Prop} {e : Ev} (h : Z (.nx e) S) : stepZ Z k (.bk e) S := h
theorem stepZ_rt {k : Ev → Store → Prop} {d : D} (h : Z (.rt d) S) : stepZ Z k (.rt d) S := h
theorem stepZ_ex {k : Ev → Store → Prop} {c : Nat} {e : Ev} (h : Z (.ex c e) S) : stepZ Z k (.ex c e) S := h
theorem go_nil {t : Tg} {body : SM} (h : Z (.nx env) S) : ws0 (forGo t body [] env S) Z := h
theorem go_cons {t : Tg} {body : SM} {d : D} {ds : List D} (h : ∃ e1, t.set env d = some e1 ∧ ws0 (body e1 S) (stepZ Z fun e S1 => ws0 (forGo t body ds e S1) Z)) : ws0 (forGo t body (d :: ds) env S) Z := by
  obtain ⟨e1, e, k⟩ := h
  unfold forGo
  rw [e]
  dsimp only
  cases e2 : body e1 S with
  | none => rw [e2] at k; exact k
  | some p =>
    rw [e2] at k
    obtain ⟨fl, S1⟩ := p
    cases fl <;> exact k
/-- a walk with an invariant -/
theorem go_inv {t : Tg} {body : SM} (I : List D → Ev → Store → Prop) (h0 : ∀ e S, I [] e S → Z (.nx e) S)
    (hs : ∀ d ds e S, I (d :: ds) e S → ∃ e1, t.set e d = some e1 ∧ ws0 (body e1 S) (stepZ Z fun e' S1 => I ds e' S1)) : ∀ (items : List D) (e : Ev) (S : Store), I items e S → ws0 (forGo t body items e S) Z
  | [], e, S, h => go_nil (h0 e S h)
  | d :: ds, e, S, h => by
    obtain ⟨e1, q1, q2⟩ := hs d ds e S h
    refine go_cons ⟨e1, q1, ws_mono q2 fun fl S1 k => ?_⟩
    cases fl with
    | nx e' => exact go_inv I h0 hs ds e' S1 k
    | ct e' => exact go_inv I h0 hs ds e' S1 k
    | bk e' => exact k
    | rt d => exact k
    | ex c e' => exact k
theorem whl_inv {body : SM} (I : Nat → Ev → Store → Prop)
    (hs : ∀ n e S, I (n + 1) e S → wp0 (rt e S) (fun b S1 => (b = true → ws0 (body e S1) (stepZ Z fun e' S2 => I n e' S2)) ∧ (b = false → Z (.nx e) S1)) (fun c S => Z (.ex c e) S)) (h0 : ∀ e S, ¬ I 0 e S) : ∀ (n : Nat) (e : Ev) (S : Store), I n e S → ws0 (sWhile n rt body e S) Z
  | 0, e, S, h => absurd h (h0 e S)
  | n + 1, e, S, h => by
    refine ws_st (wp_mono (hs n e S h) (fun b S1 k => ?_) fun _ _ z => z)
    cases b with
    | false => exact k.2 rfl
    | true =>
      have k := k.1 rfl
      show ws0 (match body e S1 with
        | some (.nx e, S') => whileGo rt body n e S'
        | some (.ct e, S') => whileGo rt body n e S'
        | some (.bk e, S') => some (.nx e, S')
        | r => r) Z
      cases e2 : body e S1 with
      | none => rw [e2] at k; exact k
      | some p =>
        rw [e2] at k
        obtain ⟨fl, S2⟩ := p
        cases fl with
        | nx e' => exact whl_inv I hs h0 n e' S2 k
        | ct e' => exact whl_inv I hs h0 n e' S2 k
        | bk e' => exact k
        | rt d => exact k
        | ex c e' => exact k
theorem whl_fuel {body : SM} {n : Nat} : ∀ (m : Nat), n ≤ m → ws0 (sWhile n rt body env S) Z → ws0 (sWhile m rt body env S) Z := by
  induction n generalizing env S with
  | zero => intro m _ h; exact False.elim h
  | succ n ih =>
    intro m hm h
    obtain ⟨m, rfl⟩ : ∃ k, m = k + 1 := ⟨m - 1, by omega⟩
    revert h
    show ws0 ((rt env S).st env fun b S1 => if b = true then (match body env S1 with
      | some (.nx e, S') => whileGo rt body n e S'
      | some (.ct e, S') => whileGo rt body n e S'
      | some (.bk e, S') => some (.nx e, S')
      | r => r) else some (.nx env, S1)) Z → ws0 ((rt env S).st env fun b S1 => if b = true then (match body env S1 with
      | some (.nx e, S') => whileGo rt body m e S'
      | some (.ct e, S') => whileGo rt body m e S'
      | some (.bk e, S') => some (.nx e, S')
      | r => r) else some (.nx env, S1)) Z
    cases rt env S with
    | stuck => exact id
    | exc c S1 => exact id
    | ok b S1 =>
      cases b with
      | false => exact id
      | true =>
        show ws0 (match body env S1 with
          | some (.nx e, S') => whileGo rt body n e S'
          | some (.ct e, S') => whileGo rt body n e S'
          | some (.bk e, S') => some (.nx e, S')
          | r => r) Z → ws0 (match body env S1 with
          | some (.nx e, S') => whileGo rt body m e S'
          | some (.ct e, S') => whileGo rt body m e S'
          | some (.bk e, S') => some (.nx e, S')
          | r => r) Z
        cases body env S1 with
        | none => exact id
        | some p =>
          obtain ⟨fl, S2⟩ := p
          cases fl with
          | nx e' => exact ih m (by omega)
          | ct e' => exact ih m (by omega)
          | _ => exact id
/-! list comprehensions -/
theorem w_lc {t : Tg} {ri : Ev → Store → Res (List D)} {re : Ev → Store → Res D} {vs : List Nat} (h : wp0 (ri env S) (fun items S1 => items.length ≤ 100000 ∧ wp0 (lcGo t rt re (wipeE env vs) items S1) (fun l S2 => R (.lst l) S2) X) X) : wp0 (rLc t ri rt re vs env S) R X :=
  wp_bind (wp_mono h (fun _ _ k => by rw [if_pos k.1]; exact wp_bind k.2) fun _ _ z => z)
theorem w_lcM {t : Tg} {ri : Ev → Store → Res (List D)} {re : Ev → Store → Res D} {vs : List Nat} (h : wp0 (ri env S) (fun items S1 => items.length ≤ 100000 ∧ wp0 (lcGo t rt re (wipeE env vs) items S1) (fun l S2 => R (.loc S2.length) (S2 ++ [.lst l])) X) X) : wp0 (rLcM t ri rt re vs env S) R X :=
  wp_bind (wp_mono h (fun _ _ k => by rw [if_pos k.1]; exact wp_bind k.2) fun _ _ z => z)
theorem lc_nil {t : Tg} {re : Ev → Store → Res D} (h : A [] S) : wp0 (lcGo t rt re env [] S) A X := h
theorem wp_noex {r : Res α} (h : wp0 r Q (fun _ _ => False)) : wp0 r.noex Q X := by
  cases r with
  | ok a S => exact h
  | exc c S => exact h
  | stuck => exact h
theorem lc_cons {t : Tg} {re : Ev → Store → Res D} {d : D} {ds : List D} (h : ∃ e1, t.set env d = some e1 ∧ wp0 (rt e1 S) (fun b S1 => (b = true → wp0 (re e1 S1) (fun v S2 => wp0 (lcGo t rt re env ds S2) (fun l S3 => A (v :: l) S3) X) (fun _ _ => False)) ∧ (b = false → wp0 (lcGo t rt re env ds S1) A X)) (fun _ _ => False)) : wp0 (lcGo t rt re env (d :: ds) S) A X := by
  obtain ⟨e1, e, k⟩ := h
  unfold lcGo
  rw [e]
  refine wp_bind (wp_noex (wp_mono k (fun b S1 k => ?_) fun _ _ z => z))
  cases b with
  | false => exact k.2 rfl
  | true => exact wp_bind (wp_noex (wp_mono (k.1 rfl) (fun v S2 k => wp_bind k) fun _ _ z => z))
/-- a comprehension that leaves the store alone -/
theorem lc_pure {t : Tg} {re : Ev → Store → Res D} (f : D → D) (items : List D) (hs : ∀ d ∈ items, ∃ e1, t.set env d = some e1 ∧ rt e1 S = .ok true S ∧ re e1 S = .ok (f d) S) (h : A (items.map f) S) : wp0 (lcGo t rt re env items S) A X := by
  induction items generalizing A with
  | nil => exact h
  | cons d ds ih =>
    obtain ⟨e1, q1, q2, q3⟩ := hs d List.mem_cons_self
    refine lc_cons ⟨e1, q1, ?_⟩
    rw [q2]
    refine ⟨fun _ => ?_, fun h => nomatch h⟩
    rw [q3]
    exact ih (A := fun l S3 => A (f d :: l) S3) (fun d' hd => hs d' (List.mem_cons_of_mem _ hd)) h
/-! a function -/
theorem fnZ_nx {e : Ev} (h : R .non S) : fnZ R X (.nx e) S := h
theorem fnZ_rt {d : D} (h : R d S) : fnZ R X (.rt d) S := h
theorem fnZ_ex {c : Nat} {e : Ev} (h : X c S) : fnZ R X (.ex c e) S := h
theorem w_fn {n p : Nat} {body : SM} {ds : List D} (h : ws0 (body (ds.map some ++ List.replicate (n - p) none) S) (fnZ R X)) : wp0 (fnSem n p body S ds) R X := by
  unfold fnSem
  revert h
  cases body (ds.map some ++ List.replicate (n - p) none) S with
  | none => exact id
  | some q =>
    obtain ⟨fl, S1⟩ := q
    cases fl <;> exact id
/-- what holds of every end is told as an equation -/
theorem wp_eq {α : Type} {r : Res α} {a : α} {S' : Store} (h : wp0 r (fun d S1 => d = a ∧ S1 = S') (fun _ _ => False)) : r = .ok a S' := by
  cases r with
  | ok d S1 => obtain ⟨e1, e2⟩ := h; rw [e1, e2]
  | exc => exact h.elim
  | stuck => exact h.elim
theorem wp_of {α : Type} {r : Res α} {a : α} {S' : Store} {Q : α → Store → Prop} {X : Nat → Store → Prop} (e : r = .ok a S') (h : Q a S') : wp0 r Q X := by
  rw [e]; exact h
end
end W0
@[irreducible] def wp {α : Type} (r : Res α) (Q : α → Store → Prop) (X : Nat → Store → Prop) : Prop := W0.wp0 r Q X
@[irreducible] def ws (r : Option (Flow × Store)) (Q : Flow → Store → Prop) : Prop := W0.ws0 r Q
theorem wp_e {α : Type} (r : Res α) (Q : α → Store → Prop) (X : Nat → Store → Prop) : wp r Q X = W0.wp0 r Q X := by unfold wp; rfl
theorem ws_e (r : Option (Flow × Store)) (Q : Flow → Store → Prop) : ws r Q = W0.ws0 r Q := by unfold ws; rfl
section
variable {α β : Type} {Q : α → Store → Prop} {R : D → Store → Prop} {B : Bool → Store → Prop} {A : List D → Store → Prop} {X : Nat → Store → Prop} {Z : Flow → Store → Prop} {env : Ev} {S : Store} {ra rb rc : Ev → Store → Res D} {rt ru : Ev → Store → Res Bool} {rs : Ev → Store → Res (List D)}
theorem wp_ok {a : α} (h : Q a S) : wp (.ok a S) Q X := by
  simp only [wp_e, ws_e] at *
  exact W0.wp_ok h
theorem wp_mono {r : Res α} {Q' : α → Store → Prop} {X' : Nat → Store → Prop} (h : wp r Q X) (k : ∀ a S, Q a S → Q' a S) (kx : ∀ c S, X c S → X' c S) : wp r Q' X' := by
  simp only [wp_e, ws_e] at *
  exact W0.wp_mono h k kx
theorem ws_mono {r : Option (Flow × Store)} {Z' : Flow → Store → Prop} (h : ws r Z) (k : ∀ a S, Z a S → Z' a S) : ws r Z' := by
  simp only [wp_e, ws_e] at *
  exact W0.ws_mono h k
theorem wp_bind {r : Res α} {f : α → Store → Res β} {Q : β → Store → Prop} (h : wp r (fun a S => wp (f a S) Q X) X) : wp (r.bind f) Q X := by
  simp only [wp_e, ws_e] at *
  exact W0.wp_bind h
theorem ws_st {r : Res α} {f : α → Store → Option (Flow × Store)} (h : wp r (fun a S => ws (f a S) Z) (fun c S => Z (.ex c env) S)) : ws (r.st env f) Z := by
  simp only [wp_e, ws_e] at *
  exact W0.ws_st h
theorem wp_lift {o : Option α} (h : ∃ a, o = some a ∧ Q a S) : wp (lift o S) Q X := by
  simp only [wp_e, ws_e] at *
  exact W0.wp_lift h
theorem w_var {i : Nat} (d : D) (h : env[i]? = some (some d)) (q : R d S) : wp (rVar i env S) R X := by
  simp only [wp_e, ws_e] at *
  exact W0.w_var d h q
theorem w_C {d : D} (q : R d S) : wp (rC d env S) R X := by
  simp only [wp_e, ws_e] at *
  exact W0.w_C q
theorem w_r2 {g : Op2} (h : wp (ra env S) (fun x S1 => wp (rb env S1) (fun y S2 => ∃ d, g S2 x y = some d ∧ R d S2) X) X) : wp (r2 g ra rb env S) R X := by
  simp only [wp_e, ws_e] at *
  exact W0.w_r2 h
theorem w_r1 {g : Op1} (h : wp (ra env S) (fun x S1 => ∃ d, g S1 x = some d ∧ R d S1) X) : wp (r1 g ra env S) R X := by
  simp only [wp_e, ws_e] at *
  exact W0.w_r1 h
theorem w_nil (q : A [] S) : wp (rNil env S) A X := by
  simp only [wp_e, ws_e] at *
  exact W0.w_nil q
theorem w_cons (h : wp (ra env S) (fun x S1 => wp (rs env S1) (fun xs S2 => A (x :: xs) S2) X) X) : wp (rCons ra rs env S) A X := by
  simp only [wp_e, ws_e] at *
  exact W0.w_cons h
theorem w_tup (h : wp (rs env S) (fun xs S1 => xs.length ≤ 100000 ∧ R (.tup xs) S1) X) : wp (rTup rs env S) R X := by
  simp only [wp_e, ws_e] at *
  exact W0.w_tup h
theorem w_lst (h : wp (rs env S) (fun xs S1 => xs.length ≤ 100000 ∧ R (.lst xs) S1) X) : wp (rLst rs env S) R X := by
  simp only [wp_e, ws_e] at *
  exact W0.w_lst h
theorem w_lstM (h : wp (rs env S) (fun xs S1 => xs.length ≤ 100000 ∧ R (.loc S1.length) (S1 ++ [.lst xs])) X) : wp (rLstM rs env S) R X := by
  simp only [wp_e, ws_e] at *
  exact W0.w_lstM h
theorem w_listM (h : wp (ra env S) (fun d S1 => ∃ xs, listD S1 [d] = some (.lst xs) ∧ R (.loc S1.length) (S1 ++ [.lst xs])) X) : wp (rListM ra env S) R X := by
  simp only [wp_e, ws_e] at *
  exact W0.w_listM h
theorem w_if (h : wp (rt env S) (fun b S1 => (b = true → wp (ra env S1) R X) ∧ (b = false → wp (rb env S1) R X)) X) : wp (rIf rt ra rb env S) R X := by
  simp only [wp_e, ws_e] at *
  exact W0.w_if h
theorem w_tOf (h : wp (ra env S) (fun x S1 => ∃ b, x = .bl b ∧ B b S1) X) : wp (tOf ra env S) B X := by
  simp only [wp_e, ws_e] at *
  exact W0.w_tOf h
theorem w_tAnd (h : wp (rt env S) (fun b S1 => (b = true → wp (ru env S1) B X) ∧ (b = false → B false S1)) X) : wp (tAndR rt ru env S) B X := by
  simp only [wp_e, ws_e] at *
  exact W0.w_tAnd h
theorem w_tOr (h : wp (rt env S) (fun b S1 => (b = true → B true S1) ∧ (b = false → wp (ru env S1) B X)) X) : wp (tOrR rt ru env S) B X := by
  simp only [wp_e, ws_e] at *
  exact W0.w_tOr h
theorem w_tNot (h : wp (rt env S) (fun b S1 => B (!b) S1) X) : wp (tNotR rt env S) B X := by
  simp only [wp_e, ws_e] at *
  exact W0.w_tNot h
theorem w_tYes (h : B true S) : wp (tYesR env S) B X := by
  simp only [wp_e, ws_e] at *
  exact W0.w_tYes h
theorem w_vAnd (h : wp (ra env S) (fun x S1 => ∃ b, x = .bl b ∧ (b = true → wp (rb env S1) R X) ∧ (b = false → R (.bl false) S1)) X) : wp (vAnd ra rb env S) R X := by
  simp only [wp_e, ws_e] at *
  exact W0.w_vAnd h
theorem w_vOr (h : wp (ra env S) (fun x S1 => ∃ b, x = .bl b ∧ (b = true → R (.bl true) S1) ∧ (b = false → wp (rb env S1) R X)) X) : wp (vOr ra rb env S) R X := by
  simp only [wp_e, ws_e] at *
  exact W0.w_vOr h
theorem w_vNot (h : wp (ra env S) (fun x S1 => ∃ b, x = .bl b ∧ R (.bl (!b)) S1) X) : wp (vNot ra env S) R X := by
  simp only [wp_e, ws_e] at *
  exact W0.w_vNot h
theorem w_chain {g g' : Op2} (h : wp (ra env S) (fun x S1 => wp (rb env S1) (fun y S2 => ∃ b, g S2 x y = some (.bl b) ∧ (b = true → wp (rc env S2) (fun z S3 => ∃ d, g' S3 y z = some d ∧ R d S3) X) ∧ (b = false → R (.bl false) S2)) X) X) : wp (rChain g g' ra rb rc env S) R X := by
  simp only [wp_e, ws_e] at *
  exact W0.w_chain h
theorem w_call {m : FSem} (h : wp (rs env S) (fun ds S1 => wp (m S1 ds) R X) X) : wp (rCall m rs env S) R X := by
  simp only [wp_e, ws_e] at *
  exact W0.w_call h
theorem w_cb {g : OpN} (h : wp (rs env S) (fun ds S1 => ∃ d, g S1 ds = some d ∧ R d S1) X) : wp (rCB g rs env S) R X := by
  simp only [wp_e, ws_e] at *
  exact W0.w_cb h
theorem w_oNone {O : Option Int → Store → Prop} (h : O none S) : wp (oNone env S) O X := by
  simp only [wp_e, ws_e] at *
  exact W0.w_oNone h
theorem w_oSome {O : Option Int → Store → Prop} (h : wp (ra env S) (fun d S1 => ∃ i, d = .int i ∧ O (some i) S1) X) : wp (oSome ra env S) O X := by
  simp only [wp_e, ws_e] at *
  exact W0.w_oSome h
theorem w_sl {g : OpSl} {rl rh : Ev → Store → Res (Option Int)} (h : wp (ra env S) (fun x S1 => wp (rl env S1) (fun l S2 => wp (rh env S2) (fun hh S3 => ∃ d, g S3 x l hh = some d ∧ R d S3) X) X) X) : wp (rSl g ra rl rh env S) R X := by
  simp only [wp_e, ws_e] at *
  exact W0.w_sl h
theorem w_mt {tb : Store → D → Bool} {g : OpM} (h : wp (ra env S) (fun x S1 => tb S1 x = true ∧ wp (rs env S1) (fun xs S2 => ∃ d S3, g S2 x xs = some (d, S3) ∧ R d S3) X) X) : wp (rMt tb g ra rs env S) R X := by
  simp only [wp_e, ws_e] at *
  exact W0.w_mt h
theorem w_fz (h : wp (ra env S) (fun d S1 => ∃ d' S2, fzD d S1 = some (d', S2) ∧ R d' S2) X) : wp (rFz ra env S) R X := by
  simp only [wp_e, ws_e] at *
  exact W0.w_fz h
theorem w_any (h : wp (ra env S) (fun d S1 => (∃ ds, d = .lst ds ∧ A ds S1) ∨ (∃ ds, d = .tup ds ∧ A ds S1) ∨ (∃ s, d = .str s ∧ A (s.map fun c => .str [c]) S1)) X) : wp (iAny ra env S) A X := by
  simp only [wp_e, ws_e] at *
  exact W0.w_any h
theorem w_rng1 (h : wp (rs env S) (fun ds S1 => ∃ n : Int, ds = [.int n] ∧ (n < 100000 ∧ -100000 < n) ∧ A (intsFrom 0 n.toNat) S1) X) : wp (iRng1S rs env S) A X := by
  simp only [wp_e, ws_e] at *
  exact W0.w_rng1 h
theorem w_rng2 (h : wp (rs env S) (fun ds S1 => ∃ i n : Int, ds = [.int i, .int n] ∧ ((n < 100000 ∧ -100000 < n) ∧ (i < 100000 ∧ -100000 < i)) ∧ A (intsFrom i (n - i).toNat) S1) X) : wp (iRng2S rs env S) A X := by
  simp only [wp_e, ws_e] at *
  exact W0.w_rng2 h
theorem w_zip (h : wp (rs env S) (fun ds S1 => ∃ xs ys, ds = [.lst xs, .lst ys] ∧ A (zipD xs ys) S1) X) : wp (iZipR rs env S) A X := by
  simp only [wp_e, ws_e] at *
  exact W0.w_zip h
theorem w_enum (h : wp (rs env S) (fun ds S1 => ∃ x xs, ds = [x] ∧ itemsOf x = some xs ∧ A (enumFrom 0 xs) S1) X) : wp (iEnumR rs env S) A X := by
  simp only [wp_e, ws_e] at *
  exact W0.w_enum h
theorem ws_some {fl : Flow} (h : Z fl S) : ws (some (fl, S)) Z := by
  simp only [wp_e, ws_e] at *
  exact W0.ws_some h
theorem s_next (h : Z (.nx env) S) : ws (sNext env S) Z := by
  simp only [wp_e, ws_e] at *
  exact W0.s_next h
theorem seqZ_nx {k : Ev → Store → Prop} {e : Ev} (h : k e S) : seqZ Z k (.nx e) S := W0.seqZ_nx h
theorem seqZ_ct {k : Ev → Store → Prop} {e : Ev} (h : Z (.ct e) S) : seqZ Z k (.ct e) S := W0.seqZ_ct h
theorem seqZ_bk {k : Ev → Store → Prop} {e : Ev} (h : Z (.bk e) S) : seqZ Z k (.bk e) S := W0.seqZ_bk h
theorem seqZ_rt {k : Ev → Store → Prop} {d : D} (h : Z (.rt d) S) : seqZ Z k (.rt d) S := W0.seqZ_rt h
theorem seqZ_ex {k : Ev → Store → Prop} {c : Nat} {e : Ev} (h : Z (.ex c e) S) : seqZ Z k (.ex c e) S := W0.seqZ_ex h
theorem s_seq {s t : SM} (h : ws (s env S) (seqZ Z fun e S1 => ws (t e S1) Z)) : ws (sSeq s t env S) Z := by
  simp only [wp_e, ws_e] at *
  exact W0.s_seq h
theorem s_expr (h : wp (ra env S) (fun _ S1 => Z (.nx env) S1) (fun c S => Z (.ex c env) S)) : ws (sExpr ra env S) Z := by
  simp only [wp_e, ws_e] at *
  exact W0.s_expr h
theorem s_ret (h : wp (ra env S) (fun d S1 => Z (.rt d) S1) (fun c S => Z (.ex c env) S)) : ws (sRet ra env S) Z := by
  simp only [wp_e, ws_e] at *
  exact W0.s_ret h
theorem s_set {i : Nat} (h : wp (ra env S) (fun d S1 => Z (.nx (env.set i (some d))) S1) (fun c S => Z (.ex c env) S)) : ws (sSet i ra env S) Z := by
  simp only [wp_e, ws_e] at *
  exact W0.s_set h
theorem s_if {s t : SM} (h : wp (rt env S) (fun b S1 => (b = true → ws (s env S1) Z) ∧ (b = false → ws (t env S1) Z)) (fun c S => Z (.ex c env) S)) : ws (sIf rt s t env S) Z := by
  simp only [wp_e, ws_e] at *
  exact W0.s_if h
theorem s_break (h : Z (.bk env) S) : ws (sBreak env S) Z := by
  simp only [wp_e, ws_e] at *
  exact W0.s_break h
theorem s_cont (h : Z (.ct env) S) : ws (sCont env S) Z := by
  simp only [wp_e, ws_e] at *
  exact W0.s_cont h
theorem s_raise {c : Nat} (h : Z (.ex c env) S) : ws (sRaise c env S) Z := by
  simp only [wp_e, ws_e] at *
  exact W0.s_raise h
theorem s_par {i j : Nat} (h : wp (rs env S) (fun ds S1 => ∃ x y, ds = [x, y] ∧ Z (.nx ((env.set i (some x)).set j (some y))) S1) (fun c S => Z (.ex c env) S)) : ws (sPar i j rs env S) Z := by
  simp only [wp_e, ws_e] at *
  exact W0.s_par h
theorem s_asg {t : Tg} (h : wp (ra env S) (fun d S1 => ∃ e1, t.set env d = some e1 ∧ Z (.nx e1) S1) (fun c S => Z (.ex c env) S)) : ws (sAsg t ra env S) Z := by
  simp only [wp_e, ws_e] at *
  exact W0.s_asg h
theorem s_setIx {g : OpSet} (h : wp (ra env S) (fun v S1 => wp (rb env S1) (fun o S2 => wp (rc env S2) (fun i S3 => ∃ S4, g S3 o i v = some S4 ∧ Z (.nx env) S4) (fun c S => Z (.ex c env) S)) (fun c S => Z (.ex c env) S)) (fun c S => Z (.ex c env) S)) : ws (sSetIx g ra rb rc env S) Z := by
  simp only [wp_e, ws_e] at *
  exact W0.s_setIx h
theorem s_augIx {gg gp : Op2} {g : OpSet} (h : wp (ra env S) (fun o S1 => wp (rb env S1) (fun i S2 => ∃ x, gg S2 o i = some x ∧ wp (rc env S2) (fun y S3 => ∃ z, gp S3 x y = some z ∧ ∃ S4, g S3 o i z = some S4 ∧ Z (.nx env) S4) (fun c S => Z (.ex c env) S)) (fun c S => Z (.ex c env) S)) (fun c S => Z (.ex c env) S)) : ws (sAugIx gg gp g ra rb rc env S) Z := by
  simp only [wp_e, ws_e] at *
  exact W0.s_augIx h
theorem s_aug {i : Nat} {gp : Op2} (h : wp (rVar i env S) (fun x S0 => wp (ra env S0) (fun y S1 => ∃ z, gp S1 x y = some z ∧ Z (.nx (env.set i (some z))) S1) (fun c S => Z (.ex c env) S)) (fun c S => Z (.ex c env) S)) : ws (sAug i gp ra env S) Z := by
  simp only [wp_e, ws_e] at *
  exact W0.s_aug h
theorem s_for {t : Tg} {body : SM} (h : wp (rs env S) (fun items S1 => ws (forGo t body items env S1) Z) (fun c S => Z (.ex c env) S)) : ws (sFor t rs body env S) Z := by
  simp only [wp_e, ws_e] at *
  exact W0.s_for h
theorem stepZ_nx {k : Ev → Store → Prop} {e : Ev} (h : k e S) : stepZ Z k (.nx e) S := W0.stepZ_nx h
theorem stepZ_ct {k : Ev → Store → Prop} {e : Ev} (h : k e S) : stepZ Z k (.ct e) S := W0.stepZ_ct h
theorem stepZ_bk {k : Ev → Store → Prop} {e : Ev} (h : Z (.nx e) S) : stepZ Z k (.bk e) S := W0.stepZ_bk h
theorem stepZ_rt {k : Ev → Store → Prop} {d : D} (h : Z (.rt d) S) : stepZ Z k (.rt d) S := W0.stepZ_rt h
theorem stepZ_ex {k : Ev → Store → Prop} {c : Nat} {e : Ev} (h : Z (.ex c e) S) : stepZ Z k (.ex c e) S := W0.stepZ_ex h
theorem go_nil {t : Tg} {body : SM} (h : Z (.nx env) S) : ws (forGo t body [] env S) Z := by
  simp only [wp_e, ws_e] at *
  exact W0.go_nil h
theorem go_cons {t : Tg} {body : SM} {d : D} {ds : List D} (h : ∃ e1, t.set env d = some e1 ∧ ws (body e1 S) (stepZ Z fun e S1 => ws (forGo t body ds e S1) Z)) : ws (forGo t body (d :: ds) env S) Z := by
  simp only [wp_e, ws_e] at *
  exact W0.go_cons h
theorem go_inv {t : Tg} {body : SM} (I : List D → Ev → Store → Prop) (h0 : ∀ e S, I [] e S → Z (.nx e) S)
    (hs : ∀ d ds e S, I (d :: ds) e S → ∃ e1, t.set e d = some e1 ∧ ws (body e1 S) (stepZ Z fun e' S1 => I ds e' S1)) : ∀ (items : List D) (e : Ev) (S : Store), I items e S → ws (forGo t body items e S) Z := by
  simp only [wp_e, ws_e] at *
  exact W0.go_inv I h0 hs
theorem whl_inv {body : SM} (I : Nat → Ev → Store → Prop)
    (hs : ∀ n e S, I (n + 1) e S → wp (rt e S) (fun b S1 => (b = true → ws (body e S1) (stepZ Z fun e' S2 => I n e' S2)) ∧ (b = false → Z (.nx e) S1)) (fun c S => Z (.ex c e) S)) (h0 : ∀ e S, ¬ I 0 e S) : ∀ (n : Nat) (e : Ev) (S : Store), I n e S → ws (sWhile n rt body e S) Z := by
  simp only [wp_e, ws_e] at *
  exact W0.whl_inv I hs h0
theorem whl_fuel {body : SM} {n : Nat} : ∀ (m : Nat), n ≤ m → ws (sWhile n rt body env S) Z → ws (sWhile m rt body env S) Z := by
  simp only [wp_e, ws_e] at *
  exact W0.whl_fuel 
theorem w_lc {t : Tg} {ri : Ev → Store → Res (List D)} {re : Ev → Store → Res D} {vs : List Nat} (h : wp (ri env S) (fun items S1 => items.length ≤ 100000 ∧ wp (lcGo t rt re (wipeE env vs) items S1) (fun l S2 => R (.lst l) S2) X) X) : wp (rLc t ri rt re vs env S) R X := by
  simp only [wp_e, ws_e] at *
  exact W0.w_lc h
theorem w_lcM {t : Tg} {ri : Ev → Store → Res (List D)} {re : Ev → Store → Res D} {vs : List Nat} (h : wp (ri env S) (fun items S1 => items.length ≤ 100000 ∧ wp (lcGo t rt re (wipeE env vs) items S1) (fun l S2 => R (.loc S2.length) (S2 ++ [.lst l])) X) X) : wp (rLcM t ri rt re vs env S) R X := by
  simp only [wp_e, ws_e] at *
  exact W0.w_lcM h
theorem lc_nil {t : Tg} {re : Ev → Store → Res D} (h : A [] S) : wp (lcGo t rt re env [] S) A X := by
  simp only [wp_e, ws_e] at *
  exact W0.lc_nil h
theorem wp_noex {r : Res α} (h : wp r Q (fun _ _ => False)) : wp r.noex Q X := by
  simp only [wp_e, ws_e] at *
  exact W0.wp_noex h
theorem lc_cons {t : Tg} {re : Ev → Store → Res D} {d : D} {ds : List D} (h : ∃ e1, t.set env d = some e1 ∧ wp (rt e1 S) (fun b S1 => (b = true → wp (re e1 S1) (fun v S2 => wp (lcGo t rt re env ds S2) (fun l S3 => A (v :: l) S3) X) (fun _ _ => False)) ∧ (b = false → wp (lcGo t rt re env ds S1) A X)) (fun _ _ => False)) : wp (lcGo t rt re env (d :: ds) S) A X := by
  simp only [wp_e, ws_e] at *
  exact W0.lc_cons h
theorem lc_pure {t : Tg} {re : Ev → Store → Res D} (f : D → D) (items : List D) (hs : ∀ d ∈ items, ∃ e1, t.set env d = some e1 ∧ rt e1 S = .ok true S ∧ re e1 S = .ok (f d) S) (h : A (items.map f) S) : wp (lcGo t rt re env items S) A X := by
  simp only [wp_e, ws_e] at *
  exact W0.lc_pure f items hs h
theorem fnZ_nx {e : Ev} (h : R .non S) : fnZ R X (.nx e) S := W0.fnZ_nx h
theorem fnZ_rt {d : D} (h : R d S) : fnZ R X (.rt d) S := W0.fnZ_rt h
theorem fnZ_ex {c : Nat} {e : Ev} (h : X c S) : fnZ R X (.ex c e) S := W0.fnZ_ex h
theorem w_fn {n p : Nat} {body : SM} {ds : List D} (h : ws (body (ds.map some ++ List.replicate (n - p) none) S) (fnZ R X)) : wp (fnSem n p body S ds) R X := by
  simp only [wp_e, ws_e] at *
  exact W0.w_fn h
theorem wp_eq {α : Type} {r : Res α} {a : α} {S' : Store} (h : wp r (fun d S1 => d = a ∧ S1 = S') (fun _ _ => False)) : r = .ok a S' := by
  simp only [wp_e, ws_e] at *
  exact W0.wp_eq h
theorem wp_of {α : Type} {r : Res α} {a : α} {S' : Store} {Q : α → Store → Prop} {X : Nat → Store → Prop} (e : r = .ok a S') (h : Q a S') : wp r Q X := by
  simp only [wp_e, ws_e] at *
  exact W0.wp_of e h
end
end L3
set_option Elab.async false
set_option linter.all false
set_option maxRecDepth 100000
set_option maxHeartbeats 2000000
/-! what the operations answer at plain data -/
namespace L3
open PySem PySem.Spec L2
noncomputable section
open Classical
/-- ints and texts, and lists and tuples of them, n deep -/
def D.pl : Nat → D → Bool
  | _, .int _ => true
  | _, .str _ => true
  | _, .non => true
  | n + 1, .lst ds => ds.all (D.pl n)
  | n + 1, .tup ds => ds.all (D.pl n)
  | _, _ => false
theorem pl_int (n : Nat) (i : Int) : D.pl n (.int i) = true := by cases n <;> rfl
theorem pl_str (n : Nat) (s : List Nat) : D.pl n (.str s) = true := by cases n <;> rfl
theorem pl_flat : ∀ (n : Nat) (d : D), D.pl n d = true → d.flat = true ∧ d.py.depth ≤ n := by
  intro n
  induction n with
  | zero =>
    intro d h
    cases d <;> first | (cases h; done) | exact ⟨rfl, Nat.zero_le _⟩
  | succ n ih =>
    have al : ∀ ds : List D, ds.all (D.pl n) = true → D.flats ds = true ∧ PyData.depthAll (D.pys ds) ≤ n := by
      intro ds
      induction ds with
      | nil => exact fun _ => ⟨rfl, Nat.zero_le _⟩
      | cons d ds ih2 =>
        intro h
        rw [List.all_cons, Bool.and_eq_true] at h
        obtain ⟨a, b⟩ := ih d h.1
        obtain ⟨a', b'⟩ := ih2 h.2
        refine ⟨by simp [D.flats, a, a'], ?_⟩
        simp only [D.pys, PyData.depthAll]
        exact Nat.max_le.mpr ⟨b, b'⟩
    intro d h
    cases d with
    | int => exact ⟨rfl, Nat.zero_le _⟩
    | str => exact ⟨rfl, Nat.zero_le _⟩
    | non => exact ⟨rfl, Nat.zero_le _⟩
    | lst ds =>
      refine ⟨(al ds h).1, ?_⟩
      simp only [D.py, PyData.depth]
      exact Nat.succ_le_succ (al ds h).2
    | tup ds =>
      refine ⟨(al ds h).1, ?_⟩
      simp only [D.py, PyData.depth]
      exact Nat.succ_le_succ (al ds h).2
    | _ => cases h
theorem tx_inj {s t : List Nat} : tx s = tx t ↔ s = t := by
  constructor
  · intro h
    have h := congrArg (fun z : Str => z.cps.toList) h
    simpa [tx] using h
  · intro h; rw [h]
theorem pl_eqv : ∀ (n : Nat) (x y : D), D.pl n x = true → D.pl n y = true → (PyData.eqv x.py y.py = true ↔ x = y) := by
  intro n
  induction n with
  | zero =>
    intro x y hx hy
    cases x <;> first | (cases hx; done) | skip
    all_goals (cases y <;> first | (cases hy; done) | skip)
    all_goals simp [D.py, PyData.eqv, tx_inj]
  | succ n ih =>
    have al : ∀ xs ys : List D, xs.all (D.pl n) = true → ys.all (D.pl n) = true → (PyData.eqvAll (D.pys xs) (D.pys ys) = true ↔ xs = ys) := by
      intro xs
      induction xs with
      | nil => intro ys _ _; cases ys <;> simp [D.pys, PyData.eqvAll]
      | cons x xs ih2 =>
        intro ys hx hy
        cases ys with
        | nil => simp [D.pys, PyData.eqvAll]
        | cons y ys =>
          rw [List.all_cons, Bool.and_eq_true] at hx hy
          simp only [D.pys, PyData.eqvAll, Bool.and_eq_true, ih x y hx.1 hy.1, ih2 ys hx.2 hy.2, List.cons.injEq]
    intro x y hx hy
    cases x <;> first | (cases hx; done) | skip
    all_goals (cases y <;> first | (cases hy; done) | skip)
    all_goals first | (simp [D.py, PyData.eqv, tx_inj]; done) | skip
    · rename_i xs ys
      simp only [D.py, PyData.eqv, D.lst.injEq]
      exact al xs ys hx hy
    · rename_i xs ys
      simp only [D.py, PyData.eqv, D.tup.injEq]
      exact al xs ys hx hy
theorem un_pl {n : Nat} {S : Store} {d : D} (h : D.pl n d = true) : unloc S d = d := by
  cases d <;> first | rfl | (cases n <;> cases h)
theorem pl_pre {n : Nat} {x y : D} (hn : n ≤ 60) (hx : D.pl n x = true) (hy : D.pl n y = true) : eqPre x y = true := by
  obtain ⟨a, b⟩ := pl_flat n x hx
  obtain ⟨c, d⟩ := pl_flat n y hy
  simp only [eqPre, a, c, Bool.and_self, Bool.true_and, Bool.and_eq_true, decide_eq_true_eq]
  omega
theorem pl_dec {n : Nat} {x y : D} (hx : D.pl n x = true) (hy : D.pl n y = true) : PyData.eqv x.py y.py = decide (x = y) := by
  rw [Bool.eq_iff_iff, decide_eq_true_eq]
  exact pl_eqv n x y hx hy
theorem eqD_u {n : Nat} {S : Store} {x y : D} (hn : n ≤ 60) (hx : D.pl n (unloc S x) = true) (hy : D.pl n (unloc S y) = true) : eqD S x y = some (.bl (decide (unloc S x = unloc S y))) := by
  unfold eqD
  rw [if_pos (pl_pre hn hx hy), pl_dec hx hy]
theorem neD_u {n : Nat} {S : Store} {x y : D} (hn : n ≤ 60) (hx : D.pl n (unloc S x) = true) (hy : D.pl n (unloc S y) = true) : neD S x y = some (.bl (!decide (unloc S x = unloc S y))) := by
  unfold neD
  rw [if_pos (pl_pre hn hx hy), pl_dec hx hy]
theorem eqD_pl (n : Nat) {S : Store} {x y : D} (hn : n ≤ 60) (hx : D.pl n x = true) (hy : D.pl n y = true) : eqD S x y = some (.bl (decide (x = y))) := by
  have q := eqD_u (S := S) (x := x) (y := y) hn (by rw [un_pl hx]; exact hx) (by rw [un_pl hy]; exact hy)
  rwa [un_pl hx, un_pl hy] at q
theorem neD_pl (n : Nat) {S : Store} {x y : D} (hn : n ≤ 60) (hx : D.pl n x = true) (hy : D.pl n y = true) : neD S x y = some (.bl (!decide (x = y))) := by
  have q := neD_u (S := S) (x := x) (y := y) hn (by rw [un_pl hx]; exact hx) (by rw [un_pl hy]; exact hy)
  rwa [un_pl hx, un_pl hy] at q
theorem eqD_ii {S : Store} {i j : Int} : eqD S (.int i) (.int j) = some (.bl (decide (i = j))) := by
  rw [eqD_pl 0 (by decide) rfl rfl]; simp
theorem eqD_ss {S : Store} {i j : List Nat} : eqD S (.str i) (.str j) = some (.bl (decide (i = j))) := by
  rw [eqD_pl 0 (by decide) rfl rfl]; simp
theorem neD_ii {S : Store} {i j : Int} : neD S (.int i) (.int j) = some (.bl (!decide (i = j))) := by
  rw [neD_pl 0 (by decide) rfl rfl]; simp
theorem neD_ss {S : Store} {i j : List Nat} : neD S (.str i) (.str j) = some (.bl (!decide (i = j))) := by
  rw [neD_pl 0 (by decide) rfl rfl]; simp
theorem eqD_bb {S : Store} {i j : Bool} : eqD S (.bl i) (.bl j) = some (.bl (decide (i = j))) := by
  cases i <;> cases j <;> rfl
theorem isD_bb {S : Store} {i j : Bool} : isD S (.bl i) (.bl j) = some (.bl (decide (i = j))) := by
  cases i <;> cases j <;> rfl
theorem pl_strs (n : Nat) (xs : List (List Nat)) : D.pl (n + 1) (.lst (xs.map .str)) = true := by
  show (xs.map D.str).all (D.pl n) = true
  rw [List.all_map, List.all_eq_true]
  exact fun x _ => pl_str n x
theorem pl_ints (n : Nat) (xs : List Int) : D.pl (n + 1) (.lst (xs.map .int)) = true := by
  show (xs.map D.int).all (D.pl n) = true
  rw [List.all_map, List.all_eq_true]
  exact fun x _ => pl_int n x
theorem str_map_inj {xs ys : List (List Nat)} : xs.map D.str = ys.map D.str ↔ xs = ys := by
  induction xs generalizing ys with
  | nil => cases ys <;> simp
  | cons x xs ih => cases ys with
    | nil => simp
    | cons y ys => simp [ih]
theorem int_map_inj {xs ys : List Int} : xs.map D.int = ys.map D.int ↔ xs = ys := by
  induction xs generalizing ys with
  | nil => cases ys <;> simp
  | cons x xs ih => cases ys with
    | nil => simp
    | cons y ys => simp [ih]
theorem neD_strs {S : Store} {xs ys : List (List Nat)} : neD S (.lst (xs.map .str)) (.lst (ys.map .str)) = some (.bl (!decide (xs = ys))) := by
  rw [neD_pl 1 (by decide) (pl_strs 0 xs) (pl_strs 0 ys)]
  simp only [D.lst.injEq, str_map_inj]
theorem eqD_strs {S : Store} {xs ys : List (List Nat)} : eqD S (.lst (xs.map .str)) (.lst (ys.map .str)) = some (.bl (decide (xs = ys))) := by
  rw [eqD_pl 1 (by decide) (pl_strs 0 xs) (pl_strs 0 ys)]
  simp only [D.lst.injEq, str_map_inj]
theorem neD_ints {S : Store} {xs ys : List Int} : neD S (.lst (xs.map .int)) (.lst (ys.map .int)) = some (.bl (!decide (xs = ys))) := by
  rw [neD_pl 1 (by decide) (pl_ints 0 xs) (pl_ints 0 ys)]
  simp only [D.lst.injEq, int_map_inj]
theorem eqD_ints {S : Store} {xs ys : List Int} : eqD S (.lst (xs.map .int)) (.lst (ys.map .int)) = some (.bl (decide (xs = ys))) := by
  rw [eqD_pl 1 (by decide) (pl_ints 0 xs) (pl_ints 0 ys)]
  simp only [D.lst.injEq, int_map_inj]
theorem neD_nil {S : Store} {xs : List (List Nat)} : neD S (.lst (xs.map .str)) (.lst []) = some (.bl (!decide (xs = []))) := neD_strs (ys := [])
theorem eqD_nil {S : Store} {xs : List (List Nat)} : eqD S (.lst (xs.map .str)) (.lst []) = some (.bl (decide (xs = []))) := eqD_strs (ys := [])
theorem neD_loc {S : Store} {i : Nat} {xs ys : List (List Nat)} (h : S[i]? = some (.lst (xs.map .str))) : neD S (.loc i) (.lst (ys.map .str)) = some (.bl (!decide (xs = ys))) := by
  have e : unloc S (.loc i) = .lst (xs.map .str) := by simp only [unloc, h]
  have q := neD_u (n := 1) (S := S) (x := .loc i) (y := .lst (ys.map .str)) (by decide) (by rw [e]; exact pl_strs 0 xs) (pl_strs 0 ys)
  rw [q, e]
  show some (D.bl (!decide (D.lst _ = D.lst _))) = _
  simp only [D.lst.injEq, str_map_inj]
/-! order of int rows -/
theorem ltvs_ints : ∀ xs ys : List Int, LtD.ltvs (D.pys (xs.map .int)) (D.pys (ys.map .int)) = some (decide (xs < ys))
  | [], [] => by simp [D.pys, LtD.ltvs]
  | [], _ :: _ => by simp [D.pys, LtD.ltvs]
  | _ :: _, [] => by simp [D.pys, LtD.ltvs]
  | x :: xs, y :: ys => by
    rw [List.map_cons, List.map_cons, D.pys, D.pys, LtD.ltvs, ltvs_ints xs ys]
    have q : PyData.eqv (D.py (.int x)) (D.py (.int y)) = true ↔ x = y := by simp [D.py, PyData.eqv]
    show (if PyData.eqv (D.py (.int x)) (D.py (.int y)) = true then some (decide (xs < ys)) else some (decide (x < y))) = some (decide (x :: xs < y :: ys))
    by_cases h : x = y
    · rw [if_pos (q.mpr h)]
      simp [List.cons_lt_cons_iff, h]
    · rw [if_neg (fun z => h (q.mp z))]
      simp [List.cons_lt_cons_iff, h]
theorem ltDD_tup {S : Store} {xs ys : List Int} : ltDD S (.tup (xs.map .int)) (.tup (ys.map .int)) = some (.bl (decide (xs < ys))) := by
  show (if eqPre (.tup (xs.map .int)) (.tup (ys.map .int)) = true then (LtD.ltvs (D.pys (xs.map .int)) (D.pys (ys.map .int))).map fun k => D.bl k else none) = _
  have p : ∀ zs : List Int, D.pl 1 (.tup (zs.map .int)) = true := fun zs => pl_ints 0 zs
  rw [if_pos (pl_pre (n := 1) (by decide) (p xs) (p ys)), ltvs_ints]
  rfl
theorem ltDD_lst {S : Store} {xs ys : List Int} : ltDD S (.lst (xs.map .int)) (.lst (ys.map .int)) = some (.bl (decide (xs < ys))) := by
  show (if eqPre (.lst (xs.map .int)) (.lst (ys.map .int)) = true then (LtD.ltvs (D.pys (xs.map .int)) (D.pys (ys.map .int))).map fun k => D.bl k else none) = _
  rw [if_pos (pl_pre (n := 1) (by decide) (pl_ints 0 xs) (pl_ints 0 ys)), ltvs_ints]
  rfl
theorem ltDD_ii {S : Store} {i j : Int} : ltDD S (.int i) (.int j) = some (.bl (decide (i < j))) := rfl
theorem pl_tupI (n : Nat) (xs : List Int) : D.pl (n + 1) (.tup (xs.map .int)) = true := pl_ints n xs
theorem eqD_tupI {S : Store} {xs ys : List Int} : eqD S (.tup (xs.map .int)) (.tup (ys.map .int)) = some (.bl (decide (xs = ys))) := by
  rw [eqD_pl 1 (by decide) (pl_tupI 0 xs) (pl_tupI 0 ys)]
  simp only [D.tup.injEq, int_map_inj]
/-! membership -/
theorem flt_pl {d : D} (h : D.pl 0 d = true) : d.flt = true := by
  cases d <;> first | rfl | cases h
theorem inB_dec {x : D} {ds : List D} (hx : D.pl 0 x = true) (hd : ds.all (D.pl 0) = true) : inB x ds = decide (x ∈ ds) := by
  rw [Bool.eq_iff_iff, decide_eq_true_eq]
  unfold inB
  rw [List.any_eq_true]
  rw [List.all_eq_true] at hd
  constructor
  · rintro ⟨z, hz, e⟩
    rw [pl_eqv 0 z x (hd z hz) hx] at e
    rw [← e]; exact hz
  · intro h
    exact ⟨x, h, (pl_eqv 0 x x hx hx).mpr rfl⟩
theorem inD2_tup {S : Store} {x : D} {ds : List D} (hx : D.pl 0 x = true) (hd : ds.all (D.pl 0) = true) : inD2 S x (.tup ds) = some (.bl (decide (x ∈ ds))) := by
  have e : (x.flt && ds.all D.flt) = true := by
    rw [flt_pl hx, Bool.true_and, List.all_eq_true]
    rw [List.all_eq_true] at hd
    exact fun z hz => flt_pl (hd z hz)
  show (if (x.flt && ds.all D.flt) = true then some (inB x ds) else none).map (fun b => D.bl b) = _
  rw [if_pos e, inB_dec hx hd]
  rfl
theorem ninD2_tup {S : Store} {x : D} {ds : List D} (hx : D.pl 0 x = true) (hd : ds.all (D.pl 0) = true) : ninD2 S x (.tup ds) = some (.bl (!decide (x ∈ ds))) := by
  have e : (x.flt && ds.all D.flt) = true := by
    rw [flt_pl hx, Bool.true_and, List.all_eq_true]
    rw [List.all_eq_true] at hd
    exact fun z hz => flt_pl (hd z hz)
  show (if (x.flt && ds.all D.flt) = true then some (inB x ds) else none).map (fun b => D.bl (!b)) = _
  rw [if_pos e, inB_dec hx hd]
  rfl
theorem inD2_str {S : Store} {c : Nat} {s : List Nat} : inD2 S (.str [c]) (.str s) = some (.bl (decide (c ∈ s))) := by
  show some (D.bl _) = _
  congr 3
theorem add_ss {S : Store} {s t : List Nat} (h : s.length + t.length ≤ 100000) : addD S (.str s) (.str t) = some (.str (s ++ t)) := if_pos h
theorem add_ii {S : Store} {i j : Int} : addD S (.int i) (.int j) = some (.int (i + j)) := rfl
theorem add_tt {S : Store} {s t : List D} (h : s.length + t.length ≤ 100000) : addD S (.tup s) (.tup t) = some (.tup (s ++ t)) := if_pos h
theorem add_ll {S : Store} {s t : List D} (h : s.length + t.length ≤ 100000) : addD S (.lst s) (.lst t) = some (.lst (s ++ t)) := if_pos h
theorem mod_ii {S : Store} {i j : Int} (h : 0 < j) : modD S (.int i) (.int j) = some (.int (i % j)) := if_pos h
theorem fdiv_ii {S : Store} {i j : Int} (h : 0 < j ∧ j < 1073741824) : fdivD S (.int i) (.int j) = some (.int (i / j)) := if_pos h
theorem mul_ii {S : Store} {i j : Int} (h : i.natAbs < 2 ^ 64 ∨ j.natAbs < 2 ^ 64) : mulD S (.int i) (.int j) = some (.int (i * j)) := if_pos h
theorem pow_ii {S : Store} {i j : Int} (h : 0 ≤ j ∧ j ≤ 1000 ∧ i.natAbs < 2 ^ 64) : powD S (.int i) (.int j) = some (.int (i ^ j.toNat)) := if_pos h
theorem len_s {S : Store} {s : List Nat} (h : s.length ≤ 100000) : lenD S [.str s] = some (.int s.length) := if_pos h
theorem len_l {S : Store} {s : List D} : lenD S [.lst s] = some (.int s.length) := rfl
theorem len_t {S : Store} {s : List D} : lenD S [.tup s] = some (.int s.length) := rfl
theorem len_loc {S : Store} {i : Nat} {s : List D} (h : S[i]? = some (.lst s)) : lenD S [.loc i] = some (.int s.length) := by
  show ((seqD S (.loc i)).bind fun ds => some (D.int ds.length)) = _
  simp only [seqD, h]; rfl
theorem ix_t {S : Store} {ds : List D} {i : Int} : ixD S (.tup ds) (.int i) = atI ds i := rfl
theorem ix_l {S : Store} {ds : List D} {i : Int} : ixD S (.lst ds) (.int i) = atI ds i := rfl
theorem ix_s {S : Store} {s : List Nat} {i : Int} (h : s.length ≤ 100000) : ixD S (.str s) (.int i) = (atI s i).map fun c => .str [c] := if_pos h
theorem ix_loc {S : Store} {ds : List D} {j : Nat} {i : Int} (h : S[j]? = some (.lst ds)) : ixD S (.loc j) (.int i) = atI ds i := by
  show (seqD S (.loc j)).bind _ = _
  simp only [seqD, h]; rfl
theorem lower_s {S : Store} {s : List Nat} (h : asc s = true ∧ s.length ≤ 100000) : lowerD S (.str s) [] = some (.str (s.map loA), S) := if_pos h
theorem upper_s {S : Store} {s : List Nat} (h : asc s = true ∧ s.length ≤ 100000) : upperD S (.str s) [] = some (.str (s.map upA), S) := if_pos h
theorem isdigit_s {S : Store} {s : List Nat} (h : asc s = true) : isdigitD S (.str s) [] = some (.bl (!s.isEmpty && s.all isDig), S) := if_pos h
theorem isupper_s {S : Store} {s : List Nat} (h : asc s = true) : isupperD S (.str s) [] = some (.bl (s.any isUp && !s.any isLo), S) := if_pos h
theorem int_s {S : Store} {s : List Nat} (h : figs s = true ∧ s.length ≤ 640) : intD S [.str s] = some (.int (digV s)) := if_pos h
theorem bls_map {α : Type} (f : α → Bool) (xs : List α) : blsOf (xs.map fun x => .bl (f x)) = some (xs.map f) := by
  induction xs with
  | nil => rfl
  | cons x xs ih => simp [blsOf, ih]
theorem strs_map (xs : List (List Nat)) : strsOf (xs.map .str) = some xs := by
  induction xs with
  | nil => rfl
  | cons x xs ih => simp [strsOf, ih]
end
end L3
set_option Elab.async false
set_option linter.all false
set_option maxRecDepth 100000
set_option maxHeartbeats 2000000
/-! comparing: plain mathematics -/
namespace L3
open L2
structure TC {α : Type} (c : α → α → Int) : Prop where
  sw : ∀ a b, c b a = - c a b
  rng : ∀ a b, c a b = -1 ∨ c a b = 0 ∨ c a b = 1
  tr : ∀ a b d, c a b ≤ 0 → c b d ≤ 0 → c a d ≤ 0
namespace TC
variable {α β : Type} {c c' : α → α → Int}
theorem rf (t : TC c) (a : α) : c a a = 0 := by have := t.sw a a; omega
theorem eq (t : TC c) {a b : α} (h : c a b = 0) (d : α) : c a d = c b d := by
  have h' := t.sw a b
  have p1 := t.tr a b d
  have p2 := t.tr b a d
  have p3 := t.tr d a b
  have p4 := t.tr d b a
  have q1 := t.sw a d
  have q2 := t.sw b d
  have r1 := t.rng a d
  have r2 := t.rng b d
  omega
theorem eq2 (t : TC c) {a b : α} (h : c a b = 0) (d : α) : c d a = c d b := by
  have := t.eq h d
  have q1 := t.sw a d
  have q2 := t.sw b d
  omega
theorem lt (t : TC c) {a b d : α} (h : c a b = -1) (h2 : c b d ≤ 0) : c a d = -1 := by
  have p := t.tr a b d (by omega) h2
  have r := t.rng a d
  rcases r with r | r | r
  · exact r
  · have := t.eq r b
    have q := t.sw d b
    omega
  · omega
theorem lt2 (t : TC c) {a b d : α} (h : c a b ≤ 0) (h2 : c b d = -1) : c a d = -1 := by
  have r := t.rng a b
  rcases r with r | r | r
  · exact t.lt r (by omega)
  · rw [t.eq r d]; exact h2
  · omega
theorem map (t : TC c) (f : β → α) : TC fun a b => c (f a) (f b) := ⟨fun a b => t.sw _ _, fun a b => t.rng _ _, fun a b d => t.tr _ _ _⟩
theorem zero : TC fun _ _ : α => 0 := ⟨fun _ _ => rfl, fun _ _ => .inr (.inl rfl), fun _ _ _ _ _ => by omega⟩
theorem sgn (t : TC c) {s : Int} (h : s = 1 ∨ s = -1) : TC fun a b => s * c a b := by
  rcases h with rfl | rfl
  · simpa using t
  · refine ⟨fun a b => ?_, fun a b => ?_, fun a b d h1 h2 => ?_⟩
    · have := t.sw a b; show -1 * c b a = -(-1 * c a b); omega
    · have := t.rng a b; show -1 * c a b = -1 ∨ -1 * c a b = 0 ∨ -1 * c a b = 1; omega
    · have := t.tr d b a
      have q1 := t.sw a b
      have q2 := t.sw b d
      have q3 := t.sw a d
      change -1 * c a b ≤ 0 at h1
      change -1 * c b d ≤ 0 at h2
      show -1 * c a d ≤ 0
      omega
end TC
def thenC {α : Type} (c c' : α → α → Int) : α → α → Int := fun a b => if c a b = 0 then c' a b else c a b
theorem TC.then {α : Type} {c c' : α → α → Int} (t : TC c) (t' : TC c') : TC (thenC c c') := by
  refine ⟨fun a b => ?_, fun a b => ?_, fun a b d h1 h2 => ?_⟩
  · have h := t.sw a b
    have h' := t'.sw a b
    unfold thenC
    split <;> split <;> omega
  · have h := t.rng a b
    have h' := t'.rng a b
    unfold thenC
    split <;> omega
  · unfold thenC at *
    have r1 := t.rng a b
    have r2 := t.rng b d
    have r3 := t.rng a d
    by_cases e1 : c a b = 0
    · rw [if_pos e1] at h1
      have q := t.eq e1 d
      by_cases e2 : c b d = 0
      · rw [if_pos e2] at h2
        rw [if_pos (by omega)]
        exact t'.tr a b d h1 h2
      · rw [if_neg e2] at h2
        rw [if_neg (by omega)]
        omega
    · rw [if_neg e1] at h1
      have q : c a d = -1 := by
        have l : c a b = -1 := by omega
        by_cases e2 : c b d = 0
        · exact t.lt l (by omega)
        · rw [if_neg e2] at h2
          exact t.lt l h2
      rw [if_neg (by omega)]
      omega
def cmpI (a b : Int) : Int := if a = b then 0 else if a < b then -1 else 1
theorem TC.int : TC cmpI := ⟨fun a b => by unfold cmpI; split <;> split <;> (try split) <;> (try split) <;> omega, fun a b => by unfold cmpI; split <;> (try split) <;> omega, fun a b d h1 h2 => by unfold cmpI at *; split at h1 <;> split at h2 <;> split <;> (try split) <;> (try split at h1) <;> (try split at h2) <;> omega⟩
def lexM {α : Type} (c : α → α → Int) (e : Int) : List α → List α → Int
  | [], [] => 0
  | [], _ :: _ => e
  | _ :: _, [] => -e
  | x :: xs, y :: ys => if c x y = 0 then lexM c e xs ys else c x y
theorem TC.lex {α : Type} {c : α → α → Int} (t : TC c) {e : Int} (he : e = 1 ∨ e = -1) : TC (lexM c e) := by
  refine ⟨fun a => ?_, fun a => ?_, fun a => ?_⟩
  · induction a with
    | nil => intro b; cases b <;> simp [lexM]
    | cons x xs ih =>
      intro b
      cases b with
      | nil => simp [lexM]
      | cons y ys =>
        have h := t.sw x y
        have := ih ys
        simp only [lexM]
        split <;> split <;> omega
  · induction a with
    | nil => intro b; cases b <;> simp [lexM]; omega
    | cons x xs ih =>
      intro b
      cases b with
      | nil => simp only [lexM]; omega
      | cons y ys =>
        have h := t.rng x y
        have := ih ys
        simp only [lexM]
        split <;> omega
  · induction a with
    | nil =>
      intro b d h1 h2
      cases b <;> cases d <;> simp only [lexM] at * <;> omega
    | cons x xs ih =>
      intro b d h1 h2
      cases b with
      | nil => cases d <;> simp only [lexM] at * <;> omega
      | cons y ys =>
        cases d with
        | nil => simp only [lexM] at *; omega
        | cons z zs =>
          simp only [lexM] at *
          by_cases e1 : c x y = 0
          · rw [if_pos e1] at h1
            have q := t.eq e1 z
            by_cases e2 : c y z = 0
            · rw [if_pos e2] at h2
              rw [if_pos (by omega)]
              exact ih ys zs h1 h2
            · rw [if_neg e2] at h2
              rw [if_neg (by omega)]
              omega
          · rw [if_neg e1] at h1
            have r1 := t.rng x y
            have r2 := t.rng y z
            have q : c x z = -1 := by
              have l : c x y = -1 := by omega
              by_cases e2 : c y z = 0
              · exact t.lt l (by omega)
              · rw [if_neg e2] at h2
                exact t.lt l h2
            rw [if_neg (by omega)]
            omega
/-- the first parting of two rows, item by item -/
def zipM {α : Type} (c : α → α → Int) : List α → List α → Int
  | x :: xs, y :: ys => if c x y = 0 then zipM c xs ys else c x y
  | _, _ => 0
theorem lex_zip {α : Type} (c : α → α → Int) (e : Int) : ∀ xs ys : List α, lexM c e xs ys = if zipM c xs ys = 0 then (if xs.length = ys.length then 0 else if xs.length < ys.length then e else -e) else zipM c xs ys
  | [], [] => by simp [lexM, zipM]
  | [], _ :: _ => by simp [lexM, zipM]
  | _ :: _, [] => by simp [lexM, zipM]
  | x :: xs, y :: ys => by
    simp only [lexM, zipM, List.length_cons]
    have ih := lex_zip c e xs ys
    by_cases h : c x y = 0
    · rw [if_pos h, if_pos h, ih]
      simp
    · rw [if_neg h, if_neg h, if_neg h]
theorem lex_map {α β : Type} (c : β → β → Int) (e : Int) (f : α → β) : ∀ xs ys : List α, lexM c e (xs.map f) (ys.map f) = lexM (fun a b => c (f a) (f b)) e xs ys
  | [], [] => rfl
  | [], _ :: _ => rfl
  | _ :: _, [] => rfl
  | x :: xs, y :: ys => by simp only [List.map_cons, lexM, lex_map c e f xs ys]
theorem lex_congr {α : Type} {c c' : α → α → Int} {e : Int} : ∀ {xs ys : List α}, (∀ x ∈ xs, ∀ y ∈ ys, c x y = c' x y) → lexM c e xs ys = lexM c' e xs ys
  | [], [], _ => rfl
  | [], _ :: _, _ => rfl
  | _ :: _, [], _ => rfl
  | x :: xs, y :: ys, h => by
    simp only [lexM]
    rw [h x (by simp) y (by simp), lex_congr (xs := xs) (ys := ys) fun a ha b hb => h a (by simp [ha]) b (by simp [hb])]
/-- rows of ints in their order -/
def cmpL : List Int → List Int → Int := lexM cmpI (-1)
theorem TC.ints : TC cmpL := TC.int.lex (.inr rfl)
theorem cmpL_lt : ∀ a b : List Int, cmpL a b = if a = b then 0 else if a < b then -1 else 1
  | [], [] => rfl
  | [], _ :: _ => by simp [cmpL, lexM]
  | _ :: _, [] => by simp [cmpL, lexM]
  | x :: xs, y :: ys => by
    have ih := cmpL_lt xs ys
    show (if cmpI x y = 0 then cmpL xs ys else cmpI x y) = _
    rw [ih]
    unfold cmpI
    by_cases h : x = y
    · subst h
      simp [List.cons_lt_cons_iff]
    · by_cases h2 : x < y
      · simp [List.cons_lt_cons_iff, h, h2]
      · simp [List.cons_lt_cons_iff, h, h2]
theorem cmpL_cons (a b : Int) (as bs : List Int) : cmpL (a :: as) (b :: bs) = if a = b then cmpL as bs else if a < b then -1 else 1 := by
  show (if cmpI a b = 0 then cmpL as bs else cmpI a b) = _
  unfold cmpI
  by_cases h : a = b
  · simp [h]
  · by_cases h2 : a < b <;> simp [h, h2]
/-! stores -/
theorem st_get {S : Store} {a : Cell} : (S ++ [a])[S.length]? = some a := by simp
theorem st_set {S : Store} {a b : Cell} : (S ++ [a]).set S.length b = S ++ [b] := by simp
theorem st_get2 {S : Store} {a : Cell} {i : Nat} (h : i < S.length) : (S ++ [a])[i]? = S[i]? := List.getElem?_append_left h
theorem fz_new {S : Store} {ds : List D} : fzD (.loc S.length) (S ++ [.lst ds]) = some (.lst ds, S ++ [.dead]) := by
  simp only [fzD, st_get, st_set]
theorem fz_str {S : Store} {s : List Nat} : fzD (.str s) S = some (.str s, S) := rfl
theorem app_new {S : Store} {ds : List D} {d : D} (h : ds.length < 100000) : appendD (S ++ [.lst ds]) (.loc S.length) [d] = some (.non, S ++ [.lst (ds ++ [d])]) := by
  simp only [appendD, st_get, st_set, if_pos h]
theorem atI_nat {α : Type} (xs : List α) (i : Nat) : atI xs (i : Int) = xs[i]? := by
  unfold atI ixN
  rw [if_pos (by omega)]
  by_cases h : (i : Int) < (xs.length : Int)
  · rw [if_pos h]; simp
  · rw [if_neg h]
    simp
    omega
theorem ixN_last {α : Type} (xs : List α) (x : α) : L2.ixN (xs ++ [x]).length (-1) = some xs.length := by
  unfold L2.ixN
  rw [if_neg (by decide), if_pos (by simp; omega), List.length_append]
  show some ((-1 + ((xs.length + 1 : Nat) : Int)).toNat) = _
  congr 1
  omega
theorem atI_last {α : Type} (xs : List α) (x : α) : atI (xs ++ [x]) (-1) = some x := by
  unfold atI
  rw [ixN_last]
  simp
theorem set_last {α : Type} (xs : List α) (x y : α) : (xs ++ [x]).set xs.length y = xs ++ [y] := by simp
theorem lc_map {ι : Type} {t : Tg} {rt : Ev → Store → Res Bool} {re : Ev → Store → Res D} {env : Ev} {S : Store} {A : List D → Store → Prop} {X : Nat → Store → Prop} (g f : ι → D) (l : List ι)
    (hs : ∀ i ∈ l, ∃ e1, t.set env (g i) = some e1 ∧ rt e1 S = .ok true S ∧ re e1 S = .ok (f i) S) (h : A (l.map f) S) : wp (lcGo t rt re env (l.map g) S) A X := by
  induction l generalizing A with
  | nil => exact lc_nil h
  | cons d ds ih =>
    obtain ⟨e1, q1, q2, q3⟩ := hs d List.mem_cons_self
    refine lc_cons ⟨e1, q1, ?_⟩
    rw [q2]
    refine wp_ok ⟨fun _ => ?_, fun h => nomatch h⟩
    rw [q3]
    exact wp_ok (ih (A := fun l S3 => A (f d :: l) S3) (fun d' hd => hs d' (List.mem_cons_of_mem _ hd)) h)
end L3
namespace L3
theorem tyL_new {S : Store} {ds : List D} : tyList (S ++ [.lst ds]) (.loc S.length) = true := by simp only [tyList, seqD, st_get]; rfl
theorem len_lt {ds : List D} {n : Nat} (h : Nat.ble (ds.length + 1) n = true) : ds.length < n := Nat.le_of_ble_eq_true h
end L3
namespace L3
section
variable {R : D → Store → Prop} {X : Nat → Store → Prop} {Z : Flow → Store → Prop} {S : Store}
theorem seqZ_nxs {k : Ev → Store → Prop} {env e : Ev} {i : Nat} {v : Option D} (he : env.set i v = e) (h : k e S) : seqZ Z k (.nx (env.set i v)) S := by subst he; exact h
theorem stepZ_nxs {k : Ev → Store → Prop} {env e : Ev} {i : Nat} {v : Option D} (he : env.set i v = e) (h : k e S) : stepZ Z k (.nx (env.set i v)) S := by subst he; exact h
theorem w_fn2 {n p : Nat} {body : SM} {ds : List D} {e : Ev} (he : ds.map some ++ List.replicate (n - p) none = e) (h : ws (body e S) (fnZ R X)) : wp (fnSem n p body S ds) R X := by
  subst he; exact w_fn h
end
end L3
namespace L3
theorem atI_zero {α : Type} (x : α) (xs : List α) : L2.atI (x :: xs) 0 = some x := by
  have h := atI_nat (x :: xs) 0
  simpa using h
end L3
namespace L3
open L2
theorem ixD_last {S : Store} {xs : List D} {x : D} : ixD (S ++ [.lst (xs ++ [x])]) (.loc S.length) (.int (-1)) = some x := by
  rw [ix_loc st_get, atI_last]
theorem getL_last {S : Store} {xs : List D} {x : D} : getLD (S ++ [.lst (xs ++ [x])]) (.loc S.length) (.int (-1)) = some x := by
  simp only [getLD, seqD, st_get]
  exact atI_last xs x
theorem set_new {S : Store} {xs : List D} {x v : D} : setD (S ++ [.lst (xs ++ [x])]) (.loc S.length) (.int (-1)) v = some (S ++ [.lst (xs ++ [v])]) := by
  show (match (S ++ [Cell.lst (xs ++ [x])])[S.length]? with
    | some (.lst ds) => (ixN ds.length (-1)).map fun m => (S ++ [Cell.lst (xs ++ [x])]).set S.length (.lst (ds.set m v))
    | _ => none) = _
  rw [st_get]
  show (ixN (xs ++ [x]).length (-1)).map _ = _
  rw [ixN_last]
  show some ((S ++ [Cell.lst (xs ++ [x])]).set S.length (.lst ((xs ++ [x]).set xs.length v))) = _
  rw [st_set]
  have e := set_last xs x v
  rw [e]
end L3
namespace L3
theorem ws_env {m : SM} {e e' : Ev} {S : Store} {Z : Flow → Store → Prop} (he : e = e') (h : ws (m e' S) Z) : ws (m e S) Z := by subst he; exact h
end L3
namespace L3
/-- a comprehension with a test, whose parts may leave things behind -/
theorem lc_test {ι : Type} {t : Tg} {rt : Ev → Store → Res Bool} {re : Ev → Store → Res D} {env : Ev} {S : Store} {A : List D → Store → Prop} {X : Nat → Store → Prop} (g f : ι → D) (p : ι → Bool) (l : List ι)
    (hs : ∀ i ∈ l, ∃ e1, t.set env (g i) = some e1 ∧ ∀ T, wp (rt e1 (S ++ T)) (fun b S1 => b = p i ∧ (∃ T', S1 = S ++ T') ∧ (b = true → wp (re e1 S1) (fun d S2 => d = f i ∧ ∃ T', S2 = S ++ T') fun _ _ => False)) fun _ _ => False)
    (h : ∀ T, A ((l.filter p).map f) (S ++ T)) : ∀ T, wp (lcGo t rt re env (l.map g) (S ++ T)) A X := by
  induction l generalizing A with
  | nil => exact fun T => lc_nil (h T)
  | cons d ds ih =>
    intro T
    obtain ⟨e1, q1, q2⟩ := hs d List.mem_cons_self
    refine lc_cons ⟨e1, q1, wp_mono (q2 T) (fun b S1 hb => ?_) fun _ _ z => z⟩
    obtain ⟨hb1, ⟨T', rfl⟩, hb2⟩ := hb
    refine ⟨fun e => ?_, fun e => ?_⟩
    · refine wp_mono (hb2 e) (fun v S2 hv => ?_) fun _ _ z => z
      obtain ⟨rfl, T2, rfl⟩ := hv
      refine ih (A := fun l S3 => A (f d :: l) S3) (fun d' hd => hs d' (List.mem_cons_of_mem _ hd)) (fun T3 => ?_) T2
      have q := h T3
      rw [List.filter_cons, if_pos (by rw [← hb1]; exact e)] at q
      exact q
    · refine ih (fun d' hd => hs d' (List.mem_cons_of_mem _ hd)) (fun T3 => ?_) T'
      have q := h T3
      rw [List.filter_cons, if_neg (by rw [← hb1, e]; decide)] at q
      exact q
/-- a comprehension whose element may leave things behind -/
theorem lc_each {ι : Type} {t : Tg} {re : Ev → Store → Res D} {env : Ev} {S : Store} {A : List D → Store → Prop} {X : Nat → Store → Prop} (g f : ι → D) (l : List ι)
    (hs : ∀ i ∈ l, ∃ e1, t.set env (g i) = some e1 ∧ ∀ T, wp (re e1 (S ++ T)) (fun d S2 => d = f i ∧ ∃ T', S2 = S ++ T') fun _ _ => False)
    (h : ∀ T, A (l.map f) (S ++ T)) : ∀ T, wp (lcGo t tYesR re env (l.map g) (S ++ T)) A X := by
  refine lc_test g f (fun _ => true) l (fun i hi => ?_) (fun T => ?_)
  · obtain ⟨e1, q1, q2⟩ := hs i hi
    exact ⟨e1, q1, fun T => w_tYes ⟨rfl, ⟨T, rfl⟩, fun _ => q2 T⟩⟩
  · rw [List.filter_eq_self.mpr fun _ _ => rfl]
    exact h T
end L3
namespace L3
theorem wp_env {α : Type} {m : Ev → Store → Res α} {e e' : Ev} {S : Store} {Q : α → Store → Prop} {X : Nat → Store → Prop} (he : e = e') (h : wp (m e' S) Q X) : wp (m e S) Q X := by subst he; exact h
end L3
namespace L3
def fzZ (i : Nat) (Z : Flow → Store → Prop) : Flow → Store → Prop := fun fl S1 => match fl with
  | .nx e => ∃ d d' S2, e[i]? = some (some d) ∧ fzD d S1 = some (d', S2) ∧ Z (.nx (e.set i (some d'))) S2
  | fl => Z fl S1
theorem s_sfz {i : Nat} {m : SM} {env : Ev} {S : Store} {Z : Flow → Store → Prop} (h : ws (m env S) (fzZ i Z)) : ws (sFz i m env S) Z := by
  rw [ws_e] at *
  unfold sFz
  cases e : m env S with
  | none => rw [e] at h; exact h.elim
  | some p =>
    rw [e] at h
    obtain ⟨fl, S1⟩ := p
    cases fl with
    | nx e1 =>
      obtain ⟨d, d', S2, h1, h2, h3⟩ := h
      dsimp only
      rw [h1]
      dsimp only
      rw [h2]
      exact h3
    | _ => exact h
end L3
namespace L3
theorem lc_test0 {ι : Type} {t : Tg} {rt : Ev → Store → Res Bool} {re : Ev → Store → Res D} {env : Ev} {S : Store} {A : List D → Store → Prop} {X : Nat → Store → Prop} (g f : ι → D) (p : ι → Bool) (l : List ι)
    (hs : ∀ i ∈ l, ∃ e1, t.set env (g i) = some e1 ∧ ∀ T, wp (rt e1 (S ++ T)) (fun b S1 => b = p i ∧ (∃ T', S1 = S ++ T') ∧ (b = true → wp (re e1 S1) (fun d S2 => d = f i ∧ ∃ T', S2 = S ++ T') fun _ _ => False)) fun _ _ => False)
    (h : ∀ T, A ((l.filter p).map f) (S ++ T)) : wp (lcGo t rt re env (l.map g) S) A X := by
  have q := lc_test (A := A) (X := X) g f p l hs h []
  rwa [List.append_nil] at q
theorem lc_each0 {ι : Type} {t : Tg} {re : Ev → Store → Res D} {env : Ev} {S : Store} {A : List D → Store → Prop} {X : Nat → Store → Prop} (g f : ι → D) (l : List ι)
    (hs : ∀ i ∈ l, ∃ e1, t.set env (g i) = some e1 ∧ ∀ T, wp (re e1 (S ++ T)) (fun d S2 => d = f i ∧ ∃ T', S2 = S ++ T') fun _ _ => False)
    (h : ∀ T, A (l.map f) (S ++ T)) : wp (lcGo t tYesR re env (l.map g) S) A X := by
  have q := lc_each (A := A) (X := X) g f l hs h []
  rwa [List.append_nil] at q
end L3
namespace L3
/-- a comprehension with an invariant on what is made and on the store -/
theorem lc_inv {t : Tg} {re : Ev → Store → Res D} {env : Ev} {A : List D → Store → Prop} {X : Nat → Store → Prop} (I : List D → Store → Prop) :
    ∀ (items : List D) (S : Store) (acc : List D), I acc S → (∀ d ∈ items, ∀ acc S, I acc S → ∃ e1, t.set env d = some e1 ∧ wp (re e1 S) (fun v S' => I (acc ++ [v]) S') fun _ _ => False) →
      (∀ l S', l.length = items.length → I (acc ++ l) S' → A l S') → wp (lcGo t tYesR re env items S) A X
  | [], S, acc, h0, _, h => lc_nil (h [] S rfl (by simpa using h0))
  | d :: ds, S, acc, h0, hs, h => by
    obtain ⟨e1, q1, q2⟩ := hs d List.mem_cons_self acc S h0
    refine lc_cons ⟨e1, q1, w_tYes ⟨fun _ => ?_, fun e => nomatch e⟩⟩
    refine wp_mono q2 (fun v S2 hv => ?_) fun _ _ z => z
    exact lc_inv (A := fun l S3 => A (v :: l) S3) I ds S2 (acc ++ [v]) hv (fun d' hd => hs d' (List.mem_cons_of_mem _ hd)) fun l S' hl hi => h (v :: l) S' (by simp [hl]) (by simpa using hi)
end L3
set_option Elab.async false
set_option linter.all false
set_option maxRecDepth 100000
set_option maxHeartbeats 2000000
/-! try, += of a list, dict displays: what they answer -/
namespace L3
open PySem PySem.Spec L2
def tryZ (n i j : Nat) (Z : Flow → Store → Prop) : Flow → Store → Prop := fun fl S => match fl with
  | .ex c env => c < n ∧ Z (.nx ((env.set j (some (.loc S.length))).set i none)) (S ++ [.exn c])
  | fl => Z fl S
section
variable {n i j : Nat} {Z : Flow → Store → Prop} {env e' : Ev} {S : Store} {m : SM}
theorem s_try (h : ws (m env S) (tryZ n i j Z)) : ws (sTry n i j m env S) Z := by
  rw [ws_e] at *
  unfold sTry
  cases e : m env S with
  | none => rw [e] at h; exact h.elim
  | some p =>
    rw [e] at h
    obtain ⟨fl, S1⟩ := p
    cases fl with
    | ex c e1 =>
      obtain ⟨h1, h2⟩ := h
      dsimp only
      rw [if_pos h1]
      exact h2
    | _ => exact h
theorem tryZ_nx (h : Z (.nx env) S) : tryZ n i j Z (.nx env) S := h
theorem tryZ_rt {d : D} (h : Z (.rt d) S) : tryZ n i j Z (.rt d) S := h
theorem tryZ_bk (h : Z (.bk env) S) : tryZ n i j Z (.bk env) S := h
theorem tryZ_ct (h : Z (.ct env) S) : tryZ n i j Z (.ct env) S := h
theorem tryZ_ex {c : Nat} (hc : c < n) (h : Z (.nx ((env.set j (some (.loc S.length))).set i none)) (S ++ [.exn c])) : tryZ n i j Z (.ex c env) S := ⟨hc, h⟩
theorem s_augL {k : Nat} {re : Ev → Store → Res D} (he : env[i]? = some (some (.loc k))) (h : wp (re env S) (fun y S1 => ∃ ds es, y = .lst es ∧ S1[k]? = some (.lst ds) ∧ ds.length + es.length ≤ 100000 ∧ Z (.nx (env.set i (some (.loc k)))) (S1.set k (.lst (ds ++ es)))) (fun c S1 => Z (.ex c env) S1)) : ws (sAugL i re env S) Z := by
  rw [ws_e]
  rw [wp_e] at h
  unfold sAugL rVar
  rw [he]
  show W0.ws0 ((re env S).st env _) Z
  cases e : re env S with
  | ok y S1 =>
    rw [e] at h
    obtain ⟨ds, es, rfl, h1, h2, h3⟩ := h
    show W0.ws0 (match (D.loc k), D.lst es with
      | .loc n, .lst es => match S1[n]? with
        | some (.lst ds) => if ds.length + es.length ≤ 100000 then some (Flow.nx (env.set i (some (.loc n))), S1.set n (.lst (ds ++ es))) else none
        | _ => none
      | _, _ => none) Z
    dsimp only
    rw [h1]
    dsimp only
    rw [if_pos h2]
    exact h3
  | exc c S1 => rw [e] at h; exact h
  | stuck => rw [e] at h; exact h.elim
theorem w_dct {ks : List (List Nat)} {rs : Ev → Store → Res (List D)} {Q : D → Store → Prop} {X : Nat → Store → Prop} (h : wp (rs env S) (fun xs S1 => xs.length = ks.length ∧ Q (.dct ks xs) S1) X) : wp (rDct ks rs env S) Q X := by
  simp only [wp_e] at *
  exact W0.wp_bind (W0.wp_mono h (fun xs S1 k => by rw [if_pos k.1]; exact k.2) fun _ _ z => z)
end
end L3
set_option Elab.async false
set_option linter.all false
set_option maxRecDepth 100000
set_option maxHeartbeats 2000000
/-! own classes: what they answer -/
namespace L3
open PySem PySem.Spec L2
section
variable {n i j c : Nat} {Q : D → Store → Prop} {X : Nat → Store → Prop} {Z : Flow → Store → Prop} {env : Ev} {S : Store} {m : FSem} {f nm : Str} {ra ro re : Ev → Store → Res D} {rs : Ev → Store → Res (List D)}
theorem s_fld (h : wp (re env S) (fun y S1 => wp (ro env S1) (fun x S2 => ∃ i fs, x = .loc i ∧ S2[i]? = some (.ins c fs) ∧ fs.length < 900 ∧ Z (.nx env) (S2.set i (.ins c (putA f y fs)))) (fun c S => Z (.ex c env) S)) (fun c S => Z (.ex c env) S)) : ws (sFld1 c f ro re env S) Z := by
  simp only [wp_e, ws_e] at *
  refine W0.ws_st (W0.wp_mono h (fun _ _ k => W0.ws_st (W0.wp_mono k (fun _ S2 ⟨i, fs, e, q, l, z⟩ => ?_) fun _ _ z => z)) fun _ _ z => z)
  subst e
  dsimp only
  rw [q]
  dsimp only
  rw [if_pos ⟨rfl, l⟩]
  exact z
theorem w_meth (h : wp (ra env S) (fun x S1 => ∃ i fs, x = .loc i ∧ S1[i]? = some (.ins c fs) ∧ fs.lookup nm = none ∧ wp (rs env S1) (fun xs S2 => wp (m S2 (.loc i :: xs)) Q X) X) X) : wp (rMeth c nm m ra rs env S) Q X := by
  simp only [wp_e, ws_e] at *
  refine W0.wp_bind (W0.wp_mono h (fun _ S1 ⟨i, fs, e, q, l, z⟩ => ?_) fun _ _ z => z)
  subst e
  dsimp only
  rw [q]
  dsimp only
  rw [if_pos ⟨rfl, by rw [l]; rfl⟩]
  exact W0.wp_bind z
theorem w_make (h : wp (rs env S) (fun xs S1 => wp (m (S1 ++ [.ins c []]) (.loc S1.length :: xs)) (fun r S2 => r = .non ∧ Q (.loc S1.length) S2) X) X) : wp (rMake c m rs env S) Q X := by
  simp only [wp_e, ws_e] at *
  refine W0.wp_bind (W0.wp_mono h (fun _ S1 k => W0.wp_bind (W0.wp_mono k (fun r S2 ⟨e, q⟩ => ?_) fun _ _ z => z)) fun _ _ z => z)
  subst e
  exact q
theorem w_lenO (h : wp (rs env S) (fun xs S1 => ∃ i fs, xs = [.loc i] ∧ S1[i]? = some (.ins c fs) ∧ wp (m S1 [.loc i]) (fun r S2 => ∃ n : Int, r = .int n ∧ (0 ≤ n ∧ n < 100000) ∧ Q (.int n) S2) X) X) : wp (rLenO c m rs env S) Q X := by
  simp only [wp_e, ws_e] at *
  refine W0.wp_bind (W0.wp_mono h (fun _ S1 ⟨i, fs, e, q, k⟩ => ?_) fun _ _ z => z)
  subst e
  dsimp only
  rw [q]
  dsimp only
  rw [if_pos rfl]
  refine W0.wp_bind (W0.wp_mono k (fun r S2 ⟨n, e, b, q⟩ => ?_) fun _ _ z => z)
  subst e
  dsimp only
  rw [if_pos b]
  exact q
theorem s_par3 {l : Nat} (h : wp (rs env S) (fun ds S1 => ∃ x y z, ds = [x, y, z] ∧ Z (.nx (((env.set i (some x)).set j (some y)).set l (some z))) S1) (fun c S => Z (.ex c env) S)) : ws (sPar3 i j l rs env S) Z := by
  simp only [wp_e, ws_e] at *
  exact W0.ws_st (W0.wp_mono h (fun _ _ ⟨x, y, z, e, q⟩ => by subst e; exact q) fun _ _ z => z)
theorem w_lcL {t : Tg} {rt : Ev → Store → Res Bool} {vs : List Nat} (h : wp (ra env S) (fun d S1 => ∃ k, d = .loc k ∧ wp (lcGoL k t rt re (wipeE env vs) 100001 0 S1) (fun l S2 => Q (.lst l) S2) X) X) : wp (rLcL t ra rt re vs env S) Q X := by
  simp only [wp_e, ws_e] at *
  refine W0.wp_bind (W0.wp_mono h (fun _ S1 ⟨k, e, q⟩ => ?_) fun _ _ z => z)
  subst e
  exact W0.wp_bind q
theorem lcL_end {t : Tg} {rt : Ev → Store → Res Bool} {A : List D → Store → Prop} {k : Nat} {ds : List D} (hk : S[k]? = some (.lst ds)) (hi : ds[i]? = none) (h : A [] S) : wp (lcGoL k t rt re env (n + 1) i S) A X := by
  simp only [wp_e, ws_e] at *
  unfold lcGoL
  rw [hk]
  dsimp only
  rw [hi]
  exact h
theorem lcL_cons {t : Tg} {rt : Ev → Store → Res Bool} {A : List D → Store → Prop} {k : Nat} {d : D} {ds : List D} (hk : S[k]? = some (.lst ds)) (hi : ds[i]? = some d)
    (h : ∃ e1, t.set env d = some e1 ∧ wp (rt e1 S) (fun b S1 => (b = true → wp (re e1 S1) (fun v S2 => wp (lcGoL k t rt re env n (i + 1) S2) (fun l S3 => A (v :: l) S3) X) (fun _ _ => False)) ∧ (b = false → wp (lcGoL k t rt re env n (i + 1) S1) A X)) (fun _ _ => False)) : wp (lcGoL k t rt re env (n + 1) i S) A X := by
  simp only [wp_e, ws_e] at *
  obtain ⟨e1, e, q⟩ := h
  unfold lcGoL
  rw [hk]
  dsimp only
  rw [hi]
  dsimp only
  rw [e]
  refine W0.wp_bind (W0.wp_noex (W0.wp_mono q (fun b S1 k => ?_) fun _ _ z => z))
  cases b with
  | false => exact k.2 rfl
  | true => exact W0.wp_bind (W0.wp_noex (W0.wp_mono (k.1 rfl) (fun v S2 k => W0.wp_bind k) fun _ _ z => z))
end
/-- a comprehension over a list of the store that nobody writes meanwhile -/
theorem lcL_test {ι : Type} {t : Tg} {rt : Ev → Store → Res Bool} {re : Ev → Store → Res D} {env : Ev} {S : Store} {A : List D → Store → Prop} {X : Nat → Store → Prop} (g f : ι → D) (p : ι → Bool) (l : List ι) {k : Nat} (hk : S[k]? = some (.lst (l.map g))) (hl : l.length ≤ 100000)
    (hs : ∀ i ∈ l, ∃ e1, t.set env (g i) = some e1 ∧ ∀ T, wp (rt e1 (S ++ T)) (fun b S1 => b = p i ∧ (∃ T', S1 = S ++ T') ∧ (b = true → wp (re e1 S1) (fun d S2 => d = f i ∧ ∃ T', S2 = S ++ T') fun _ _ => False)) fun _ _ => False)
    (h : ∀ T, A ((l.filter p).map f) (S ++ T)) : wp (lcGoL k t rt re env 100001 0 S) A X := by
  have kS : ∀ T, (S ++ T)[k]? = some (.lst (l.map g)) := fun T => by
    rw [List.getElem?_append_left (List.getElem?_eq_some_iff.mp hk).1, hk]
  suffices H : ∀ (m n i : Nat) (A : List D → Store → Prop) (T : Store), l.length - i = m → i ≤ l.length → m < n → (∀ T, A (((l.drop i).filter p).map f) (S ++ T)) → wp (lcGoL k t rt re env n i (S ++ T)) A X by
    have q := H l.length 100001 0 A [] (by omega) (by omega) (by omega) (by simpa using h)
    rwa [List.append_nil] at q
  intro m
  induction m with
  | zero =>
    intro n i A T hm hi hn hA
    obtain ⟨n, rfl⟩ : ∃ n', n = n' + 1 := ⟨n - 1, by omega⟩
    have q := hA T
    rw [List.drop_eq_nil_of_le (by omega)] at q
    exact lcL_end (kS T) (by rw [List.getElem?_map, List.getElem?_eq_none (by omega)]; rfl) q
  | succ m ih =>
    intro n i A T hm hi hn hA
    obtain ⟨n, rfl⟩ : ∃ n', n = n' + 1 := ⟨n - 1, by omega⟩
    have hlt : i < l.length := by omega
    obtain ⟨e1, q1, q2⟩ := hs l[i] (List.getElem_mem hlt)
    refine lcL_cons (kS T) (d := g l[i]) (by rw [List.getElem?_map, List.getElem?_eq_getElem hlt]; rfl) ⟨e1, q1, wp_mono (q2 T) (fun b S1 hb => ?_) fun _ _ z => z⟩
    obtain ⟨hb1, ⟨T', rfl⟩, hb2⟩ := hb
    rw [List.drop_eq_getElem_cons hlt] at hA
    refine ⟨fun e => ?_, fun e => ?_⟩
    · refine wp_mono (hb2 e) (fun v S2 hv => ?_) fun _ _ z => z
      obtain ⟨rfl, T2, rfl⟩ := hv
      refine ih n (i + 1) (fun l S3 => A (f _ :: l) S3) T2 (by omega) (by omega) (by omega) (fun T3 => ?_)
      have q := hA T3
      rw [List.filter_cons, if_pos (by rw [← hb1]; exact e)] at q
      exact q
    · refine ih n (i + 1) A T' (by omega) (by omega) (by omega) (fun T3 => ?_)
      have q := hA T3
      rw [List.filter_cons, if_neg (by rw [← hb1, e]; decide)] at q
      exact q
end L3
set_option hygiene false
local macro_rules | `(tactic| walk_at "runb") => `(tactic| first | (with_reducible first | refine w_var _ (by with_unfolding_all rfl) ?_ | refine seqZ_nxs (by simp only [List.set_cons_succ, List.set_cons_zero]; exact rfl) ?_ | refine stepZ_nxs (by simp only [List.set_cons_succ, List.set_cons_zero]; exact rfl) ?_ | refine s_seq ?_ | refine s_set ?_ | refine s_if ?_ | refine s_ret ?_ | refine s_expr ?_ | refine s_next ?_ | refine s_par ?_ | refine s_asg ?_ | refine s_setIx ?_ | refine s_augIx ?_ | refine s_aug ?_ | refine s_for ?_ | refine s_break ?_ | refine s_cont ?_ | refine s_raise ?_ | refine seqZ_nx ?_ | refine seqZ_rt ?_ | refine seqZ_ct ?_ | refine seqZ_bk ?_ | refine seqZ_ex ?_ | refine fnZ_nx ?_ | refine fnZ_rt ?_ | refine fnZ_ex ?_ | refine stepZ_nx ?_ | refine stepZ_rt ?_ | refine stepZ_ct ?_ | refine stepZ_bk ?_ | refine stepZ_ex ?_ | refine w_C ?_ | refine w_r2 ?_ | refine w_r1 ?_ | refine w_cons ?_ | refine w_nil ?_ | refine w_tup ?_ | refine w_lst ?_ | refine w_lstM ?_ | refine w_listM ?_ | refine w_if ?_ | refine w_tOf ?_ | refine w_tAnd ?_ | refine w_tOr ?_ | refine w_tNot ?_ | refine w_tYes ?_ | refine w_vAnd ?_ | refine w_vOr ?_ | refine w_vNot ?_ | refine w_chain ?_ | refine w_call ?_ | refine w_cb ?_ | refine w_oNone ?_ | refine w_oSome ?_ | refine w_sl ?_ | refine w_mt ?_ | refine w_fz ?_ | refine w_any ?_ | refine w_rng1 ?_ | refine w_rng2 ?_ | refine w_zip ?_ | refine w_enum ?_ | refine w_lc ?_ | refine w_lcM ?_ | refine lc_nil ?_ | refine go_nil ?_ | refine s_try ?_ | refine tryZ_nx ?_ | refine tryZ_rt ?_ | refine tryZ_bk ?_ | refine tryZ_ct ?_ | refine tryZ_ex (by decide) ?_ | refine w_dct ?_ | refine s_fld ?_ | refine w_meth ?_ | refine w_make ?_ | refine w_lenO ?_ | refine s_par3 ?_ | refine w_lcL ?_ | refine ⟨_, eqD_ii, ?_⟩ | refine ⟨_, eqD_ss, ?_⟩ | refine ⟨_, neD_ii, ?_⟩ | refine ⟨_, neD_ss, ?_⟩ | refine ⟨_, eqD_bb, ?_⟩ | refine ⟨_, isD_bb, ?_⟩ | refine ⟨_, ltDD_ii, ?_⟩ | refine ⟨_, add_ii, ?_⟩ | refine ⟨_, eqD_tupI, ?_⟩ | refine ⟨_, ltDD_tup, ?_⟩ | refine ⟨_, eqD_strs, ?_⟩ | refine ⟨_, neD_strs, ?_⟩ | refine ⟨_, inD2_str, ?_⟩ | refine ⟨_, neD_nil, ?_⟩ | refine ⟨_, eqD_nil, ?_⟩ | refine ⟨_, eqD_ints, ?_⟩ | refine ⟨_, neD_ints, ?_⟩ | refine ⟨_, ltDD_lst, ?_⟩ | refine ⟨Nat.le_of_ble_eq_true rfl, ?_⟩ | refine ⟨_, rfl, ?_⟩ | refine ⟨_, _, rfl, ?_⟩ | refine ⟨_, _, rfl, (by with_unfolding_all rfl : itemsOf _ = some _), ?_⟩ | refine ⟨_, (by with_unfolding_all rfl : ordD _ _ = some _), ?_⟩ | refine ⟨(by with_unfolding_all rfl : tyStr _ _ = true), ?_⟩ | refine ⟨_, (by with_unfolding_all rfl : negD _ _ = some _), ?_⟩ | refine ⟨_, (by with_unfolding_all rfl : isiD _ _ _ = some _), ?_⟩ | refine ⟨_, (by with_unfolding_all rfl : Tg.set _ _ _ = some _), ?_⟩) | (with_reducible refine ⟨fun hb => ?_, fun hb => ?_⟩ <;> (try simp only [decide_eq_true_eq, decide_eq_false_iff_not, Bool.not_eq_true', Bool.not_eq_false', reduceCtorEq] at hb) <;> (try (exfalso; revert hb; decide))) | fail)
set_option hygiene true
set_option Elab.async false
set_option linter.all false
set_option maxRecDepth 100000
set_option maxHeartbeats 4000000
namespace G
open PySem PySem.Spec L2 L3
noncomputable section
variable {Q : D → Store → Prop} {X : Nat → Store → Prop} {S : Store}
abbrev sApart : List Nat := [97, 112, 97, 114, 116]
abbrev sMixed : List Nat := [109, 105, 120, 101, 100]
abbrev sTogether : List Nat := [116, 111, 103, 101, 116, 104, 101, 114]
abbrev sLast : List Nat := [108, 97, 115, 116]
abbrev sSigns : List Nat := [115, 105, 103, 110, 115]
abbrev sNumbers : List Nat := [110, 117, 109, 98, 101, 114, 115]
abbrev sStrict : List Nat := [115, 116, 114, 105, 99, 116]
abbrev sAhead : List Nat := [97, 104, 101, 97, 100]
abbrev sBehind : List Nat := [98, 101, 104, 105, 110, 100]
abbrev sFirst : List Nat := [102, 105, 114, 115, 116]
abbrev sFig : List Nat := [48, 49, 50, 51, 52, 53, 54, 55, 56, 57]
def isSign (c : Nat) : Bool := isDig c || isUp c || isLo c || decide (c = 95)
theorem mem_fig {c : Nat} : c ∈ sFig ↔ isDig c = true := by
  simp [isDig]; omega
def rankM (cs br : List Nat) (c : Nat) : List Int :=
  if c = 95 then [if br = sAhead then 0 else 3, 0, 0]
  else if isDig c = true then [1, (c : Int) - 48, 0]
  else if cs = sApart then [2, if isUp c = true then 0 else 1, c]
  else [2, loA c, if cs = sMixed then (if isUp c = true then 0 else 1) else 0]
theorem sign_lt {c : Nat} (h : isSign c = true) : c < 128 := by
  simp [isSign, isDig, isUp, isLo] at h; omega
theorem asc1 {c : Nat} (h : c < 128) : asc [c] = true := by simp [asc, h]
theorem low_up : ∀ c, c < 128 → (([c] : List Nat) = [c].map loA ↔ isUp c = false) := by decide +kernel
theorem rank_w {cs br en : List Nat} {num : Int} {c : Nat} (hc : isSign c = true) (h : ∀ d, d = .tup ((rankM cs br c).map .int) → Q d S) :
    wp (m_rank_of S [.tup [.str cs, .int num, .str br, .str en], .str [c]]) Q X := by
  have h1 : c < 128 := sign_lt hc
  have a1 := asc1 h1
  unfold m_rank_of b_rank_of
  with_reducible refine w_fn2 (by simp only [List.map_cons, List.map_nil, List.replicate, List.cons_append, List.nil_append, Nat.reduceSub]; exact rfl) ?_
  repeat' first
   | with_reducible refine ⟨_, _, lower_s ⟨a1, by simp⟩, ?_⟩
   | (with_reducible refine ⟨_, int_s ⟨by simpa [figs, isDig] using mem_fig.mp hb, by simp⟩, ?_⟩)
   | walk_at "runb"
   | fail
  all_goals refine h _ ?_
  all_goals (try simp only [low_up c h1] at *)
  all_goals clear h a1 hc h1
  all_goals simp only [rankM, List.cons.injEq, and_true, mem_fig, Bool.not_eq_false] at *
  all_goals simp_all [digV]
  simp [isDig] at *
  omega
/-- pieces of a text -/
def lastDig (acc : List (List Nat)) : Bool := match acc.getLast? with
  | some p => p.all isDig
  | none => false
def addLast (acc : List (List Nat)) (c : Nat) : List (List Nat) := match acc.getLast? with
  | some p => acc.dropLast ++ [p ++ [c]]
  | none => [[c]]
def stepC (b : Bool) (acc : List (List Nat)) (c : Nat) : List (List Nat) := if b = true ∧ isDig c = true ∧ lastDig acc = true then addLast acc c else acc ++ [[c]]
def cutM (b : Bool) (s : List Nat) : List (List Nat) := s.foldl (stepC b) []
theorem cut_snoc (b : Bool) (s : List Nat) (c : Nat) : cutM b (s ++ [c]) = stepC b (cutM b s) c := by simp [cutM, List.foldl_append]
theorem step_last (b : Bool) (acc : List (List Nat)) (c : Nat) : ∃ acc' p, stepC b acc c = acc' ++ [p ++ [c]] ∧ (p ++ [c]).all isDig = isDig c := by
  unfold stepC
  by_cases h : b = true ∧ isDig c = true ∧ lastDig acc = true
  · rw [if_pos h]
    obtain ⟨h1, h2, h3⟩ := h
    unfold lastDig at h3
    unfold addLast
    cases e : acc.getLast? with
    | none => rw [e] at h3; cases h3
    | some p =>
      rw [e] at h3
      have h3 : p.all isDig = true := h3
      exact ⟨acc.dropLast, p, rfl, by rw [List.all_append, h3]; simp [h2]⟩
  · rw [if_neg h]
    exact ⟨acc, [], rfl, by simp⟩
theorem cut_last (b : Bool) (s : List Nat) (c : Nat) : ∃ acc p, cutM b (s ++ [c]) = acc ++ [p] ∧ p.all isDig = isDig c := by
  rw [cut_snoc]
  obtain ⟨a, p, h1, h2⟩ := step_last b (cutM b s) c
  exact ⟨a, _, h1, h2⟩
theorem lastDig_snoc (acc : List (List Nat)) (p : List Nat) : lastDig (acc ++ [p]) = p.all isDig := by simp [lastDig]
theorem addLast_snoc (acc : List (List Nat)) (p : List Nat) (c : Nat) : addLast (acc ++ [p]) c = acc ++ [p ++ [c]] := by simp [addLast]
theorem cut_len (b : Bool) (s : List Nat) : (cutM b s).length ≤ s.length := by
  suffices h : ∀ (s : List Nat) (acc : List (List Nat)), (s.foldl (stepC b) acc).length ≤ acc.length + s.length by simpa [cutM] using h s []
  intro s
  induction s with
  | nil => simp
  | cons c s ih =>
    intro acc
    rw [List.foldl_cons]
    have h := ih (stepC b acc c)
    have q : (stepC b acc c).length ≤ acc.length + 1 := by
      unfold stepC
      split
      · unfold addLast
        cases e : acc.getLast? with
        | none => simp
        | some p => simp <;> omega
      · simp
    simp only [List.length_cons]
    omega
theorem cut_join (b : Bool) (s : List Nat) : (cutM b s).flatten = s := by
  suffices h : ∀ (s : List Nat) (acc : List (List Nat)), (s.foldl (stepC b) acc).flatten = acc.flatten ++ s by simpa [cutM] using h s []
  intro s
  induction s with
  | nil => simp
  | cons c s ih =>
    intro acc
    rw [List.foldl_cons, ih]
    have q : (stepC b acc c).flatten = acc.flatten ++ [c] := by
      unfold stepC
      split
      · rename_i h
        unfold addLast
        cases e : acc.getLast? with
        | none => rw [List.getLast?_eq_none_iff] at e; subst e; simp
        | some p =>
          obtain ⟨hne, rfl⟩ := List.getLast?_eq_some_iff.mp e |>.elim fun ys h => (⟨ys, h⟩ : ∃ ys, acc = ys ++ [p])
          simp
      · simp
    rw [q]; simp
/-- what a piece is -/
def Piece (p : List Nat) : Prop := (p ≠ [] ∧ p.all isDig = true) ∨ ∃ c, p = [c] ∧ isDig c = false
theorem cut_pieces (b : Bool) (s : List Nat) (hs : s.all isSign = true) : ∀ p ∈ cutM b s, Piece p ∧ p.all isSign = true := by
  suffices h : ∀ (s : List Nat) (acc : List (List Nat)), s.all isSign = true → (∀ p ∈ acc, Piece p ∧ p.all isSign = true) → ∀ p ∈ s.foldl (stepC b) acc, Piece p ∧ p.all isSign = true from h s [] hs (by simp)
  intro s
  induction s with
  | nil => exact fun acc _ h => h
  | cons c s ih =>
    intro acc hs ha
    rw [List.all_cons, Bool.and_eq_true] at hs
    rw [List.foldl_cons]
    refine ih _ hs.2 ?_
    unfold stepC
    split
    · rename_i h
      obtain ⟨h1, h2, h3⟩ := h
      unfold lastDig at h3
      unfold addLast
      cases e : acc.getLast? with
      | none => rw [e] at h3; cases h3
      | some p =>
        rw [e] at h3
        have h3 : p.all isDig = true := h3
        obtain ⟨ys, rfl⟩ := List.getLast?_eq_some_iff.mp e
        intro q hq
        simp only [List.dropLast_concat, List.mem_append, List.mem_singleton] at hq
        rcases hq with hq | rfl
        · exact ha q (by simp [hq])
        · refine ⟨.inl ⟨by simp, by rw [List.all_append, h3]; simp [h2]⟩, ?_⟩
          rw [List.all_append, (ha p (by simp)).2]
          simp [hs.1]
    · intro q hq
      rcases List.mem_append.mp hq with hq | hq
      · exact ha q hq
      · rw [List.mem_singleton.mp hq]
        refine ⟨?_, by simp [hs.1]⟩
        cases e : isDig c with
        | true => exact .inl ⟨by simp, by simp [e]⟩
        | false => exact .inr ⟨c, rfl, e⟩
end
end G
set_option Elab.async false
set_option linter.all false
set_option maxRecDepth 100000
set_option maxHeartbeats 400000
namespace G
open PySem PySem.Spec L2 L3
noncomputable section
variable {Q : D → Store → Prop} {X : Nat → Store → Prop} {S : Store}
abbrev signs (s : List Nat) : List D := s.map fun c => .str [c]
theorem text_w {s : List Nat} (hl : s.length ≤ 100000) (h : ∀ d, d = .bl (decide (s.length ≤ 40) && s.all isSign) → Q d S) : wp (m_is_text S [.str s]) Q X := by
  unfold m_is_text b_is_text
  with_reducible refine w_fn2 (by simp only [List.map_cons, List.map_nil, List.replicate, List.cons_append, List.nil_append, Nat.reduceSub]; exact rfl) ?_
  repeat' first
   | with_reducible refine ⟨_, len_s hl, ?_⟩
   | with_reducible refine ⟨_, (rfl : gtD _ _ _ = some _), ?_⟩
   | (with_reducible refine w_lc ?_; fail)
   | walk_at "runb"
   | fail
  · refine h _ ?_
    simp
    omega
  · refine .inr (.inr ⟨_, rfl, by simpa using hl, ?_⟩)
    refine lc_map (fun c => D.str [c]) (fun c => D.bl (isSign c)) s (fun c _ => ⟨_, rfl, rfl, ?_⟩) ?_
    · refine wp_eq ?_
      repeat' first
       | refine ⟨_, add_ss (Nat.le_of_ble_eq_true rfl), ?_⟩
       | walk_at "runb"
       | fail
      refine ⟨?_, rfl⟩
      congr 1
      rw [Bool.eq_iff_iff, decide_eq_true_eq]
      simp [isSign, isDig, isUp, isLo]
      omega
    · refine w_nil ⟨_, congrArg (Option.map _) (bls_map _ _), h _ ?_⟩
      simp [show s.length ≤ 40 by omega]
theorem is_int_w {v : Int} (h : ∀ d, d = .bl (decide (0 ≤ v ∧ v ≤ 1)) → Q d S) : wp (m_is_int S [.int v, .int 0, .int 1]) Q X := by
  unfold m_is_int b_is_int
  with_reducible refine w_fn2 (by simp only [List.map_cons, List.map_nil, List.replicate, List.cons_append, List.nil_append, Nat.reduceSub]; exact rfl) ?_
  repeat' first
   | with_reducible refine ⟨_, (rfl : leD _ _ _ = some _), ?_⟩
   | walk_at "runb"
   | fail
  all_goals refine h _ ?_
  all_goals simp [hb]
theorem check_text_w {s : List Nat} (hl : s.length ≤ 40) (hs : s.all isSign = true) (h : Q .non S) : wp (m_check_text S [.str s]) Q X := by
  unfold m_check_text b_check_text
  with_reducible refine w_fn2 (by simp only [List.map_cons, List.map_nil, List.replicate, List.cons_append, List.nil_append, Nat.reduceSub]; exact rfl) ?_
  repeat' first
   | ((with_reducible refine text_w (Nat.le_trans hl (by decide)) fun _ hd => ?_) ; subst hd)
   | walk_at "runb"
   | fail
  · simp [hl, hs] at hb
  · exact h
theorem is_word_w {x : List Nat} {ws : List (List Nat)} (h : ∀ d, d = .bl (decide (x ∈ ws)) → Q d S) : wp (m_is_word S [.str x, .tup (ws.map .str)]) Q X := by
  unfold m_is_word b_is_word
  with_reducible refine w_fn2 (by simp only [List.map_cons, List.map_nil, List.replicate, List.cons_append, List.nil_append, Nat.reduceSub]; exact rfl) ?_
  repeat' first
   | (refine ⟨_, inD2_tup (pl_str 0 _) (by rw [List.all_map, List.all_eq_true]; exact fun x _ => pl_str 0 x), ?_⟩)
   | walk_at "runb"
   | fail
  all_goals refine h _ ?_
  all_goals simp
/-- a rule of the program -/
structure RV (cs fg br en : List Nat) (tn : Int) : Prop where
  cs : cs ∈ [sApart, sMixed, sTogether, sLast]
  fg : fg ∈ [sSigns, sNumbers, sStrict]
  br : br ∈ [sAhead, sBehind]
  en : en ∈ [sFirst, sBehind]
  tn : tn = 0 ∨ tn = 1
abbrev ruleD (cs fg br en : List Nat) (tn : Int) : D := .tup [.str cs, .str fg, .str br, .str en, .int tn]
variable {cs fg br en : List Nat} {tn : Int}
theorem is_rule_w (r : RV cs fg br en tn) (h : Q (.bl true) S) : wp (m_is_rule S [ruleD cs fg br en tn]) Q X := by
  obtain ⟨h1, h2, h3, h4, h5⟩ := r
  unfold m_is_rule b_is_rule
  with_reducible refine w_fn2 (by simp only [List.map_cons, List.map_nil, List.replicate, List.cons_append, List.nil_append, Nat.reduceSub]; exact rfl) ?_
  repeat' first
   | (with_reducible refine ⟨_, len_t, ?_⟩)
   | ((with_reducible refine is_word_w fun _ hd => ?_) ; subst hd)
   | ((with_reducible refine is_int_w fun _ hd => ?_) ; subst hd)
   | walk_at "runb"
   | fail
  all_goals first | exact absurd (by assumption) hb | (exfalso; simp at hb; done) | skip
  · exact absurd h1 (by assumption)
  · have e : (decide (0 ≤ tn ∧ tn ≤ 1)) = true := by simp; omega
    rw [e]; exact h
theorem check_rule_w (r : RV cs fg br en tn) (h : Q .non S) : wp (m_check_rule S [ruleD cs fg br en tn]) Q X := by
  unfold m_check_rule b_check_rule
  with_reducible refine w_fn2 (by simp only [List.map_cons, List.map_nil, List.replicate, List.cons_append, List.nil_append, Nat.reduceSub]; exact rfl) ?_
  repeat' first
   | with_reducible refine is_rule_w r ?_
   | walk_at "runb"
   | fail
  exact h
/-- the looks of a rule -/
def numOf (fg : List Nat) : Bool := decide (fg ≠ sSigns)
def csOf (cs : List Nat) : List Nat := if cs = sLast then sTogether else cs
abbrev lookD (cs : List Nat) (n : Bool) (br en : List Nat) : D := .tup [.str cs, .int (if n = true then 1 else 0), .str br, .str en]
def looksM (cs fg : List Nat) : List (List Nat × Bool) :=
  [(csOf cs, numOf fg)] ++ (if fg = sStrict then [(csOf cs, false)] else []) ++ (if cs = sLast then [(sMixed, numOf fg)] else [])
theorem looks_w (h : ∀ d, d = .lst ((looksM cs fg).map fun p => lookD p.1 p.2 br en) → Q d (S ++ [.dead])) : wp (m_looks_of S [ruleD cs fg br en tn]) Q X := by
  unfold m_looks_of b_looks_of
  with_reducible refine w_fn2 (by simp only [List.map_cons, List.map_nil, List.replicate, List.cons_append, List.nil_append, Nat.reduceSub]; exact rfl) ?_
  repeat' first
   | with_reducible refine ⟨_, _, app_new (len_lt rfl), ?_⟩
   | with_reducible refine ⟨tyL_new, ?_⟩
   | with_reducible refine ⟨_, _, fz_new, ?_⟩
   | walk_at "runb"
   | fail
  all_goals refine h _ ?_
  all_goals clear h
  all_goals simp_all [looksM, csOf, numOf]
theorem sign_w (h : ∀ d, d = .int (if tn = 1 then -1 else 1) → Q d S) : wp (m_sign_of S [ruleD cs fg br en tn]) Q X := by
  unfold m_sign_of b_sign_of
  with_reducible refine w_fn2 (by simp only [List.map_cons, List.map_nil, List.replicate, List.cons_append, List.nil_append, Nat.reduceSub]; exact rfl) ?_
  repeat' first
   | walk_at "runb"
   | fail
  all_goals refine h _ ?_
  all_goals simp [hb]
end
end G
set_option Elab.async false
set_option linter.all false
set_option maxRecDepth 100000
set_option maxHeartbeats 400000
namespace G
open PySem PySem.Spec L2 L3
noncomputable section
variable {Q : D → Store → Prop} {X : Nat → Store → Prop} {S : Store} {cs fg br en : List Nat} {tn : Int}
def eM (en : List Nat) : Int := if en = sFirst then -1 else 1
theorem by_rank_c {n : Bool} {c d : Nat} (hc : isSign c = true) (hd : isSign d = true) (h : ∀ r, r = .int (cmpL (rankM cs br c) (rankM cs br d)) → Q r S) : wp (m_by_rank S [lookD cs n br en, .str [c], .str [d]]) Q X := by
  unfold m_by_rank b_by_rank
  with_reducible refine w_fn2 (by simp only [List.map_cons, List.map_nil, List.replicate, List.cons_append, List.nil_append, Nat.reduceSub]; exact rfl) ?_
  repeat' first
   | ((with_reducible refine rank_w hc fun _ hd => ?_) ; subst hd)
   | ((with_reducible refine rank_w hd fun _ hd => ?_) ; subst hd)
   | walk_at "runb"
   | fail
  all_goals refine h _ ?_
  all_goals simp only [cmpL_lt]
  all_goals simp_all
theorem by_rank_l {n : Bool} {c : Nat} (h : ∀ r, r = .int (eM en) → Q r S) : wp (m_by_rank S [lookD cs n br en, .str [], .str [c]]) Q X := by
  unfold m_by_rank b_by_rank
  with_reducible refine w_fn2 (by simp only [List.map_cons, List.map_nil, List.replicate, List.cons_append, List.nil_append, Nat.reduceSub]; exact rfl) ?_
  repeat' first
   | walk_at "runb"
   | fail
  all_goals refine h _ ?_
  all_goals simp_all [eM]
theorem by_rank_r {n : Bool} {c : Nat} (h : ∀ r, r = .int (-eM en) → Q r S) : wp (m_by_rank S [lookD cs n br en, .str [c], .str []]) Q X := by
  unfold m_by_rank b_by_rank
  with_reducible refine w_fn2 (by simp only [List.map_cons, List.map_nil, List.replicate, List.cons_append, List.nil_append, Nat.reduceSub]; exact rfl) ?_
  repeat' first
   | walk_at "runb"
   | fail
  all_goals refine h _ ?_
  all_goals simp_all [eM]
/-- the key of a piece -/
def keyP (cs br : List Nat) (p : List Nat) : List Int := match p with
  | [] => []
  | c :: _ => if isDig c = true then [1, (digV p : Int), 0] else rankM cs br c
theorem piece_cases {p : List Nat} (h : Piece p) : ∃ c r, p = c :: r ∧ (isDig c = true → p.all isDig = true) ∧ (isDig c = false → r = []) := by
  rcases h with ⟨h1, h2⟩ | ⟨c, rfl, h⟩
  · cases p with
    | nil => exact absurd rfl h1
    | cons c r =>
      have h3 := h2
      rw [List.all_cons, Bool.and_eq_true] at h3
      exact ⟨c, r, rfl, fun _ => h2, fun e => by rw [h3.1] at e; cases e⟩
  · exact ⟨c, [], rfl, fun e => absurd (h.symm.trans e) (by decide), fun _ => rfl⟩
theorem dig_sign {c : Nat} (h : isDig c = true) : isSign c = true := by simp [isSign, h]
theorem rank_dig {c : Nat} (h : isDig c = true) : rankM cs br c = [1, (c : Int) - 48, 0] := by
  unfold rankM
  rw [if_neg (by intro e; subst e; cases h), if_pos h]
theorem rank_nd {c : Nat} (h : isDig c = false) : ∃ a b d, rankM cs br c = [a, b, d] ∧ a ≠ 1 := by
  unfold rankM
  split
  · refine ⟨_, _, _, rfl, ?_⟩; split <;> decide
  · rw [if_neg (by rw [h]; decide)]
    split <;> exact ⟨_, _, _, rfl, by decide⟩
theorem figs_all {s : List Nat} (h : s ≠ []) (h2 : s.all isDig = true) : figs s = true := by
  have e : s.isEmpty = false := by cases s; exact absurd rfl h; rfl
  unfold figs
  rw [e]
  exact h2
theorem key_nd {c d : Nat} {cr dr : List Nat} (hc : isDig c = false) : cmpL (rankM cs br c) (rankM cs br d) = cmpL (keyP cs br (c :: cr)) (keyP cs br (d :: dr)) := by
  cases hd : isDig d with
  | false => simp [keyP, hc, hd]
  | true =>
    obtain ⟨a, b, e, h1, h2⟩ := rank_nd (cs := cs) (br := br) hc
    simp only [keyP, hc, hd, h1, rank_dig hd, cmpL_cons, if_neg h2]
    simp [h2, cmpL_cons]
theorem key_dn {c d : Nat} {cr dr : List Nat} (hd : isDig d = false) : cmpL (rankM cs br c) (rankM cs br d) = cmpL (keyP cs br (c :: cr)) (keyP cs br (d :: dr)) := by
  rw [TC.ints.sw, TC.ints.sw (keyP cs br (d :: dr)), key_nd hd]
theorem key_dd {c d : Nat} {cr dr : List Nat} (hc : isDig c = true) (hd : isDig d = true) : cmpL (keyP cs br (c :: cr)) (keyP cs br (d :: dr)) = if (digV (c :: cr) : Int) = digV (d :: dr) then 0 else if (digV (c :: cr) : Int) < digV (d :: dr) then -1 else 1 := by
  simp only [keyP, hc, hd, if_true, cmpL_cons, if_true]
  rfl
theorem nfig {c : Nat} (h : ¬ c ∈ sFig) : isDig c = false := by
  rw [mem_fig] at h
  simpa using h
theorem by_piece_w {n : Bool} {p q : List Nat} (hp : Piece p) (hq : Piece q) (sp : p.all isSign = true) (sq : q.all isSign = true) (lp : p.length ≤ 640) (lq : q.length ≤ 640) (h : ∀ r, r = .int (cmpL (keyP cs br p) (keyP cs br q)) → Q r S) :
    wp (m_by_piece S [lookD cs n br en, .str p, .str q]) Q X := by
  obtain ⟨c, cr, rfl, c1, c2⟩ := piece_cases hp
  obtain ⟨d, dr, rfl, d1, d2⟩ := piece_cases hq
  have sc : isSign c = true := by simp at sp; exact sp.1
  have sd : isSign d = true := by simp at sq; exact sq.1
  have i1 : ixD S (.str (c :: cr)) (.int 0) = some (.str [c]) := by rw [ix_s (by omega), atI_zero]; rfl
  have i2 : ixD S (.str (d :: dr)) (.int 0) = some (.str [d]) := by rw [ix_s (by omega), atI_zero]; rfl
  unfold m_by_piece b_by_piece
  with_reducible refine w_fn2 (by simp only [List.map_cons, List.map_nil, List.replicate, List.cons_append, List.nil_append, Nat.reduceSub]; exact rfl) ?_
  repeat' first
   | with_reducible refine ⟨_, i1, ?_⟩
   | with_reducible refine ⟨_, i2, ?_⟩
   | (refine ⟨_, int_s ⟨figs_all (by simp) (c1 (mem_fig.mp (by assumption))), lp⟩, ?_⟩)
   | (refine ⟨_, int_s ⟨figs_all (by simp) (d1 (mem_fig.mp (by assumption))), lq⟩, ?_⟩)
   | ((with_reducible refine by_rank_c sc sd fun _ hd => ?_) ; subst hd)
   | walk_at "runb"
   | fail
  all_goals refine h _ ?_
  · rw [key_dd (mem_fig.mp (by assumption)) (mem_fig.mp (by assumption)), if_pos (by assumption)]
  · rw [key_dd (mem_fig.mp (by assumption)) (mem_fig.mp (by assumption)), if_neg (by assumption), if_pos (by assumption)]
  · rw [key_dd (mem_fig.mp (by assumption)) (mem_fig.mp (by assumption)), if_neg (by assumption), if_neg (by assumption)]
  · rw [key_dn (nfig (by assumption))]
  · rw [key_nd (nfig (by assumption))]
theorem cut_w {s : List Nat} {n : Bool} (hl : s.length ≤ 1000) (h : ∀ r, r = .lst ((cutM n s).map .str) → Q r (S ++ [.dead])) : wp (m_cut S [.str s, .int (if n = true then 1 else 0)]) Q X := by
  unfold m_cut b_cut
  with_reducible refine w_fn2 (by simp only [List.map_cons, List.map_nil, List.replicate, List.cons_append, List.nil_append, Nat.reduceSub]; exact rfl) ?_
  repeat' first
   | with_reducible refine go_inv (fun items e S1 => ∃ pre rest x y, s = pre ++ rest ∧ items = enumFrom pre.length (signs rest) ∧ e = [some (.str s), some (.int (if n = true then 1 else 0)), some (.loc S.length), x, y] ∧ S1 = S ++ [.lst ((cutM n pre).map .str)]) ?_ ?_ _ _ _ ⟨[], s, _, _, rfl, rfl, rfl, rfl⟩
   | walk_at "runb"
   | fail
  · rintro e S1 ⟨pre, rest, x, y, hs, hi, rfl, rfl⟩
    cases rest with
    | cons c rest => cases hi
    | nil =>
      rw [List.append_nil] at hs
      subst hs
      repeat' first
       | with_reducible refine ⟨_, _, fz_new, ?_⟩
       | walk_at "runb"
       | fail
      exact h _ rfl
  · rintro d ds e S1 ⟨pre, rest, x, y, hs, hi, rfl, rfl⟩
    cases rest with
    | nil => cases hi
    | cons c rest =>
      cases hi
      refine ⟨_, rfl, ?_⟩
      have hs2 : s = (pre ++ [c]) ++ rest := by rw [hs]; simp
      have hlen : pre.length + rest.length + 1 ≤ 1000 := by rw [hs] at hl; simp at hl; omega
      with_reducible refine ws_env (by simp only [List.set_cons_succ, List.set_cons_zero]; exact rfl) ?_
      rcases List.eq_nil_or_concat pre with rfl | ⟨pre, b, rfl⟩
      · clear h
        repeat' first
         | with_reducible refine ⟨_, (rfl : gtD _ _ _ = some _), ?_⟩
         | with_reducible refine ⟨tyL_new, ?_⟩
         | with_reducible refine ⟨_, _, app_new (len_lt rfl), ?_⟩
         | walk_at "runb"
         | fail
        all_goals exact ⟨[] ++ [c], rest, _, _, hs2, by simp, rfl, by simp [cutM, stepC, lastDig]⟩
      · simp only [List.concat_eq_append] at *
        obtain ⟨acc, p, ha, hp⟩ := cut_last n pre b
        have hq : (cutM n (pre ++ [b])).map D.str = acc.map D.str ++ [.str p] := by rw [ha]; simp
        have ix : ixD (S ++ [.lst (acc.map D.str ++ [.str p])]) (.str s) (.int (((pre ++ [b]).length : Int) - 1)) = some (.str [b]) := by
          rw [ix_s (by omega)]
          have e : (((pre ++ [b]).length : Int) - 1) = ((pre.length : Nat) : Int) := by simp
          rw [e, L3.atI_nat, hs]
          simp
        have al : (acc.map D.str ++ [D.str p]).length ≤ 1000 := by
          rw [← hq]
          have := cut_len n (pre ++ [b])
          simp at this hlen ⊢
          omega
        have pl : p.length ≤ 1000 := by
          have e := congrArg List.length (cut_join n (pre ++ [b]))
          rw [ha] at e
          simp at e hlen
          omega
        have fin : ∀ {e' : Ev} {x y : Option D} {ds : List D}, e' = [some (.str s), some (.int (if n = true then 1 else 0)), some (.loc S.length), x, y] → ds = (cutM n (pre ++ [b] ++ [c])).map D.str →
          ∃ pre_1 rest_1 x y, s = pre_1 ++ rest_1 ∧ enumFrom ((pre ++ [b]).length + 1) (signs rest) = enumFrom pre_1.length (signs rest_1) ∧ e' = [some (.str s), some (.int (if n = true then 1 else 0)), some (.loc S.length), x, y] ∧ S ++ [Cell.lst ds] = S ++ [Cell.lst ((cutM n pre_1).map D.str)] :=
          fun h1 h2 => ⟨pre ++ [b] ++ [c], rest, _, _, hs2, by simp, h1, by rw [h2]⟩
        have ad : ∀ S, iaddD S (.str p) (.str [c]) = some (.str (p ++ [c])) := fun S => if_pos (by simp; omega)
        have al2 : (acc.map D.str ++ [D.str p]).length < 100000 := by omega
        rw [cut_snoc, ha] at fin
        rw [hq]
        repeat' first
         | with_reducible refine ⟨_, (rfl : gtD _ _ _ = some _), ?_⟩
         | with_reducible refine ⟨_, (rfl : subD _ _ _ = some _), ?_⟩
         | with_reducible refine ⟨_, ix, ?_⟩
         | with_reducible refine ⟨tyL_new, ?_⟩
         | with_reducible refine ⟨_, _, app_new al2, ?_⟩
         | with_reducible refine ⟨_, getL_last, ?_⟩
         | with_reducible refine ⟨_, set_new, ?_⟩
         | with_reducible refine ⟨_, ad _, ?_⟩
         | walk_at "runb"
         | fail
        all_goals refine fin rfl ?_
        all_goals unfold stepC
        all_goals rw [lastDig_snoc, hp, addLast_snoc]
        all_goals clear fin ad al2 ix al pl hq ha hs hs2 hlen h hl
        all_goals (try simp only [mem_fig] at *)
        all_goals cases n <;> simp_all
end
end G
set_option Elab.async false
set_option linter.all false
set_option maxRecDepth 100000
set_option maxHeartbeats 400000
namespace G
open PySem PySem.Spec L2 L3
noncomputable section
variable {Q : D → Store → Prop} {X : Nat → Store → Prop} {S : Store} {cs fg br en : List Nat} {tn : Int}
def cmpP (cs br p q : List Nat) : Int := cmpL (keyP cs br p) (keyP cs br q)
def lookM (cs : List Nat) (n : Bool) (br en a b : List Nat) : Int := lexM (cmpP cs br) (eM en) (cutM n a) (cutM n b)
def allM (br en a b : List Nat) : List (List Nat × Bool) → Int
  | [] => 0
  | p :: ls => if lookM p.1 p.2 br en a b = 0 then allM br en a b ls else lookM p.1 p.2 br en a b
def toldM (cs fg br en : List Nat) (tn : Int) (a b : List Nat) : Int := (if tn = 1 then -1 else 1) * allM br en a b (looksM cs fg)
theorem eM_or (en : List Nat) : eM en = 1 ∨ eM en = -1 := by unfold eM; split <;> simp
theorem TC.cmpP (cs br : List Nat) : TC (cmpP cs br) := TC.ints.map _
theorem TC.look (cs : List Nat) (n : Bool) (br en : List Nat) : TC (lookM cs n br en) := ((TC.cmpP cs br).lex (eM_or en)).map _
theorem TC.all (br en : List Nat) : ∀ ls : List (List Nat × Bool), TC fun a b => allM br en a b ls
  | [] => TC.zero
  | p :: ls => (TC.look p.1 p.2 br en).then (TC.all br en ls)
theorem TC.told (cs fg br en : List Nat) (tn : Int) : TC (toldM cs fg br en tn) := (TC.all br en (looksM cs fg)).sgn (by split <;> simp)
/-- a text that the program takes -/
structure TV (s : List Nat) : Prop where
  len : s.length ≤ 40
  all : s.all isSign = true
theorem len_flat {p : List Nat} : ∀ {l : List (List Nat)}, p ∈ l → p.length ≤ l.flatten.length
  | a :: l, h => by
    rw [List.flatten_cons, List.length_append]
    rcases List.mem_cons.mp h with rfl | h
    · omega
    · have := len_flat h; omega
theorem TV.piece {s : List Nat} (h : TV s) (n : Bool) : ∀ p ∈ cutM n s, Piece p ∧ p.all isSign = true ∧ p.length ≤ 640 := fun p hp => by
  obtain ⟨a, b⟩ := cut_pieces n s h.all p hp
  refine ⟨a, b, ?_⟩
  have e := congrArg List.length (cut_join n s)
  have q := len_flat hp
  have := h.len
  omega
theorem zip_nil {xs ys : List (List Nat)} {c : List Nat → List Nat → Int} (h : [] = zipD (xs.map .str) (ys.map .str)) : zipM c xs ys = 0 := by
  cases xs with
  | nil => rfl
  | cons x xs => cases ys with
    | nil => rfl
    | cons y ys => cases h
theorem by_look_w {n : Bool} {a b : List Nat} (ha : TV a) (hb : TV b) (h : ∀ r, r = .int (lookM cs n br en a b) → Q r (S ++ [.dead] ++ [.dead])) :
    wp (m_by_look S [lookD cs n br en, .str a, .str b]) Q X := by
  have la : a.length ≤ 1000 := Nat.le_trans ha.len (by decide)
  have lb : b.length ≤ 1000 := Nat.le_trans hb.len (by decide)
  have pa := ha.piece n
  have pb := hb.piece n
  rw [lookM, lex_zip] at h
  unfold m_by_look b_by_look
  with_reducible refine w_fn2 (by simp only [List.map_cons, List.map_nil, List.replicate, List.cons_append, List.nil_append, Nat.reduceSub]; exact rfl) ?_
  repeat' first
   | ((with_reducible refine cut_w la fun _ hd => ?_) ; subst hd)
   | ((with_reducible refine cut_w lb fun _ hd => ?_) ; subst hd)
   | walk_at "runb"
   | fail
  refine go_inv (fun items e S1 => ∃ xs ys x y z, items = zipD (xs.map .str) (ys.map .str) ∧ e = [some (lookD cs n br en), some (.str a), some (.str b), some (.lst ((cutM n a).map .str)), some (.lst ((cutM n b).map .str)), x, y, z] ∧ S1 = S ++ [.dead] ++ [.dead] ∧
      zipM (cmpP cs br) xs ys = zipM (cmpP cs br) (cutM n a) (cutM n b) ∧ (∀ p ∈ xs, Piece p ∧ p.all isSign = true ∧ p.length ≤ 640) ∧ (∀ p ∈ ys, Piece p ∧ p.all isSign = true ∧ p.length ≤ 640)) ?_ ?_ _ _ _ ⟨cutM n a, cutM n b, _, _, _, rfl, rfl, rfl, rfl, pa, pb⟩
  · rintro e S1 ⟨xs, ys, x, y, z, hi, rfl, rfl, hz, -, -⟩
    rw [← hz, zip_nil hi, if_pos rfl] at h
    repeat' first
     | with_reducible refine ⟨_, len_l, ?_⟩
     | ((with_reducible refine by_rank_l fun _ hd => ?_) ; subst hd)
     | ((with_reducible refine by_rank_r fun _ hd => ?_) ; subst hd)
     | walk_at "runb"
     | fail
    all_goals refine h _ ?_
    all_goals simp only [List.length_map] at *
    all_goals congr 1
    all_goals split <;> (try split) <;> omega
  · rintro d ds e S1 ⟨xs, ys, x, y, z, hi, rfl, rfl, hz, h1, h2⟩
    cases xs with
    | nil => cases hi
    | cons p xs => cases ys with
      | nil => cases hi
      | cons q ys =>
        cases hi
        refine ⟨_, rfl, ?_⟩
        obtain ⟨p1, p2, p3⟩ := h1 p (by simp)
        obtain ⟨q1, q2, q3⟩ := h2 q (by simp)
        with_reducible refine ws_env (by simp only [List.set_cons_succ, List.set_cons_zero]; exact rfl) ?_
        repeat' first
         | ((with_reducible refine by_piece_w p1 q1 p2 q2 p3 q3 fun _ hd => ?_) ; subst hd)
         | walk_at "runb"
         | fail
        · refine h _ ?_
          have e : zipM (cmpP cs br) (p :: xs) (q :: ys) = cmpP cs br p q := if_neg hb
          rw [← hz, e, if_neg (show ¬cmpP cs br p q = 0 from hb)]
          rfl
        · exact ⟨xs, ys, _, _, _, rfl, rfl, rfl, by rw [← hz]; exact (if_pos hb).symm, fun p hp => h1 p (by simp [hp]), fun p hp => h2 p (by simp [hp])⟩
abbrev looksD (br en : List Nat) (ls : List (List Nat × Bool)) : List D := ls.map fun p => lookD p.1 p.2 br en
theorem by_looks_w {a b : List Nat} (ha : TV a) (hb : TV b) (ls : List (List Nat × Bool)) (h : ∀ r, r = .int (allM br en a b ls) → ∀ T, Q r (S ++ T)) :
    wp (m_by_looks S [.lst (looksD br en ls), .str a, .str b]) Q X := by
  unfold m_by_looks b_by_looks
  with_reducible refine w_fn2 (by simp only [List.map_cons, List.map_nil, List.replicate, List.cons_append, List.nil_append, Nat.reduceSub]; exact rfl) ?_
  repeat' first
   | walk_at "runb"
   | fail
  refine .inl ⟨_, rfl, ?_⟩
  refine go_inv (fun items e S1 => ∃ l2 x y T, items = looksD br en l2 ∧ e = [some (.lst (looksD br en ls)), some (.str a), some (.str b), x, y] ∧ S1 = S ++ T ∧ allM br en a b l2 = allM br en a b ls) ?_ ?_ _ _ _ ⟨ls, _, _, [], rfl, rfl, by simp, rfl⟩
  · rintro e S1 ⟨l2, x, y, T, hi, rfl, rfl, hz⟩
    cases l2 with
    | cons => cases hi
    | nil =>
      repeat' first
       | walk_at "runb"
       | fail
      refine h _ ?_ T
      rw [← hz]; rfl
  · rintro d ds e S1 ⟨l2, x, y, T, hi, rfl, rfl, hz⟩
    cases l2 with
    | nil => cases hi
    | cons p l2 =>
      cases hi
      refine ⟨_, rfl, ?_⟩
      with_reducible refine ws_env (by simp only [List.set_cons_succ, List.set_cons_zero]; exact rfl) ?_
      repeat' first
       | ((with_reducible refine by_look_w ha hb fun _ hd => ?_) ; subst hd)
       | walk_at "runb"
       | fail
      · rw [List.append_assoc, List.append_assoc]
        refine h _ ?_ _
        rw [← hz]
        rename_i hb
        exact congrArg D.int (if_neg hb).symm
      · rename_i hb
        refine ⟨l2, _, _, T ++ [.dead] ++ [.dead], rfl, rfl, by simp, ?_⟩
        rw [← hz]
        exact (if_pos hb).symm
theorem told_w {a b : List Nat} (ha : TV a) (hb : TV b) (h : ∀ r, r = .int (toldM cs fg br en tn a b) → ∀ T, Q r (S ++ T)) :
    wp (m_told_by S [ruleD cs fg br en tn, .str a, .str b]) Q X := by
  have q := (TC.all br en (looksM cs fg)).rng a b
  unfold m_told_by b_told_by
  with_reducible refine w_fn2 (by simp only [List.map_cons, List.map_nil, List.replicate, List.cons_append, List.nil_append, Nat.reduceSub]; exact rfl) ?_
  repeat' first
   | ((with_reducible refine sign_w fun _ hd => ?_) ; subst hd)
   | ((with_reducible refine looks_w fun _ hd => ?_) ; subst hd)
   | ((with_reducible refine by_looks_w ha hb _ fun _ hd T => ?_) ; subst hd)
   | (refine ⟨_, mul_ii (.inr (by omega)), ?_⟩)
   | walk_at "runb"
   | fail
  rw [List.append_assoc]
  exact h _ rfl _
theorem compare_w {a b : List Nat} (r : RV cs fg br en tn) (ha : TV a) (hb : TV b) (h : ∀ r, r = .int (toldM cs fg br en tn a b) → ∀ T, Q r (S ++ T)) :
    wp (m_compare S [ruleD cs fg br en tn, .str a, .str b]) Q X := by
  unfold m_compare b_compare
  with_reducible refine w_fn2 (by simp only [List.map_cons, List.map_nil, List.replicate, List.cons_append, List.nil_append, Nat.reduceSub]; exact rfl) ?_
  repeat' first
   | (with_reducible refine check_rule_w r ?_)
   | (with_reducible refine check_text_w ha.len ha.all ?_)
   | (with_reducible refine check_text_w hb.len hb.all ?_)
   | ((with_reducible refine told_w ha hb fun _ hd T => ?_) ; subst hd)
   | walk_at "runb"
   | fail
  exact h _ rfl _
end
end G
set_option Elab.async false
set_option linter.all false
set_option maxRecDepth 100000
set_option maxHeartbeats 400000
namespace G
open PySem PySem.Spec L2 L3
noncomputable section
variable {Q : D → Store → Prop} {X : Nat → Store → Prop} {S R : Store} {cs fg br en : List Nat} {tn : Int}
/-- the store with the drawing -/
def DS (R S : Store) : Prop := ∃ (nums : List Int) (c : Int), S = .lst (nums.map .int) :: .lst [.loc 0, .int c] :: R ∧ nums ≠ [] ∧ 0 ≤ c
theorem neD_scr {ns : List Int} : neD S (.scr ns) (.lst []) = some (.bl (!decide (ns = []))) := by
  have e : ∀ ns : List Int, D.pys (ns.map .int) = ns.map PyData.int := by
    intro ns
    induction ns with
    | nil => rfl
    | cons a ns ih => show D.py (.int a) :: D.pys (ns.map .int) = _; rw [ih]; rfl
  have p : (D.scr ns).py = (D.lst (ns.map .int)).py := by
    show PyData.list _ = PyData.list _
    rw [e]
  have q := neD_ints (S := S) (xs := ns) (ys := [])
  unfold neD at q ⊢
  have u : unloc S (.lst (ns.map .int)) = .lst (ns.map .int) := rfl
  have u2 : unloc S (.scr ns) = .scr ns := rfl
  have f : (D.lst (ns.map .int)).flat = (D.scr ns).flat := (pl_flat 1 _ (pl_ints 0 ns)).1
  rw [u] at q
  rw [u2]
  unfold eqPre at q ⊢
  rw [← p, f] at q
  exact q
theorem start_w {ns : List Int} (hl : ns.length ≤ 63) (h : ∀ S', DS [] S' → Q (.loc 1) S') : wp (m__law_start [] [.scr ns]) Q X := by
  unfold m__law_start b__law_start
  with_reducible refine w_fn2 (by simp only [List.map_cons, List.map_nil, List.replicate, List.cons_append, List.nil_append, Nat.reduceSub]; exact rfl) ?_
  repeat' first
   | with_reducible refine ⟨_, neD_scr, ?_⟩
   | refine ⟨_, (rfl : listD _ [.scr _] = some (.lst _)), ?_⟩
   | walk_at "runb"
   | fail
  · exact h _ ⟨ns, 0, rfl, by simpa using hb, by decide⟩
  · exact h _ ⟨[0], 0, rfl, by simp, by decide⟩
theorem dr_s1 {L : Cell} {c v : D} : setD (L :: .lst [.loc 0, c] :: R) (.loc 1) (.int 1) v = some (L :: .lst [.loc 0, v] :: R) := rfl
theorem dr_g0 {L : Cell} {c : D} : ixD (L :: .lst [.loc 0, c] :: R) (.loc 1) (.int 0) = some (.loc 0) := rfl
theorem dr_g1 {L : Cell} {c : D} : ixD (L :: .lst [.loc 0, c] :: R) (.loc 1) (.int 1) = some c := rfl
theorem draw_w {n : Int} (hS : DS R S) (hn : 0 < n ∧ n < 1073741824) (h : ∀ r S', 0 ≤ r → r < n → DS R S' → Q (.int r) S') : wp (m__law_draw S [.loc 1, .int n]) Q X := by
  obtain ⟨nums, c, rfl, hne, hc⟩ := hS
  have hlen : 0 < (nums.length : Int) := by
    cases nums with
    | nil => exact absurd rfl hne
    | cons => simp <;> omega
  have k1 := Int.emod_nonneg (c + 1) (by omega : (nums.length : Int) ≠ 0)
  have k2 := Int.emod_lt_of_pos (c + 1) hlen
  obtain ⟨k, hk⟩ : ∃ k : Nat, (c + 1) % (nums.length : Int) = (k : Int) := ⟨_, (Int.toNat_of_nonneg k1).symm⟩
  have hk2 : k < nums.length := by omega
  have at1 : ∀ (R' : Store), ixD (.lst (nums.map .int) :: R') (.loc 0) (.int ((c + 1) % (nums.length : Int))) = some (.int nums[k]) := by
    intro R'
    rw [ix_loc (ds := nums.map .int) rfl, hk, L3.atI_nat]
    simp [hk2]
  have st1 : ∀ (R' : Store) (v : Int), setD (.lst (nums.map .int) :: R') (.loc 0) (.int ((c + 1) % (nums.length : Int))) (.int v) = some (.lst ((nums.set k v).map .int) :: R') := by
    intro R' v
    show ((ixN (nums.map D.int).length ((c + 1) % (nums.length : Int))).map fun m => (Cell.lst (nums.map .int) :: R').set 0 (.lst ((nums.map D.int).set m (.int v)))) = _
    rw [hk]
    have e : ixN (nums.map D.int).length (k : Int) = some k := by
      unfold ixN
      rw [if_pos (by omega), if_pos (by simp <;> omega)]
      simp
    rw [e]
    simp [List.map_set]
  have ln : ∀ (R' : Store), lenD (.lst (nums.map .int) :: R') [.loc 0] = some (.int nums.length) := by
    intro R'
    rw [len_loc (s := nums.map .int) rfl]
    simp
  have md : ∀ a b : Int, 0 < b → 0 ≤ a % b ∧ a % b < b := fun a b hb => ⟨Int.emod_nonneg _ (by omega), Int.emod_lt_of_pos _ hb⟩
  have m1 := md (nums[k] + 104729 * (c + 1)) 4294967291 (by decide)
  have m2 := md (((nums[k] + 104729 * (c + 1)) % 4294967291) ^ 5) 4294967279 (by decide)
  have c1 : (0 : Int) < 4294967291 := by decide
  have c2 : (0 : Int) < 4294967279 := by decide
  have c3 : (0 : Int) < 4294967231 := by decide
  have c4 : (0 : Int) < 64 ∧ (64 : Int) < 1073741824 := by decide
  have c5 : (0 : Int) < 8 ∧ (8 : Int) < 1073741824 := by decide
  have c6 : (104729 : Int).natAbs < 2 ^ 64 := by decide
  have c7 : (69621 : Int).natAbs < 2 ^ 64 := by decide
  have c8 : (0 : Int) ≤ 5 ∧ (5 : Int) ≤ 1000 ∧ ((nums[k] + 104729 * (c + 1)) % 4294967291).natAbs < 2 ^ 64 := ⟨by decide, by decide, by omega⟩
  unfold m__law_draw b__law_draw
  with_reducible refine w_fn2 (by simp only [List.map_cons, List.map_nil, List.replicate, List.cons_append, List.nil_append, Nat.reduceSub]; exact rfl) ?_
  repeat' first
   | with_reducible refine ⟨_, ln _, ?_⟩
   | with_reducible refine ⟨_, at1 _, ?_⟩
   | with_reducible refine ⟨_, st1 _ _, ?_⟩
   | with_reducible refine ⟨_, dr_g0, ?_⟩
   | with_reducible refine ⟨_, dr_g1, ?_⟩
   | with_reducible refine ⟨_, dr_s1, ?_⟩
   | with_reducible refine ⟨_, (rfl : geD _ _ _ = some _), ?_⟩
   | with_reducible refine ⟨_, mod_ii hlen, ?_⟩
   | with_reducible refine ⟨_, mod_ii hn.1, ?_⟩
   | with_reducible refine ⟨_, fdiv_ii hn, ?_⟩
   | with_reducible refine ⟨_, mod_ii c1, ?_⟩
   | with_reducible refine ⟨_, mod_ii c2, ?_⟩
   | with_reducible refine ⟨_, mod_ii c3, ?_⟩
   | with_reducible refine ⟨_, fdiv_ii c4, ?_⟩
   | with_reducible refine ⟨_, fdiv_ii c5, ?_⟩
   | with_reducible refine ⟨_, mul_ii (.inl c6), ?_⟩
   | with_reducible refine ⟨_, mul_ii (.inr c7), ?_⟩
   | with_reducible refine ⟨_, pow_ii c8, ?_⟩
   | walk_at "runb"
   | fail
  · exact h _ _ (md _ _ hn.1).1 (md _ _ hn.1).2 ⟨nums.set k (nums[k] / n), c + 1, rfl, fun e => hne (List.eq_nil_of_length_eq_zero (by have := congrArg List.length e; simpa using this)), by omega⟩
  · exact h _ _ (md _ _ hn.1).1 (md _ _ hn.1).2 ⟨nums, c + 1, rfl, hne, by omega⟩
theorem pick_w {ds : List D} (hS : DS R S) (hd : ds ≠ [] ∧ ds.length ≤ 100000) (h : ∀ d S', d ∈ ds → DS R S' → Q d S') : wp (m__law_pick S [.loc 1, .lst ds]) Q X := by
  have hp : (0 : Int) < (ds.length : Int) ∧ (ds.length : Int) < 1073741824 := by
    obtain ⟨h1, h2⟩ := hd
    cases ds with
    | nil => exact absurd rfl h1
    | cons => simp at h2 ⊢; omega
  unfold m__law_pick b__law_pick
  with_reducible refine w_fn2 (by simp only [List.map_cons, List.map_nil, List.replicate, List.cons_append, List.nil_append, Nat.reduceSub]; exact rfl) ?_
  repeat' first
   | with_reducible refine ⟨_, len_l, ?_⟩
   | (with_reducible refine draw_w hS hp fun r S' r0 r1 hS' => ?_)
   | walk_at "runb"
   | fail
  obtain ⟨k, rfl⟩ : ∃ k : Nat, r = (k : Int) := ⟨_, (Int.toNat_of_nonneg r0).symm⟩
  have hk : k < ds.length := by omega
  refine ⟨ds[k], ?_, fnZ_rt (h _ _ (List.getElem_mem hk) hS')⟩
  rw [ix_l, L3.atI_nat]
  simp [hk]
theorem ix_sign {al : List Nat} {r : Int} (hl : al.length ≤ 100000) (h0 : 0 ≤ r) (h1 : r < al.length) : ∃ c, c ∈ al ∧ ∀ S, ixD S (.str al) (.int r) = some (.str [c]) := by
  obtain ⟨k, rfl⟩ : ∃ k : Nat, r = (k : Int) := ⟨_, (Int.toNat_of_nonneg h0).symm⟩
  have hk : k < al.length := by omega
  refine ⟨al[k], List.getElem_mem hk, fun S => ?_⟩
  rw [ix_s hl, L3.atI_nat]
  simp [hk]
theorem text_draw_w {n : Int} (hS : DS R S) (hn : 0 ≤ n ∧ n ≤ 500) (h : ∀ s S', (s.length : Int) ≤ n → s.all isSign = true → DS R S' → Q (.str s) S') : wp (m__law_text S [.loc 1, .int n]) Q X := by
  unfold m__law_text b__law_text
  with_reducible refine w_fn2 (by simp only [List.map_cons, List.map_nil, List.replicate, List.cons_append, List.nil_append, Nat.reduceSub]; exact rfl) ?_
  repeat' first
   | (with_reducible refine draw_w hS (by omega) fun m S0 m0 m1 hS0 => ?_)
   | walk_at "runb"
   | fail
  refine whl_inv (fun k e S1 => ∃ s, (s.length : Int) ≤ m ∧ s.length + k = 1000 ∧ s.all isSign = true ∧ e = [some (.loc 1), some (.int n), some (.str s), some (.int m)] ∧ DS R S1) ?_ ?_ 1000 _ _ ⟨[], by simpa using m0, rfl, rfl, rfl, hS0⟩
  · rintro k e S1 ⟨s, h1, h2, h3, rfl, hS1⟩
    repeat' first
     | with_reducible refine ⟨_, len_s (by omega), ?_⟩
     | (with_reducible refine draw_w hS1 (n := 9) (by decide) fun r S2 r0 r1 hS2 => ?_)
     | walk_at "runb"
     | fail
    · obtain ⟨c, hc, e⟩ := ix_sign (al := [48, 48, 48, 49, 65, 97, 66, 98, 95]) (by decide) r0 (by simpa using r1)
      refine ⟨_, e _, _, add_ss (by simp; omega), stepZ_nx ⟨s ++ [c], by simp; omega, by simp; omega, ?_, rfl, hS2⟩⟩
      rw [List.all_append, h3]
      have a : ∀ c ∈ [48, 48, 48, 49, 65, 97, 66, 98, 95], isSign c = true := by decide
      simp [a c hc]
    · exact h s S1 (by omega) h3 hS1
  · rintro e S1 ⟨s, h1, h2, -⟩
    omega
theorem ints_cons (lo : Int) (n : Nat) : L3.intsFrom lo (n + 1) = .int lo :: L3.intsFrom (lo + 1) n := by
  unfold L3.intsFrom
  rw [List.range_succ_eq_map]
  simp only [List.map_cons, List.map_map]
  congr 1
  · simp
  · refine List.map_congr_left fun k _ => ?_
    simp only [Function.comp]
    congr 1
    omega
theorem listA_s {s : List Nat} (h : s.length ≤ 100000) : listA S [.str s] = some (.lst (s.map fun c => .str [c])) := by
  show (listD S [.str s]).or (listSD S [.str s]) = _
  have e : listSD S [.str s] = some (.lst (s.map fun c => .str [c])) := if_pos h
  rw [e]; rfl
theorem wild_w {n : Int} (hS : DS R S) (hn : 0 ≤ n ∧ n ≤ 500) (h : ∀ s S', (s.length : Int) ≤ n → s.all isSign = true → DS R S' → Q (.str s) S') : wp (m__law_wild S [.loc 1, .int n]) Q X := by
  unfold m__law_wild b__law_wild
  with_reducible refine w_fn2 (by simp only [List.map_cons, List.map_nil, List.replicate, List.cons_append, List.nil_append, Nat.reduceSub]; exact rfl) ?_
  repeat' first
   | (with_reducible refine draw_w hS (by omega) fun m S0 m0 m1 hS0 => ?_)
   | walk_at "runb"
   | fail
  refine ⟨by omega, ?_⟩
  refine go_inv (fun items e S1 => ∃ (s : List Nat) (lo : Int) (k : Nat) (x : Option D), (s.length : Int) + k ≤ m ∧ items = L3.intsFrom lo k ∧ s.all isSign = true ∧ e = [some (.loc 1), some (.int n), some (.str s), x] ∧ DS R S1) ?_ ?_ _ _ _ ⟨[], 0, m.toNat, _, by simp; omega, rfl, rfl, rfl, hS0⟩
  · rintro e S1 ⟨s, lo, k, x, h1, hi, h3, rfl, hS1⟩
    repeat' first
     | walk_at "runb"
     | fail
    exact h s S1 (by omega) h3 hS1
  · rintro d ds e S1 ⟨s, lo, k, x, h1, hi, h3, rfl, hS1⟩
    cases k with
    | zero => cases hi
    | succ k =>
      rw [ints_cons] at hi
      cases hi
      refine ⟨_, rfl, ?_⟩
      with_reducible refine ws_env (by simp only [List.set_cons_succ, List.set_cons_zero]; exact rfl) ?_
      repeat' first
       | refine ⟨_, listA_s (Nat.le_of_ble_eq_true rfl), ?_⟩
       | (with_reducible refine pick_w hS1 (by simp) fun d S2 hd hS2 => ?_)
       | walk_at "runb"
       | fail
      obtain ⟨c, hc, rfl⟩ := List.mem_map.mp hd
      refine ⟨_, add_ss (by simp; omega), stepZ_nx ⟨s ++ [c], _, k, _, by simp; omega, rfl, ?_, rfl, hS2⟩⟩
      rw [List.all_append, h3]
      have a : ∀ c ∈ [48, 48, 49, 50, 57, 65, 97, 66, 98, 90, 122, 95, 95], isSign c = true := by decide
      simp [a c hc]
theorem sl_both {s : List Nat} (h : s.length ≤ 100000) (i j : Nat) : slD S (.str s) (some (i : Int)) (some (j : Int)) = some (.str ((s.drop (min i s.length)).take (min j s.length - min i s.length))) := by
  show (if s.length ≤ 100000 then some (D.str ((s.drop (HT.sIx s.length 0 (some (i : Int)))).take (HT.sIx s.length s.length (some (j : Int)) - HT.sIx s.length 0 (some (i : Int))))) else none) = _
  rw [if_pos h, HT.sIx_nat, HT.sIx_nat]
theorem sl_lo {s : List Nat} (h : s.length ≤ 100000) (j : Nat) : slD S (.str s) none (some (j : Int)) = some (.str (s.take j)) := by
  show (if s.length ≤ 100000 then some (D.str ((s.drop (HT.sIx s.length 0 none)).take (HT.sIx s.length s.length (some (j : Int)) - HT.sIx s.length 0 none))) else none) = _
  rw [if_pos h, HT.sIx_nat, HT.sIx_none, Nat.sub_zero, List.drop_zero]
  congr 2
  rw [List.take_eq_take_iff]
  omega
theorem sl_hi {s : List Nat} (h : s.length ≤ 100000) (i : Nat) : slD S (.str s) (some (i : Int)) none = some (.str (s.drop i)) := by
  show (if s.length ≤ 100000 then some (D.str ((s.drop (HT.sIx s.length 0 (some (i : Int)))).take (HT.sIx s.length s.length none - HT.sIx s.length 0 (some (i : Int))))) else none) = _
  rw [if_pos h, HT.sIx_nat, HT.sIx_none]
  congr 2
  by_cases e : i ≤ s.length
  · rw [Nat.min_eq_left e, List.take_of_length_le]
    simp
  · rw [Nat.min_eq_right (by omega), List.drop_eq_nil_of_le (Nat.le_refl _), List.drop_eq_nil_of_le (by omega)]
    simp
theorem sl_hi1 {s : List Nat} (h : s.length ≤ 100000) (i : Nat) : slD S (.str s) (some ((i : Int) + 1)) none = some (.str (s.drop (i + 1))) := sl_hi h (i + 1)
def cellM (s : List Nat) (i : Nat) : List Nat := (s.drop (min i s.length)).take (min (i + 1) s.length - min i s.length)
theorem sl_b1 {s : List Nat} (h : s.length ≤ 100000) (i : Nat) : slD S (.str s) (some (i : Int)) (some ((i : Int) + 1)) = some (.str (cellM s i)) := sl_both h i (i + 1)
theorem up_sign : ∀ c, c < 128 → isSign c = true → isSign (upA c) = true ∧ isSign (loA c) = true := by decide +kernel
theorem all_take {s : List Nat} (h : s.all isSign = true) (k : Nat) : (s.take k).all isSign = true := by
  rw [List.all_eq_true] at *
  exact fun x hx => h x (List.mem_of_mem_take hx)
theorem all_drop {s : List Nat} (h : s.all isSign = true) (k : Nat) : (s.drop k).all isSign = true := by
  rw [List.all_eq_true] at *
  exact fun x hx => h x (List.mem_of_mem_drop hx)
theorem all_asc {s : List Nat} (h : s.all isSign = true) : asc s = true := by
  unfold asc
  rw [List.all_eq_true] at *
  exact fun x hx => by simpa using sign_lt (h x hx)
theorem all_map {s : List Nat} (h : s.all isSign = true) : (s.map upA).all isSign = true ∧ (s.map loA).all isSign = true := by
  rw [List.all_eq_true] at h
  rw [List.all_map, List.all_map, List.all_eq_true, List.all_eq_true]
  exact ⟨fun x hx => (up_sign x (sign_lt (h x hx)) (h x hx)).1, fun x hx => (up_sign x (sign_lt (h x hx)) (h x hx)).2⟩
theorem draw_kw {n : Int} (hS : DS R S) (hn : 0 < n ∧ n < 1073741824) (h : ∀ (k : Nat) S', (k : Int) < n → DS R S' → Q (.int (k : Int)) S') : wp (m__law_draw S [.loc 1, .int n]) Q X :=
  draw_w hS hn fun r S' r0 r1 hS' => by
    obtain ⟨k, rfl⟩ : ∃ k : Nat, r = (k : Int) := ⟨_, (Int.toNat_of_nonneg r0).symm⟩
    exact h k S' r1 hS'
theorem near_w {s : List Nat} (hS : DS R S) (hl : s.length ≤ 1000) (hs : s.all isSign = true) (h : ∀ t S', t.length ≤ s.length + 2 → t.all isSign = true → DS R S' → Q (.str t) S') : wp (m__law_near S [.loc 1, .str s]) Q X := by
  have h5 : s.length ≤ 100000 := by omega
  have cl : ∀ k, (cellM s k).length + k ≤ k + 1 := fun k => by simp [cellM]; omega
  have cs : ∀ k, (cellM s k).all isSign = true := fun k => all_take (all_drop hs _) _
  have tk : ∀ k, (s.take k).length ≤ s.length ∧ (s.drop k).length ≤ s.length := fun k => by simp; omega
  have ad : ∀ (S : Store) (a b : List Nat), a.length ≤ 2000 → b.length ≤ 2000 → addD S (.str a) (.str b) = some (.str (a ++ b)) := fun S a b h1 h2 => add_ss (by omega)
  have l1 : ∀ k, (s.take k).length ≤ 2000 := fun k => by have := (tk k).1; omega
  have l2 : ∀ k, (s.drop k).length ≤ 2000 := fun k => by have := (tk k).2; omega
  have l3 : ∀ k (w : List Nat), w.length ≤ 2 → (s.take k ++ w).length ≤ 2000 := fun k w hw => by have := (tk k).1; rw [List.length_append]; omega
  have c1 : ∀ k, ((cellM s k).map upA).length ≤ 2 ∧ ((cellM s k).map loA).length ≤ 2 := fun k => by have := cl k; simp; omega
  have c3 : ∀ k, ((cellM s k).map upA).length ≤ 2000 ∧ ((cellM s k).map loA).length ≤ 2000 := fun k => by have := c1 k; omega
  have c4 : [48].length ≤ 2000 := by decide
  have c5 : [48].length ≤ 2 := by decide
  have c2 : ∀ k, (cellM s k).length ≤ 100000 := fun k => by have := cl k; omega
  unfold m__law_near b__law_near
  with_reducible refine w_fn2 (by simp only [List.map_cons, List.map_nil, List.replicate, List.cons_append, List.nil_append, Nat.reduceSub]; exact rfl) ?_
  repeat' first
   | with_reducible refine ⟨_, len_s h5, ?_⟩
   | (with_reducible refine draw_kw hS (by omega) fun k S0 r1 hS0 => ?_)
   | (with_reducible refine draw_kw hS0 (n := 5) (by decide) fun k2 S1 r21 hS1 => ?_)
   | with_reducible refine ⟨_, sl_lo h5 _, ?_⟩
   | with_reducible refine ⟨_, sl_hi h5 _, ?_⟩
   | with_reducible refine ⟨_, sl_hi1 h5 _, ?_⟩
   | with_reducible refine ⟨_, sl_b1 h5 _, ?_⟩
   | with_reducible refine ⟨_, _, isupper_s (all_asc (cs _)), ?_⟩
   | with_reducible refine ⟨_, _, lower_s ⟨all_asc (cs _), c2 _⟩, ?_⟩
   | with_reducible refine ⟨_, _, upper_s ⟨all_asc (cs _), c2 _⟩, ?_⟩
   | with_reducible refine ⟨_, ad _ _ _ (l1 _) (l2 _), ?_⟩
   | with_reducible refine ⟨_, ad _ _ _ (l1 _) (c3 _).1, ?_⟩
   | with_reducible refine ⟨_, ad _ _ _ (l1 _) (c3 _).2, ?_⟩
   | with_reducible refine ⟨_, ad _ _ _ (l1 _) c4, ?_⟩
   | with_reducible refine ⟨_, ad _ _ _ (l3 _ _ c5) (l2 _), ?_⟩
   | with_reducible refine ⟨_, ad _ _ _ (l3 _ _ (c1 _).1) (l2 _), ?_⟩
   | with_reducible refine ⟨_, ad _ _ _ (l3 _ _ (c1 _).2) (l2 _), ?_⟩
   | walk_at "runb"
   | fail
  · exact h _ _ (by simp; omega) (by simp only [List.all_append, all_take hs, all_drop hs]; decide) hS1
  · exact h _ _ (by have := cl k; simp; omega) (by simp only [List.all_append, all_take hs, all_drop hs, (all_map (cs _)).2]; decide) hS1
  · exact h _ _ (by have := cl k; simp; omega) (by simp only [List.all_append, all_take hs, all_drop hs, (all_map (cs _)).1]; decide) hS1
  · exact h _ _ (by simp; omega) (by simp only [List.all_append, all_take hs, all_drop hs]; decide) hS1
  · refine text_draw_w hS1 (n := 2) (by decide) fun t S2 t1 t2 hS2 => ?_
    have t3 : t.length ≤ 2 := by omega
    refine ⟨_, ad _ _ _ (l1 _) (by omega), ?_⟩
    repeat' first
     | with_reducible refine ⟨_, sl_hi h5 _, ?_⟩
     | with_reducible refine ⟨_, ad _ _ _ (l3 _ _ t3) (l2 _), ?_⟩
     | walk_at "runb"
     | fail
    exact h _ _ (by simp; omega) (by simp only [List.all_append, all_take hs, all_drop hs, t2]; decide) hS2
  · exact h _ _ (by omega) hs hS1
end
end G
set_option Elab.async false
set_option linter.all false
set_option maxRecDepth 100000
set_option maxHeartbeats 400000
namespace G
open PySem PySem.Spec L2 L3
noncomputable section
variable {Q : D → Store → Prop} {X : Nat → Store → Prop} {S R : Store} {cs fg br en : List Nat} {tn : Int}
theorem neD_new {xs : List (List Nat)} : neD (S ++ [.lst (xs.map .str)]) (.loc S.length) (.lst []) = some (.bl (!decide (xs = []))) := neD_loc (ys := []) st_get
theorem lcut_w {s : List Nat} {w : Bool} (hl : s.length ≤ 1000) (hsg : s.all isSign = true) (h : ∀ r, r = .lst ((cutM w s).map .str) → Q r (S ++ [.dead])) : wp (m__law_cut S [.str s, .bl w]) Q X := by
  unfold m__law_cut b__law_cut
  with_reducible refine w_fn2 (by simp only [List.map_cons, List.map_nil, List.replicate, List.cons_append, List.nil_append, Nat.reduceSub]; exact rfl) ?_
  repeat' first
   | (with_reducible refine .inr (.inr ⟨_, rfl, ?_⟩))
   | with_reducible refine go_inv (fun items e S1 => ∃ pre rest x, s = pre ++ rest ∧ items = signs rest ∧ e = [some (.str s), some (.bl w), some (.loc S.length), x] ∧ S1 = S ++ [.lst ((cutM w pre).map .str)]) ?_ ?_ _ _ _ ⟨[], s, _, rfl, rfl, rfl, rfl⟩
   | walk_at "runb"
   | fail
  · rintro e S1 ⟨pre, rest, x, hs, hi, rfl, rfl⟩
    cases rest with
    | cons c rest => cases hi
    | nil =>
      rw [List.append_nil] at hs
      subst hs
      repeat' first
       | with_reducible refine ⟨_, _, fz_new, ?_⟩
       | walk_at "runb"
       | fail
      exact h _ rfl
  · rintro d ds e S1 ⟨pre, rest, x, hs, hi, rfl, rfl⟩
    cases rest with
    | nil => cases hi
    | cons c rest =>
      cases hi
      refine ⟨_, rfl, ?_⟩
      have hs2 : s = (pre ++ [c]) ++ rest := by rw [hs]; simp
      have hlen : pre.length + rest.length + 1 ≤ 1000 := by rw [hs] at hl; simp at hl; omega
      have hsg2 := hsg
      rw [hs, List.all_append, List.all_cons, Bool.and_eq_true, Bool.and_eq_true] at hsg2
      obtain ⟨g1, g2, g3⟩ := hsg2
      have ac : asc [c] = true := asc1 (sign_lt g2)
      with_reducible refine ws_env (by simp only [List.set_cons_succ, List.set_cons_zero]; exact rfl) ?_
      rcases List.eq_nil_or_concat pre with rfl | ⟨pre, b, rfl⟩
      · clear h
        have nn : neD (S ++ [.lst ((cutM w []).map .str)]) (.loc S.length) (.lst []) = some (.bl (!decide (cutM w [] = []))) := neD_new
        repeat' first
         | with_reducible refine ⟨_, _, isdigit_s ac, ?_⟩
         | with_reducible refine ⟨_, nn, ?_⟩
         | with_reducible refine ⟨tyL_new, ?_⟩
         | with_reducible refine ⟨_, _, app_new (len_lt rfl), ?_⟩
         | walk_at "runb"
         | fail
        all_goals first | (exfalso; simp [cutM] at hb; done) | skip
        all_goals exact ⟨[] ++ [c], rest, _, hs2, by simp, rfl, by simp [cutM, stepC, lastDig]⟩
      · simp only [List.concat_eq_append] at *
        obtain ⟨acc, p, ha, hp⟩ := cut_last w pre b
        have hq : (cutM w (pre ++ [b])).map D.str = acc.map D.str ++ [.str p] := by rw [ha]; simp
        have al : (acc.map D.str ++ [D.str p]).length ≤ 1000 := by
          rw [← hq]
          have := cut_len w (pre ++ [b])
          simp at this hlen ⊢
          omega
        have pl : p.length ≤ 1000 := by
          have e := congrArg List.length (cut_join w (pre ++ [b]))
          rw [ha] at e
          simp at e hlen
          omega
        obtain ⟨pc, ps⟩ := cut_pieces w (pre ++ [b]) g1 p (by rw [ha]; simp)
        have ap : asc p = true := all_asc ps
        have pne : p.isEmpty = false := by
          obtain ⟨c, r, rfl, -⟩ := piece_cases pc
          rfl
        have fin : ∀ {e' : Ev} {x : Option D} {ds : List D}, e' = [some (.str s), some (.bl w), some (.loc S.length), x] → ds = (cutM w (pre ++ [b] ++ [c])).map D.str →
          ∃ pre_1 rest_1 x, s = pre_1 ++ rest_1 ∧ signs rest = signs rest_1 ∧ e' = [some (.str s), some (.bl w), some (.loc S.length), x] ∧ S ++ [Cell.lst ds] = S ++ [Cell.lst ((cutM w pre_1).map D.str)] :=
          fun h1 h2 => ⟨pre ++ [b] ++ [c], rest, _, hs2, rfl, h1, by rw [h2]⟩
        have ad : ∀ S, addD S (.str p) (.str [c]) = some (.str (p ++ [c])) := fun S => add_ss (by simp; omega)
        have al2 : (acc.map D.str ++ [D.str p]).length < 100000 := by omega
        have nn : neD (S ++ [.lst (acc.map D.str ++ [.str p])]) (.loc S.length) (.lst []) = some (.bl (!decide (acc ++ [p] = []))) := by
          rw [← hq, ha]; exact neD_new
        rw [cut_snoc, ha] at fin
        rw [hq]
        repeat' first
         | with_reducible refine ⟨_, _, isdigit_s ac, ?_⟩
         | with_reducible refine ⟨_, _, isdigit_s ap, ?_⟩
         | with_reducible refine ⟨_, nn, ?_⟩
         | with_reducible refine ⟨_, ixD_last, ?_⟩
         | with_reducible refine ⟨tyL_new, ?_⟩
         | with_reducible refine ⟨_, _, app_new al2, ?_⟩
         | with_reducible refine ⟨_, set_new, ?_⟩
         | with_reducible refine ⟨_, ad _, ?_⟩
         | walk_at "runb"
         | fail
        all_goals first | (exfalso; simp at hb; done) | skip
        all_goals refine fin rfl ?_
        all_goals unfold stepC
        all_goals rw [lastDig_snoc, hp, addLast_snoc]
        all_goals clear fin ad al2 al pl hq ha hs hs2 hlen h hl nn hsg
        all_goals simp only [hp, pne] at *
        all_goals simp_all
theorem up_lo : ∀ c, c < 128 → (isUp c && !isLo c) = isUp c := by decide +kernel
def keyL (cs br : List Nat) (p : List Nat) : List Int := match p with
  | [] => []
  | c :: _ => if c = 95 then [if br = sAhead then -1 else 9] else if isDig c = true then [0, (digV p : Int)]
    else if cs = sApart then [1, if isUp c = true then 0 else 1, upA c] else if cs = sMixed then [1, upA c, if isUp c = true then 0 else 1] else [1, upA c]
def cmpK (cs br p q : List Nat) : Int := cmpL (keyL cs br p) (keyL cs br q)
theorem letter {c : Nat} (h : isSign c = true) (h1 : c ≠ 95) (h2 : isDig c = false) : ∃ a : Nat, (upA c : Int) = a ∧ (loA c : Int) = a + 32 ∧ ((isUp c = true ∧ (c : Int) = a) ∨ (isUp c = false ∧ (c : Int) = a + 32)) := by
  simp [isSign, h2, h1, isUp, isLo] at h
  rcases h with h | h
  · exact ⟨c, by unfold upA; split <;> omega, by unfold loA; split <;> omega, .inl ⟨by simp [isUp, h], rfl⟩⟩
  · exact ⟨c - 32, by unfold upA; split <;> omega, by unfold loA; split <;> omega, .inr ⟨by simp [isUp]; omega, by omega⟩⟩
theorem key_same {p q : List Nat} (hp : Piece p) (hq : Piece q) (sp : p.all isSign = true) (sq : q.all isSign = true) : cmpK cs br p q = cmpP cs br p q := by
  obtain ⟨c, cr, rfl, c1, c2⟩ := piece_cases hp
  obtain ⟨d, dr, rfl, d1, d2⟩ := piece_cases hq
  have sc : isSign c = true := by simp at sp; exact sp.1
  have sd : isSign d = true := by simp at sq; exact sq.1
  have n95 : isDig 95 = false := rfl
  unfold cmpK cmpP keyL keyP
  generalize digV (c :: cr) = v
  generalize digV (d :: dr) = w
  dsimp only
  unfold rankM
  have l1 : (if br = sAhead then (-1 : Int) else 9) = (if br = sAhead then (0 : Int) else 3) * 3 + (if br = sAhead then (-1 : Int) else 0) := by split <;> rfl
  have l2 : br = sAhead ∨ br ≠ sAhead := by by_cases h : br = sAhead; exact .inl h; exact .inr h
  by_cases e1 : c = 95
  · subst e1
    by_cases e2 : d = 95
    · subst e2
      simp [n95, TC.ints.rf]
    · cases f2 : isDig d with
      | true => rcases l2 with g | g <;> simp [n95, e2, f2, g, cmpL_cons]
      | false => rcases l2 with g | g <;> by_cases k : cs = sApart <;> by_cases k2 : cs = sMixed <;> simp [n95, e2, f2, g, k, k2, cmpL_cons]
  · cases f1 : isDig c with
    | true =>
      by_cases e2 : d = 95
      · subst e2
        rcases l2 with g | g <;> simp [n95, e1, f1, g, cmpL_cons]
      · cases f2 : isDig d with
        | true => simp [e1, e2, f1, f2, cmpL_cons, TC.ints.rf]
        | false => by_cases k : cs = sApart <;> by_cases k2 : cs = sMixed <;> simp [e1, e2, f1, f2, k, k2, cmpL_cons]
    | false =>
      by_cases e2 : d = 95
      · subst e2
        rcases l2 with g | g <;> by_cases k : cs = sApart <;> by_cases k2 : cs = sMixed <;> simp [n95, e1, f1, g, k, k2, cmpL_cons]
      · cases f2 : isDig d with
        | true => by_cases k : cs = sApart <;> by_cases k2 : cs = sMixed <;> simp [e1, e2, f1, f2, k, k2, cmpL_cons]
        | false =>
          obtain ⟨a, a1, a2, a3⟩ := letter sc e1 f1
          obtain ⟨b, b1, b2, b3⟩ := letter sd e2 f2
          simp only [e1, e2, f1, f2, a1, a2, b1, b2, if_false, cmpL_cons]
          rcases a3 with ⟨a3, a4⟩ | ⟨a3, a4⟩ <;> rcases b3 with ⟨b3, b4⟩ | ⟨b3, b4⟩ <;> by_cases k : cs = sApart <;> by_cases k2 : cs = sMixed <;> simp [a3, a4, b3, b4, k, k2, cmpL_cons] <;> (try omega)
end
end G
set_option Elab.async false
set_option linter.all false
set_option maxRecDepth 100000
set_option maxHeartbeats 400000
namespace G
open PySem PySem.Spec L2 L3
noncomputable section
variable {Q : D → Store → Prop} {X : Nat → Store → Prop} {S R : Store} {cs fg br en : List Nat} {tn : Int}
/-! sorting -/
theorem st_getA {S T : Store} {a : Cell} : (S ++ [a] ++ T)[S.length]? = some a := by simp
theorem st_setA {S T : Store} {a b : Cell} : (S ++ [a] ++ T).set S.length b = S ++ [b] ++ T := by simp
theorem seqA {S T : Store} {ds : List D} : seqD (S ++ [.lst ds] ++ T) (.loc S.length) = some ds := by simp only [seqD, st_getA]
theorem seq_app {S T : Store} {d : D} {ds : List D} (h : seqD S d = some ds) : seqD (S ++ T) d = some ds := by
  cases d with
  | lst => exact h
  | loc i =>
    unfold seqD at h ⊢
    dsimp only at h ⊢
    cases e : S[i]? with
    | none => rw [e] at h; cases h
    | some c =>
      have hi : i < S.length := by
        rcases Nat.lt_or_ge i S.length with q | q
        · exact q
        · rw [List.getElem?_eq_none q] at e; cases e
      rw [List.getElem?_append_left hi, e]
      rw [e] at h
      exact h
  | _ => cases h
theorem len_seq {S : Store} {d : D} {ds : List D} (h : seqD S d = some ds) : lenD S [d] = some (.int ds.length) := by
  cases d with
  | lst => cases h; rfl
  | loc i =>
    show (seqD S (.loc i)).bind _ = _
    rw [h]; rfl
  | _ => cases h
theorem ix_seq {S : Store} {d : D} {ds : List D} {i : Int} (h : seqD S d = some ds) : ixD S d (.int i) = atI ds i := by
  cases d with
  | lst => cases h; rfl
  | loc j =>
    show (seqD S (.loc j)).bind _ = _
    rw [h]; rfl
  | _ => cases h
def insM (c : List Nat → List Nat → Int) (t : List Nat) (xs : List (List Nat)) : List (List Nat) := xs.filter (fun x => decide (c x t < 1)) ++ [t] ++ xs.filter (fun x => decide (c x t = 1))
def sortM (c : List Nat → List Nat → Int) (ts : List (List Nat)) : List (List Nat) := ts.foldl (fun acc t => insM c t acc) []
abbrev Up (c : List Nat → List Nat → Int) (xs : List (List Nat)) : Prop := xs.Pairwise fun x y => c x y ≤ 0
theorem ins_up2 {c : List Nat → List Nat → Int} (t : TC c) {xs : List (List Nat)} (h : Up c xs) (z : List Nat) : Up c (insM c z xs) := by
  unfold insM Up
  rw [List.append_assoc, List.pairwise_append]
  refine ⟨h.filter _, ?_, fun x hx y hy => ?_⟩
  · rw [List.singleton_append, List.pairwise_cons]
    refine ⟨fun y hy => ?_, h.filter _⟩
    have := (List.mem_filter.mp hy).2
    have q := t.sw y z
    simp at this
    omega
  · have h1 := (List.mem_filter.mp hx).2
    simp at h1
    have h1 : c x z ≤ 0 := by omega
    rw [List.singleton_append] at hy
    rcases List.mem_cons.mp hy with rfl | hy
    · exact h1
    · have h2 := (List.mem_filter.mp hy).2
      have q := t.sw y z
      simp at h2
      exact t.tr x z y h1 (by omega)
theorem ins_perm2 (c : List Nat → List Nat → Int) (t : TC c) (z : List Nat) (xs : List (List Nat)) : (insM c z xs).Perm (z :: xs) := by
  unfold insM
  have e : xs.filter (fun x => decide (c x z = 1)) = xs.filter (fun x => !decide (c x z < 1)) := by
    refine List.filter_congr fun x _ => ?_
    have := t.rng x z
    by_cases h : c x z = 1
    · simp [h]
    · simp [h]; omega
  rw [e, List.append_assoc, List.singleton_append]
  exact List.perm_middle.trans ((List.filter_append_perm _ xs).cons z)
theorem sort_snoc (c : List Nat → List Nat → Int) (ts : List (List Nat)) (z : List Nat) : sortM c (ts ++ [z]) = insM c z (sortM c ts) := by simp [sortM, List.foldl_append]
theorem sort_upM {c : List Nat → List Nat → Int} (t : TC c) (ts : List (List Nat)) : Up c (sortM c ts) := by
  suffices h : ∀ (ts acc : List (List Nat)), Up c acc → Up c (ts.foldl (fun acc t => insM c t acc) acc) from h ts [] .nil
  intro ts
  induction ts with
  | nil => exact fun _ h => h
  | cons z ts ih => exact fun acc h => ih _ (ins_up2 t h z)
theorem sort_permM {c : List Nat → List Nat → Int} (t : TC c) (ts : List (List Nat)) : (sortM c ts).Perm ts := by
  suffices h : ∀ (ts acc : List (List Nat)), (ts.foldl (fun acc t => insM c t acc) acc).Perm (acc ++ ts) by simpa [sortM] using h ts []
  intro ts
  induction ts with
  | nil => intro acc; simp
  | cons z ts ih =>
    intro acc
    refine (ih _).trans ?_
    have e : (acc ++ z :: ts).Perm ((z :: acc) ++ ts) := by
      rw [List.cons_append]
      exact List.perm_middle
    exact ((ins_perm2 c t z acc).append_right ts).trans e.symm
/-- where a text is set -/
theorem ins_take {c : List Nat → List Nat → Int} (t : TC c) {xs : List (List Nat)} (h : Up c xs) (z : List Nat) {k : Nat} (hk : k ≤ xs.length) (h1 : ∀ x ∈ xs.drop k, c x z = 1) (h2 : ∀ x, (xs.take k).getLast? = some x → c x z ≤ 0) :
    insM c z xs = xs.take k ++ [z] ++ xs.drop k := by
  have lo : ∀ x ∈ xs.take k, c x z ≤ 0 := by
    intro x hx
    have ht : Up c (xs.take k) := h.sublist (List.take_sublist _ _)
    generalize xs.take k = ys at hx h2 ht
    cases e : ys.getLast? with
    | none => rw [List.getLast?_eq_none_iff] at e; subst e; cases hx
    | some y =>
      obtain ⟨ws, rfl⟩ := List.getLast?_eq_some_iff.mp e
      have hy := h2 y e
      rcases List.mem_append.mp hx with hx | hx
      · exact t.tr x y z ((List.pairwise_append.mp ht).2.2 x hx y (by simp)) hy
      · rw [List.mem_singleton.mp hx]; exact hy
  unfold insM
  have e1 : xs.filter (fun x => decide (c x z < 1)) = xs.take k := by
    conv => lhs; rw [← List.take_append_drop k xs]
    rw [List.filter_append, List.filter_eq_self.mpr, List.filter_eq_nil_iff.mpr, List.append_nil]
    · intro x hx; have := h1 x hx; simp; omega
    · intro x hx; have := lo x hx; simp; omega
  have e2 : xs.filter (fun x => decide (c x z = 1)) = xs.drop k := by
    conv => lhs; rw [← List.take_append_drop k xs]
    rw [List.filter_append, List.filter_eq_nil_iff.mpr (fun x hx => by have := lo x hx; simp; omega), List.filter_eq_self.mpr (fun x hx => by have := h1 x hx; simp; omega), List.nil_append]
  rw [e1, e2]
theorem check_list_w {xs : List (List Nat)} {d : D} (hd : d = .lst (xs.map .str)) (hl : 1 ≤ xs.length ∧ xs.length ≤ 12) (ht : ∀ x ∈ xs, TV x) (h : Q .non S) : wp (m_check_list S [d]) Q X := by
  subst hd
  unfold m_check_list b_check_list
  with_reducible refine w_fn2 (by simp only [List.map_cons, List.map_nil, List.replicate, List.cons_append, List.nil_append, Nat.reduceSub]; exact rfl) ?_
  repeat' first
   | with_reducible refine ⟨_, len_l, ?_⟩
   | with_reducible refine ⟨_, (rfl : leD _ _ _ = some _), ?_⟩
   | (with_reducible refine .inl ⟨_, rfl, ?_⟩)
   | walk_at "runb"
   | fail
  all_goals simp only [List.length_map] at *
  · omega
  · refine ⟨by omega, ?_⟩
    refine lc_map D.str (fun _ => D.bl true) xs (fun x hx => ⟨_, rfl, rfl, ?_⟩) ?_
    · have tv := ht x hx
      refine wp_eq ?_
      repeat' first
       | ((with_reducible refine text_w (Nat.le_trans tv.len (by decide)) fun _ hd => ?_) ; subst hd)
       | walk_at "runb"
       | fail
      refine ⟨?_, rfl⟩
      rw [tv.all]
      simpa using tv.len
    · have e : blsOf (xs.map fun _ => D.bl true) = some (xs.map fun _ => true) := bls_map (fun _ => true) xs
      refine w_nil ⟨_, congrArg (Option.map _) e, _, rfl, ?_⟩
      refine ⟨fun hb => ?_, fun hb => ?_⟩
      · exfalso; simp at hb
      · apply s_next
        exact h
  · omega
theorem place_w {xs : List (List Nat)} {z : List Nat} {d : D} (hx : seqD S d = some (xs.map .str)) (hl : xs.length ≤ 900) (tx : ∀ x ∈ xs, TV x) (tz : TV z) (up : Up (toldM cs fg br en tn) xs)
    (h : ∀ (k : Nat) T, k ≤ xs.length → insM (toldM cs fg br en tn) z xs = xs.take k ++ [z] ++ xs.drop k → Q (.int (k : Int)) (S ++ T)) : wp (m_place_for S [ruleD cs fg br en tn, d, .str z]) Q X := by
  unfold m_place_for b_place_for
  with_reducible refine w_fn2 (by simp only [List.map_cons, List.map_nil, List.replicate, List.cons_append, List.nil_append, Nat.reduceSub]; exact rfl) ?_
  repeat' first
   | with_reducible refine ⟨_, len_seq hx, ?_⟩
   | walk_at "runb"
   | fail
  refine whl_inv (fun n e S1 => ∃ (k : Nat) (T : Store), k < n ∧ k ≤ xs.length ∧ (∀ x ∈ xs.drop k, toldM cs fg br en tn x z = 1) ∧ S1 = S ++ T ∧ e = [some (ruleD cs fg br en tn), some d, some (.str z), some (.int (k : Int))]) ?_ ?_ 1000 _ _ ⟨xs.length, [], by omega, by omega, by simp, by simp, by simp⟩
  · rintro n e S1 ⟨k, T, h1, h2, h3, rfl, rfl⟩
    cases k with
    | zero =>
      repeat' first
       | with_reducible refine ⟨_, (rfl : gtD _ _ _ = some _), ?_⟩
       | walk_at "runb"
       | fail
      refine h 0 T (by omega) (ins_take (TC.told cs fg br en tn) up z (by omega) h3 (by simp))
    | succ k =>
      have hk : k < xs.length := by omega
      have i1 : ∀ T, ixD (S ++ T) d (.int (((k + 1 : Nat) : Int) - 1)) = some (.str xs[k]) := fun T => by
        rw [ix_seq (seq_app hx), show (((k + 1 : Nat) : Int) - 1) = (k : Int) by omega, L3.atI_nat]
        simp [hk]
      have tk := tx xs[k] (List.getElem_mem hk)
      repeat' first
       | with_reducible refine ⟨_, (rfl : gtD _ _ _ = some _), ?_⟩
       | with_reducible refine ⟨_, (rfl : subD _ _ _ = some _), ?_⟩
       | with_reducible refine ⟨_, i1 _, ?_⟩
       | ((with_reducible refine told_w tk tz fun _ hd T => ?_) ; subst hd)
       | walk_at "runb"
       | fail
      · rename_i T0 _
        refine ⟨k, T0 ++ T, by omega, by omega, fun x hx => ?_, List.append_assoc _ _ _, by rw [show (((k + 1 : Nat) : Int) - 1) = (k : Int) by omega]⟩
        rw [List.drop_eq_getElem_cons hk] at hx
        rcases List.mem_cons.mp hx with rfl | hx
        · exact hb
        · exact h3 x hx
      · rename_i T0 _
        rw [List.append_assoc]
        refine h (k + 1) _ h2 (ins_take (TC.told cs fg br en tn) up z h2 h3 fun x hx => ?_)
        rw [List.take_succ_eq_append_getElem hk, List.getLast?_concat] at hx
        cases hx
        have := (TC.told cs fg br en tn).rng xs[k] z
        omega
      · exfalso; omega
  · rintro e S1 ⟨k, T, h1, -⟩
    omega
theorem in_order_w {xs : List (List Nat)} (hl : xs.length ≤ 300) (tx : ∀ x ∈ xs, TV x) (h : ∀ r, r = .lst ((sortM (toldM cs fg br en tn) xs).map .str) → ∀ T, Q r (S ++ T)) : wp (m_in_order S [ruleD cs fg br en tn, .lst (xs.map .str)]) Q X := by
  unfold m_in_order b_in_order
  with_reducible refine w_fn2 (by simp only [List.map_cons, List.map_nil, List.replicate, List.cons_append, List.nil_append, Nat.reduceSub]; exact rfl) ?_
  repeat' first
   | (with_reducible refine .inl ⟨_, rfl, ?_⟩)
   | walk_at "runb"
   | fail
  refine go_inv (fun items e S1 => ∃ (pre rest : List (List Nat)) (x : Option D) (T : Store), xs = pre ++ rest ∧ items = rest.map D.str ∧ e = [some (ruleD cs fg br en tn), some (.lst (xs.map .str)), some (.loc S.length), x] ∧ S1 = S ++ [.lst ((sortM (toldM cs fg br en tn) pre).map .str)] ++ T) ?_ ?_ _ _ _ ⟨[], xs, _, [], rfl, rfl, rfl, by simp [sortM]⟩
  · rintro e S1 ⟨pre, rest, x, T, hs, hi, rfl, rfl⟩
    cases rest with
    | cons => cases hi
    | nil =>
      rw [List.append_nil] at hs
      subst hs
      have fz : fzD (.loc S.length) (S ++ [.lst ((sortM (toldM cs fg br en tn) xs).map .str)] ++ T) = some (.lst ((sortM (toldM cs fg br en tn) xs).map .str), S ++ [.dead] ++ T) := by
        simp only [fzD, st_getA, st_setA]
      repeat' first
       | with_reducible refine ⟨_, _, fz, ?_⟩
       | walk_at "runb"
       | fail
      rw [List.append_assoc]
      exact h _ rfl _
  · rintro d ds e S1 ⟨pre, rest, x, T, hs, hi, rfl, rfl⟩
    cases rest with
    | nil => cases hi
    | cons z rest =>
      cases hi
      refine ⟨_, rfl, ?_⟩
      with_reducible refine ws_env (by simp only [List.set_cons_succ, List.set_cons_zero]; exact rfl) ?_
      have pm := sort_permM (TC.told cs fg br en tn) pre
      have txs : ∀ y ∈ sortM (toldM cs fg br en tn) pre, TV y := fun y hy => tx y (by rw [hs]; exact List.mem_append_left _ (pm.mem_iff.mp hy))
      have tz : TV z := tx z (by rw [hs]; simp)
      have ln : (sortM (toldM cs fg br en tn) pre).length ≤ 300 := by
        rw [pm.length_eq]
        have := congrArg List.length hs
        simp at this
        omega
      have tl : tyList (S ++ [.lst ((sortM (toldM cs fg br en tn) pre).map .str)] ++ T) (.loc S.length) = true := by
        unfold tyList
        rw [seqA]; rfl
      repeat' first
       | with_reducible refine ⟨tl, ?_⟩
       | (with_reducible refine place_w seqA (Nat.le_trans ln (by decide)) txs tz (sort_upM (TC.told cs fg br en tn) pre) fun k T2 hk hins => ?_)
       | walk_at "runb"
       | fail
      have ins : ∀ T2, insertD (S ++ [.lst ((sortM (toldM cs fg br en tn) pre).map .str)] ++ T2) (.loc S.length) [.int (k : Int), .str z] = some (.non, S ++ [.lst ((sortM (toldM cs fg br en tn) (pre ++ [z])).map .str)] ++ T2) := fun T2 => by
        unfold insertD
        dsimp only
        rw [st_getA]
        dsimp only
        rw [if_pos ⟨by simp; omega, by omega, by omega⟩, st_setA, sort_snoc, hins]
        simp
      rw [List.append_assoc]
      refine ⟨_, _, ins _, stepZ_nx ⟨pre ++ [z], rest, _, _, by rw [hs]; simp, rfl, rfl, rfl⟩⟩
theorem sorted_by_w {xs : List (List Nat)} (r : RV cs fg br en tn) (hl : 1 ≤ xs.length ∧ xs.length ≤ 12) (tx : ∀ x ∈ xs, TV x) (h : ∀ r, r = .lst ((sortM (toldM cs fg br en tn) xs).map .str) → ∀ T, Q r (S ++ T)) : wp (m_sorted_by S [ruleD cs fg br en tn, .lst (xs.map .str)]) Q X := by
  unfold m_sorted_by b_sorted_by
  with_reducible refine w_fn2 (by simp only [List.map_cons, List.map_nil, List.replicate, List.cons_append, List.nil_append, Nat.reduceSub]; exact rfl) ?_
  repeat' first
   | (with_reducible refine check_rule_w r ?_)
   | (with_reducible refine check_list_w rfl hl tx ?_)
   | walk_at "runb"
   | fail
  exact in_order_w (by omega) tx h
/-- the places that are not in order -/
def wrongAt (c : List Nat → List Nat → Int) (xs : List (List Nat)) (k : Nat) : Bool := decide (c (xs.getD (k - 1) []) (xs.getD k []) = 1)
def wrongM (c : List Nat → List Nat → Int) (xs : List (List Nat)) : List Nat := (List.range' 1 (xs.length - 1)).filter (wrongAt c xs)
def headD : List Nat → D
  | k :: _ => .int (k : Int)
  | [] => .non
theorem ints_range : ∀ (n k : Nat), L3.intsFrom (k : Int) n = (List.range' k n).map fun (j : Nat) => D.int (j : Int)
  | 0, k => rfl
  | n + 1, k => by
    rw [ints_cons, List.range'_succ, List.map_cons, ← ints_range n (k + 1)]
    rfl
theorem ix_strs {xs : List (List Nat)} {k : Nat} (h : k < xs.length) : ixD S (.lst (xs.map .str)) (.int (k : Int)) = some (.str (xs.getD k [])) := by
  rw [ix_l, L3.atI_nat]
  simp [h]
theorem ix_strs1 {xs : List (List Nat)} {k : Nat} (h1 : 1 ≤ k) (h : k < xs.length) : ixD S (.lst (xs.map .str)) (.int ((k : Int) - 1)) = some (.str (xs.getD (k - 1) [])) := by
  rw [show ((k : Int) - 1) = ((k - 1 : Nat) : Int) by omega]
  exact ix_strs (by omega)
theorem TV_getD {xs : List (List Nat)} (tx : ∀ x ∈ xs, TV x) {k : Nat} (h : k < xs.length) : TV (xs.getD k []) := by
  have e : xs.getD k [] = xs[k] := by simp [h]
  rw [e]
  exact tx _ (List.getElem_mem h)
theorem isD_head {l : List Nat} : isD S (headD l) .non = some (.bl (decide (l = []))) := by
  cases l <;> rfl
theorem isnD_head {l : List Nat} : isnD S (headD l) .non = some (.bl (!decide (l = []))) := by
  cases l <;> rfl
end
end G
set_option Elab.async false
set_option linter.all false
set_option maxRecDepth 100000
set_option maxHeartbeats 1000000
namespace G
open PySem PySem.Spec L2 L3
noncomputable section
variable {Q : D → Store → Prop} {X : Nat → Store → Prop} {S R : Store} {cs fg br en : List Nat} {tn : Int}
theorem DS.app {T : Store} (h : DS R S) : DS (R ++ T) (S ++ T) := by
  obtain ⟨nums, c, rfl, h1, h2⟩ := h
  exact ⟨nums, c, rfl, h1, h2⟩
theorem DS.len (h : DS R S) : S.length = R.length + 2 := by
  obtain ⟨nums, c, rfl, h1, h2⟩ := h
  simp
theorem DS.get (h : DS R S) (i : Nat) : S[i + 2]? = R[i]? := by
  obtain ⟨nums, c, rfl, h1, h2⟩ := h
  rfl
theorem DS.set (h : DS R S) (i : Nat) (c : Cell) : DS (R.set i c) (S.set (i + 2) c) := by
  obtain ⟨nums, k, rfl, h1, h2⟩ := h
  exact ⟨nums, k, rfl, h1, h2⟩
theorem RV.turn (r : RV cs fg br en tn) : RV cs fg br en (1 - tn) := ⟨r.cs, r.fg, r.br, r.en, by have := r.tn; omega⟩
theorem told_turn (r : RV cs fg br en tn) (a b : List Nat) : toldM cs fg br en (1 - tn) a b = - toldM cs fg br en tn a b := by
  unfold toldM
  rcases r.tn with rfl | rfl <;> simp
theorem sl4 : slD S (ruleD cs fg br en tn) none (some 4) = some (.tup [.str cs, .str fg, .str br, .str en]) := rfl
theorem add5 : addD S (.tup [.str cs, .str fg, .str br, .str en]) (.tup [.int tn]) = some (ruleD cs fg br en tn) := rfl
theorem pick_loc_w {ds : List D} {i : Nat} (hS : DS R S) (hi : R[i]? = some (.lst ds)) (hd : ds ≠ [] ∧ ds.length ≤ 100000) (h : ∀ d S', d ∈ ds → DS R S' → Q d S') : wp (m__law_pick S [.loc 1, .loc (i + 2)]) Q X := by
  have hp : (0 : Int) < (ds.length : Int) ∧ (ds.length : Int) < 1073741824 := by
    obtain ⟨h1, h2⟩ := hd
    cases ds with
    | nil => exact absurd rfl h1
    | cons => simp at h2 ⊢; omega
  have g : ∀ {S'}, DS R S' → S'[i + 2]? = some (.lst ds) := fun h => by rw [DS.get h]; exact hi
  unfold m__law_pick b__law_pick
  with_reducible refine w_fn2 (by simp only [List.map_cons, List.map_nil, List.replicate, List.cons_append, List.nil_append, Nat.reduceSub]; exact rfl) ?_
  repeat' first
   | with_reducible refine ⟨_, len_loc (g hS), ?_⟩
   | (with_reducible refine draw_kw hS hp fun k S' r1 hS' => ?_)
   | walk_at "runb"
   | fail
  have hk : k < ds.length := by omega
  refine ⟨ds[k], ?_, fnZ_rt (h _ _ (List.getElem_mem hk) hS')⟩
  rw [ix_loc (g hS'), L3.atI_nat]
  simp [hk]
theorem append_loc {ds : List D} {i : Nat} {d : D} (hS : DS R S) (hi : R[i]? = some (.lst ds)) (hl : ds.length < 100000) : appendD S (.loc (i + 2)) [d] = some (.non, S.set (i + 2) (.lst (ds ++ [d]))) := by
  unfold appendD
  dsimp only
  rw [DS.get hS, hi]
  dsimp only
  rw [if_pos hl]
theorem tyL_loc {ds : List D} {i : Nat} (hS : DS R S) (hi : R[i]? = some (.lst ds)) : tyList S (.loc (i + 2)) = true := by
  unfold tyList seqD
  dsimp only
  rw [DS.get hS, hi]
  rfl
theorem perm_TV {xs ys : List (List Nat)} (p : ys.Perm xs) (h : ∀ x ∈ xs, TV x) : ∀ y ∈ ys, TV y := fun y hy => h y (p.mem_iff.mp hy)
/-- a list that is in order is not moved -/
theorem sort_self {c : List Nat → List Nat → Int} (t : TC c) : ∀ {xs : List (List Nat)}, Up c xs → sortM c xs = xs := by
  intro xs
  suffices h : ∀ (ys acc : List (List Nat)), Up c (acc ++ ys) → ys.foldl (fun acc t => insM c t acc) acc = acc ++ ys by
    intro h2
    simpa [sortM] using h xs [] (by simpa using h2)
  intro ys
  induction ys with
  | nil => intro acc _; simp
  | cons z ys ih =>
    intro acc hu
    rw [List.foldl_cons]
    have hz : ∀ x ∈ acc, c x z ≤ 0 := fun x hx => (List.pairwise_append.mp hu).2.2 x hx z (by simp)
    have e : insM c z acc = acc ++ [z] := by
      unfold insM
      rw [List.filter_eq_self.mpr (fun x hx => by have := hz x hx; simp; omega), List.filter_eq_nil_iff.mpr (fun x hx => by have := hz x hx; simp; omega), List.append_nil]
    rw [e, ih _ (by simpa using hu)]
    simp
theorem wrong_nil {c : List Nat → List Nat → Int} (t : TC c) {xs : List (List Nat)} : wrongM c xs = [] ↔ Up c xs := by
  unfold wrongM Up
  rw [List.filter_eq_nil_iff]
  constructor
  · intro h
    rw [List.pairwise_iff_getElem]
    have step : ∀ i, (hi : i + 1 < xs.length) → c xs[i] xs[i + 1] ≤ 0 := by
      intro i hi
      have q := h (i + 1) (by rw [List.mem_range'_1]; omega)
      have r := t.rng xs[i] xs[i + 1]
      simp [wrongAt, show i < xs.length by omega, hi] at q
      omega
    have go : ∀ (n i : Nat) (hi : i + n + 1 < xs.length), c xs[i] (xs[i + n + 1]) ≤ 0 := by
      intro n
      induction n with
      | zero => intro i hi; exact step i hi
      | succ n ih => intro i hi; exact t.tr _ _ _ (ih i (by omega)) (step (i + n + 1) hi)
    intro i j hi hj hij
    have q := go (j - i - 1) i (by omega)
    have e : i + (j - i - 1) + 1 = j := by omega
    simp only [e] at q
    exact q
  · intro h k hk
    rw [List.mem_range'_1] at hk
    rw [List.pairwise_iff_getElem] at h
    have q := h (k - 1) k (by omega) (by omega) (by omega)
    simp [wrongAt, show k - 1 < xs.length by omega, show k < xs.length by omega]
    omega
theorem sort_up_eq {c : List Nat → List Nat → Int} (t : TC c) {xs : List (List Nat)} : sortM c xs = xs ↔ Up c xs := ⟨fun h => by rw [← h]; exact sort_upM t xs, sort_self t⟩
/-! a text set ahead of its likes -/
def insF (c : List Nat → List Nat → Int) (z : List Nat) (xs : List (List Nat)) : List (List Nat) := xs.filter (fun y => decide (c y z < 0)) ++ [z] ++ xs.filter (fun y => !decide (c y z < 0))
theorem filter_comm2 (p q : List Nat → Bool) (xs : List (List Nat)) : (xs.filter p).filter q = (xs.filter q).filter p := by
  rw [List.filter_filter, List.filter_filter]
  exact List.filter_congr fun x _ => Bool.and_comm _ _
theorem ins_comm {c : List Nat → List Nat → Int} (tc : TC c) (t z : List Nat) (xs : List (List Nat)) : insM c t (insF c z xs) = insF c z (insM c t xs) := by
  have e : ∀ ys : List (List Nat), ys.filter (fun x => decide (c x t = 1)) = ys.filter (fun x => !decide (c x t < 1)) := fun ys => List.filter_congr fun x _ => by
    have := tc.rng x t
    by_cases h : c x t = 1
    · simp [h]
    · simp [h]; omega
  have sz := tc.sw z t
  have rz := tc.rng z t
  unfold insM insF
  simp only [e, List.filter_append]
  by_cases h : c z t < 1
  · have a1 : (xs.filter fun y => decide (c y z < 0)).filter (fun x => decide (c x t < 1)) = xs.filter fun y => decide (c y z < 0) := List.filter_eq_self.mpr fun y hy => by
      have q := (List.mem_filter.mp hy).2
      simp at q
      have := tc.tr y z t (by omega) (by omega)
      simp; omega
    have a2 : (xs.filter fun y => decide (c y z < 0)).filter (fun x => !decide (c x t < 1)) = [] := List.filter_eq_nil_iff.mpr fun y hy => by
      have q := (List.mem_filter.mp hy).2
      simp at q
      have := tc.tr y z t (by omega) (by omega)
      simp; omega
    have a3 : (xs.filter fun x => !decide (c x t < 1)).filter (fun y => decide (c y z < 0)) = [] := by
      rw [filter_comm2]; exact a2
    have a4 : (xs.filter fun x => decide (c x t < 1)).filter (fun y => decide (c y z < 0)) = xs.filter fun y => decide (c y z < 0) := by
      rw [filter_comm2]; exact a1
    have b1 : (xs.filter fun x => decide (c x t < 1)).filter (fun y => !decide (c y z < 0)) = (xs.filter fun y => !decide (c y z < 0)).filter (fun x => decide (c x t < 1)) := filter_comm2 _ _ _
    have b2 : (xs.filter fun x => !decide (c x t < 1)).filter (fun y => !decide (c y z < 0)) = (xs.filter fun y => !decide (c y z < 0)).filter (fun x => !decide (c x t < 1)) := filter_comm2 _ _ _
    rw [a1, a2, a3, a4, b1, b2]
    have d1 : decide (c z t < 1) = true := by simp; omega
    have d2 : decide (c t z < 0) = false := by simp; omega
    simp [List.filter_cons, d1, d2]
  · have a1 : (xs.filter fun y => !decide (c y z < 0)).filter (fun x => decide (c x t < 1)) = [] := List.filter_eq_nil_iff.mpr fun y hy => by
      have q := (List.mem_filter.mp hy).2
      simp at q
      intro h2
      simp at h2
      have s1 := tc.sw y z
      have := tc.tr z y t (by omega) (by omega)
      omega
    have a3 : (xs.filter fun x => decide (c x t < 1)).filter (fun y => !decide (c y z < 0)) = [] := by
      rw [filter_comm2]; exact a1
    have b1 : (xs.filter fun x => decide (c x t < 1)).filter (fun y => decide (c y z < 0)) = (xs.filter fun y => decide (c y z < 0)).filter (fun x => decide (c x t < 1)) := filter_comm2 _ _ _
    have b2 : (xs.filter fun x => !decide (c x t < 1)).filter (fun y => !decide (c y z < 0)) = (xs.filter fun y => !decide (c y z < 0)).filter (fun x => !decide (c x t < 1)) := filter_comm2 _ _ _
    have b3 : (xs.filter fun x => !decide (c x t < 1)).filter (fun y => decide (c y z < 0)) = (xs.filter fun y => decide (c y z < 0)).filter (fun x => !decide (c x t < 1)) := filter_comm2 _ _ _
    rw [a1, a3, b1, b2, b3]
    have d1 : decide (c z t < 1) = false := by simp; omega
    have d2 : decide (c t z < 0) = true := by simp; omega
    simp [List.filter_cons, d1, d2]
theorem snoc_ind {P : List (List Nat) → Prop} (h0 : P []) (hs : ∀ xs x, P xs → P (xs ++ [x])) (xs : List (List Nat)) : P xs := by
  have h : ∀ ys : List (List Nat), P ys.reverse := by
    intro ys
    induction ys with
    | nil => exact h0
    | cons y ys ih => rw [List.reverse_cons]; exact hs _ _ ih
  have := h xs.reverse
  rwa [List.reverse_reverse] at this
theorem sort_cons {c : List Nat → List Nat → Int} (tc : TC c) (z : List Nat) (xs : List (List Nat)) : sortM c (z :: xs) = insF c z (sortM c xs) := by
  refine snoc_ind (P := fun xs => sortM c (z :: xs) = insF c z (sortM c xs)) rfl (fun xs x ih => ?_) xs
  rw [← List.cons_append, sort_snoc, ih, sort_snoc, ins_comm tc]
theorem sort_rev {c c' : List Nat → List Nat → Int} (tc : TC c) (tc' : TC c') (h : ∀ a b, c' a b = - c a b) (xs : List (List Nat)) : sortM c' xs.reverse = (sortM c xs).reverse := by
  refine snoc_ind (P := fun xs => sortM c' xs.reverse = (sortM c xs).reverse) rfl (fun xs x ih => ?_) xs
  rw [List.reverse_append, List.reverse_singleton, List.singleton_append, sort_cons tc', ih, sort_snoc]
  unfold insF insM
  simp only [List.reverse_append, List.filter_reverse, List.reverse_singleton, List.append_assoc]
  have e1 : (fun y => decide (c' y x < 0)) = fun y => decide (c y x = 1) := by
    funext y
    rw [h, Bool.eq_iff_iff]
    have := tc.rng y x
    simp; omega
  have e2 : (fun y => !decide (c' y x < 0)) = fun y => decide (c y x < 1) := by
    funext y
    rw [h, Bool.eq_iff_iff]
    have := tc.rng y x
    simp; omega
  rw [e1, e2]
theorem nats_ints (l : List Nat) : l.map (fun (j : Nat) => D.int (j : Int)) = (l.map fun (j : Nat) => (j : Int)).map D.int := by rw [List.map_map]; rfl
theorem neD_nats {l : List Nat} : neD S (.lst (l.map fun (j : Nat) => D.int (j : Int))) (.lst []) = some (.bl (!decide (l = []))) := by
  have q := neD_ints (S := S) (xs := l.map fun (j : Nat) => (j : Int)) (ys := [])
  rw [nats_ints]
  refine q.trans ?_
  cases l <;> simp
theorem eqD_nats {l : List Nat} : eqD S (.lst (l.map fun (j : Nat) => D.int (j : Int))) (.lst []) = some (.bl (decide (l = []))) := by
  have q := eqD_ints (S := S) (xs := l.map fun (j : Nat) => (j : Int)) (ys := [])
  rw [nats_ints]
  refine q.trans ?_
  cases l <;> simp
theorem ix_nats {k : Nat} {l : List Nat} : ixD S (.lst ((k :: l).map fun (j : Nat) => D.int (j : Int))) (.int 0) = some (.int (k : Int)) := by
  rw [ix_l]
  exact atI_zero _ _
theorem neD_hd {k : Nat} {l : List Nat} : neD S (headD (k :: l)) (.int (k : Int)) = some (.bl false) := by
  show neD S (.int (k : Int)) (.int (k : Int)) = _
  rw [neD_ii]; simp
theorem neD_hn : neD S (headD []) .non = some (.bl false) := rfl
theorem isnD_bb {i j : Bool} : isnD S (.bl i) (.bl j) = some (.bl (!decide (i = j))) := by
  cases i <;> cases j <;> rfl
theorem neD_bb {i j : Bool} : neD S (.bl i) (.bl j) = some (.bl (!decide (i = j))) := by
  cases i <;> cases j <;> rfl
theorem rev_strs {xs : List (List Nat)} : revD S (.lst (xs.map .str)) = some (.lst (xs.reverse.map .str)) := by
  show some (D.lst (xs.map D.str).reverse) = _
  rw [List.map_reverse]
theorem sorted_strs {xs : List (List Nat)} (h : xs.length < 64) : sortedD S [.lst (xs.map .str)] = some (.lst ((sortN xs).map .str)) := by
  show ((strsOf (xs.map .str)).bind fun ls => if ls.length < 64 then some (D.lst ((sortN ls).map .str)) else none) = _
  rw [strs_map]
  exact if_pos h
theorem sl_one {x : List Nat} {xs : List (List Nat)} : slD S (.lst ((x :: xs).map .str)) none (some 1) = some (.lst ([x].map .str)) := by
  show some (D.lst ((((x :: xs).map D.str).drop (HT.sIx ((x :: xs).map D.str).length 0 none)).take (HT.sIx ((x :: xs).map D.str).length ((x :: xs).map D.str).length (some ((1 : Nat) : Int)) - HT.sIx ((x :: xs).map D.str).length 0 none))) = _
  rw [HT.sIx_nat, HT.sIx_none]
  simp
theorem mul12 {x : List Nat} : mulD S (.lst ([x].map .str)) (.int 12) = some (.lst ((List.replicate 12 x).map .str)) := by
  show (if (0 : Int) ≤ 12 ∧ (12 : Int) ≤ 1000 ∧ ([x].map D.str).length ≤ 100 then some (D.lst (repL 12 ([x].map D.str))) else none) = _
  rw [if_pos ⟨by decide, by decide, by simp⟩]
  rfl
end
end G
set_option Elab.async false
set_option linter.all false
set_option maxRecDepth 100000
set_option maxHeartbeats 400000
namespace G
open PySem PySem.Spec L2 L3
noncomputable section
variable {cs fg br en : List Nat} {tn : Int}
/-- texts in the order of their signs -/
def cmpN (a b : Nat) : Int := cmpI a b
theorem TC.nat : TC cmpN := TC.int.map _
def cmpT : List Nat → List Nat → Int := lexM cmpN (-1)
theorem TC.texts : TC cmpT := TC.nat.lex (.inr rfl)
theorem cmpT_cons (a b : Nat) (as bs : List Nat) : cmpT (a :: as) (b :: bs) = if cmpN a b = 0 then cmpT as bs else cmpN a b := rfl
theorem cmpI_cases (a b : Int) : (a = b ∧ cmpI a b = 0) ∨ (a < b ∧ cmpI a b = -1) ∨ (b < a ∧ cmpI a b = 1) := by
  unfold cmpI
  by_cases h : a = b
  · simp [h]
  · by_cases h2 : a < b
    · simp [h, h2]
    · simp [h, h2]; omega
theorem cmpT_lt : ∀ a b : List Nat, cmpT a b = if a = b then 0 else if a < b then -1 else 1
  | [], [] => rfl
  | [], _ :: _ => by simp [cmpT, lexM]
  | _ :: _, [] => by simp [cmpT, lexM]
  | x :: xs, y :: ys => by
    have ih := cmpT_lt xs ys
    rw [cmpT_cons, ih]
    unfold cmpN
    rcases cmpI_cases x y with ⟨h, e⟩ | ⟨h, e⟩ | ⟨h, e⟩ <;> rw [e]
    · have h : x = y := by omega
      subst h
      simp [List.cons_lt_cons_iff]
    · have h2 : x ≠ y := by omega
      have h3 : x < y := by omega
      simp [List.cons_lt_cons_iff, h2, h3]
    · have h2 : x ≠ y := by omega
      have h3 : ¬ x < y := by omega
      simp [List.cons_lt_cons_iff, h2, h3]
theorem lt2_cmp (a b : List Nat) : lt2 a b = decide (cmpT a b = -1) := by
  unfold lt2
  rw [cmpT_lt]
  by_cases h : a = b
  · subst h; simp [List.lt_irrefl]
  · by_cases h2 : a < b <;> simp [h, h2]
theorem cmpT_zero {a b : List Nat} : cmpT a b = 0 ↔ a = b := by
  rw [cmpT_lt]
  by_cases h : a = b
  · simp [h]
  · by_cases h2 : a < b <;> simp [h, h2]
theorem cut_false (s : List Nat) : cutM false s = s.map fun c => [c] := by
  suffices h : ∀ (s : List Nat) (acc : List (List Nat)), s.foldl (stepC false) acc = acc ++ s.map fun c => [c] by simpa [cutM] using h s []
  intro s
  induction s with
  | nil => simp
  | cons c s ih => intro acc; rw [List.foldl_cons, ih]; simp [stepC]
def swN (m x : Nat) : Nat := if x = 95 then m else x
theorem rep_one (m : Nat) (a : List Nat) : repM 95 [m] a = a.map (swN m) := by
  induction a with
  | nil => rfl
  | cons x a ih => rw [repM_cons, ih, List.map_cons]; unfold swN; by_cases h : x = 95 <;> simp [h]
/-- the kinds of signs -/
theorem kinds {c : Nat} (h : isSign c = true) : c = 95 ∨ (48 ≤ c ∧ c ≤ 57) ∨ (65 ≤ c ∧ c ≤ 90) ∨ (97 ≤ c ∧ c ≤ 122) := by
  simp [isSign, isDig, isUp, isLo] at h; omega
theorem keyP_one {c : Nat} : keyP cs br [c] = rankM cs br c := by
  unfold keyP
  cases e : isDig c with
  | false => simp [e]
  | true => simp [rank_dig e, digV]; simp [isDig] at e; omega
theorem rk_bar : rankM cs br 95 = [if br = sAhead then 0 else 3, 0, 0] := rfl
theorem rk_dig {c : Nat} (h : 48 ≤ c ∧ c ≤ 57) : rankM cs br c = [1, (c : Int) - 48, 0] := rank_dig (by simp [isDig, h])
theorem rk_up {c : Nat} (h : 65 ≤ c ∧ c ≤ 90) : rankM cs br c = if cs = sApart then [2, 0, (c : Int)] else [2, (c : Int) + 32, 0] := by
  unfold rankM
  rw [if_neg (by omega), if_neg (by simp [isDig]; omega)]
  have e : isUp c = true := by simp [isUp, h]
  have e2 : (loA c : Int) = c + 32 := by simp [loA, h]
  simp [e, e2]
theorem rk_lo {c : Nat} (h : 97 ≤ c ∧ c ≤ 122) : rankM cs br c = if cs = sApart then [2, 1, (c : Int)] else [2, (c : Int), if cs = sMixed then 1 else 0] := by
  unfold rankM
  rw [if_neg (by omega), if_neg (by simp [isDig]; omega)]
  have e : isUp c = false := by simp [isUp]; omega
  have e2 : (loA c : Int) = c := by unfold loA; rw [if_neg (by omega)]
  simp [e, e2]
abbrev mk (br : List Nat) (m : Nat) : Prop := (br = sAhead ∧ m = 32) ∨ (br = sBehind ∧ m = 126)
theorem cmpN_eq (a b : Nat) : cmpN a b = if a = b then 0 else if a < b then -1 else 1 := by
  unfold cmpN
  rcases cmpI_cases a b with ⟨h, e⟩ | ⟨h, e⟩ | ⟨h, e⟩ <;> rw [e]
  · rw [if_pos (by omega)]
  · rw [if_neg (by omega), if_pos (by omega)]
  · rw [if_neg (by omega), if_neg (by omega)]
theorem nn_ne : ¬ sBehind = sAhead := by decide
/-- the rank of signs apart is the order of the signs -/
theorem apart_one {m c d : Nat} (hm : mk br m) (hc : isSign c = true) (hd : isSign d = true) : cmpP sApart br [c] [d] = cmpN (swN m c) (swN m d) := by
  unfold cmpP
  rw [keyP_one, keyP_one, cmpN_eq]
  rcases hm with ⟨rfl, rfl⟩ | ⟨rfl, rfl⟩ <;> rcases kinds hc with rfl | h | h | h <;> rcases kinds hd with rfl | g | g | g
  all_goals (try simp only [rk_dig h]) <;> (try simp only [rk_up h]) <;> (try simp only [rk_lo h]) <;> (try simp only [rk_dig g]) <;> (try simp only [rk_up g]) <;> (try simp only [rk_lo g])
  all_goals simp only [rk_bar, cmpL_cons, if_pos, nn_ne, if_false, swN]
  all_goals (repeat' split) <;> first | rfl | omega | (simp [cmpL, lexM]; done)
end
end G
set_option Elab.async false
set_option linter.all false
set_option maxRecDepth 100000
set_option maxHeartbeats 400000
namespace G
open PySem PySem.Spec L2 L3
noncomputable section
variable {cs fg br en : List Nat} {tn : Int}
theorem loA_bar : loA 95 = 95 := rfl
theorem lo_dig {c : Nat} (h : 48 ≤ c ∧ c ≤ 57) : loA c = c := by unfold loA; rw [if_neg (by omega)]
theorem lo_up {c : Nat} (h : 65 ≤ c ∧ c ≤ 90) : loA c = c + 32 := by simp [loA, h]
theorem lo_lo {c : Nat} (h : 97 ≤ c ∧ c ≤ 122) : loA c = c := by unfold loA; rw [if_neg (by omega)]
theorem swl {m c : Nat} (hm : m = 32 ∨ m = 126) (h : isSign c = true) : loA (swN m c) = if c = 95 then m else loA c := by
  unfold swN
  by_cases e : c = 95
  · rw [if_pos e, if_pos e]; rcases hm with rfl | rfl <;> rfl
  · rw [if_neg e, if_neg e]
theorem low_one {m c d : Nat} (hm : mk br m) (hc : isSign c = true) (hd : isSign d = true) : cmpP sTogether br [c] [d] = cmpN (loA (swN m c)) (loA (swN m d)) := by
  have hm2 : m = 32 ∨ m = 126 := by rcases hm with h | h <;> simp [h.2]
  have n1 : ¬ sTogether = sApart := by decide
  have n2 : ¬ sTogether = sMixed := by decide
  unfold cmpP
  rw [swl hm2 hc, swl hm2 hd, keyP_one, keyP_one, cmpN_eq]
  rcases hm with ⟨rfl, rfl⟩ | ⟨rfl, rfl⟩ <;> rcases kinds hc with rfl | h | h | h <;> rcases kinds hd with rfl | g | g | g
  all_goals (try simp only [rk_dig h, lo_dig h]) <;> (try simp only [rk_up h, lo_up h]) <;> (try simp only [rk_lo h, lo_lo h]) <;> (try simp only [rk_dig g, lo_dig g]) <;> (try simp only [rk_up g, lo_up g]) <;> (try simp only [rk_lo g, lo_lo g])
  all_goals simp only [rk_bar, cmpL_cons, if_pos, nn_ne, n1, n2, if_false, loA_bar]
  all_goals (repeat' split) <;> first | rfl | omega | (simp [cmpL, lexM]; done)
theorem ap_ne : ¬ sApart = sLast := by decide
theorem to_ne : ¬ sTogether = sLast := by decide
theorem si_ne : ¬ sSigns = sStrict := by decide
theorem nu_ne : ¬ sNumbers = sStrict := by decide
theorem told_1 {cs fg : List Nat} (h1 : ¬ cs = sLast) (h2 : ¬ fg = sStrict) (a b : List Nat) : toldM cs fg br en 0 a b = lookM cs (numOf fg) br en a b := by
  unfold toldM looksM csOf
  rw [if_neg h1, if_neg h1, if_neg h2]
  simp [allM]
  exact fun h => h.symm
theorem numS : numOf sSigns = false := rfl
theorem numN : numOf sNumbers = true := rfl
theorem TV.sign {a : List Nat} (h : TV a) : ∀ c ∈ a, isSign c = true := fun c hc => List.all_eq_true.mp h.all c hc
theorem told_apart {m : Nat} {a b : List Nat} (hm : mk br m) (ha : TV a) (hb : TV b) : toldM sApart sSigns br sFirst 0 a b = cmpT (repM 95 [m] a) (repM 95 [m] b) := by
  rw [told_1 ap_ne si_ne, numS, lookM, cut_false, cut_false, rep_one, rep_one, cmpT, lex_map, lex_map]
  show lexM _ (-1) a b = _
  exact lex_congr fun c hc d hd => apart_one hm (ha.sign c hc) (hb.sign d hd)
theorem told_low {m : Nat} {a b : List Nat} (hm : mk br m) (ha : TV a) (hb : TV b) : toldM sTogether sSigns br sFirst 0 a b = cmpT ((repM 95 [m] a).map loA) ((repM 95 [m] b).map loA) := by
  rw [told_1 to_ne si_ne, numS, lookM, cut_false, cut_false, rep_one, rep_one, List.map_map, List.map_map, cmpT, lex_map, lex_map]
  show lexM _ (-1) a b = _
  exact lex_congr fun c hc d hd => low_one hm (ha.sign c hc) (hb.sign d hd)
theorem told_neg {a b : List Nat} : toldM cs fg br en 1 a b = - toldM cs fg br en 0 a b := by
  unfold toldM
  rw [if_pos rfl, if_neg (by decide)]
  omega
/-- an end that stands behind is a great sign at the end -/
theorem lex_far {c : Nat → Nat → Int} {z : Nat} : ∀ {xs ys : List Nat}, (∀ x ∈ xs, c x z = -1) → (∀ y ∈ ys, c z y = 1) → c z z = 0 → lexM c 1 xs ys = lexM c (-1) (xs ++ [z, z]) (ys ++ [z, z])
  | [], [], _, _, h => by simp [lexM, h]
  | [], y :: ys, _, h2, h => by simp [lexM, h2 y (by simp)]
  | x :: xs, [], h1, _, h => by simp [lexM, h1 x (by simp)]
  | x :: xs, y :: ys, h1, h2, h => by
    have ih := lex_far (c := c) (z := z) (xs := xs) (ys := ys) (fun q hq => h1 q (by simp [hq])) (fun q hq => h2 q (by simp [hq])) h
    simp only [List.cons_append, lexM, ih]
theorem told_far {a b : List Nat} (ha : TV a) (hb : TV b) : toldM sApart sSigns sAhead sBehind 0 a b = cmpT (repM 95 [32] a ++ [126, 126]) (repM 95 [32] b ++ [126, 126]) := by
  have hm : mk sAhead 32 := .inl ⟨rfl, rfl⟩
  rw [told_1 ap_ne si_ne, numS, lookM, cut_false, cut_false, rep_one, rep_one, cmpT, lex_map]
  have e : eM sBehind = 1 := rfl
  rw [e]
  have q : lexM (fun c d => cmpP sApart sAhead [c] [d]) 1 a b = lexM cmpN 1 (a.map (swN 32)) (b.map (swN 32)) := by
    rw [lex_map]
    exact lex_congr fun c hc d hd => apart_one hm (ha.sign c hc) (hb.sign d hd)
  rw [q]
  have lt : ∀ c, isSign c = true → swN 32 c < 126 := fun c hc => by
    unfold swN
    rcases kinds hc with h | h | h | h <;> split <;> omega
  refine lex_far (fun x hx => ?_) (fun x hx => ?_) rfl
  · obtain ⟨c, hc, rfl⟩ := List.mem_map.mp hx
    have := lt c (ha.sign c hc)
    rw [cmpN_eq, if_neg (by omega), if_pos (by omega)]
  · obtain ⟨c, hc, rfl⟩ := List.mem_map.mp hx
    have := lt c (hb.sign c hc)
    rw [cmpN_eq, if_neg (by omega), if_neg (by omega)]
/-! keys of numbers -/
def pk (p : List Nat) : List Int := if p = [95] then [0, 0] else if (!p.isEmpty && p.all isDig) = true then [1, (digV p : Int)] else [2, (p.headD 0 : Int)]
def nkey (a : List Nat) : List (List Int) := (cutM true (a.map loA)).map pk
def cmpKey : List (List Int) → List (List Int) → Int := lexM cmpL (-1)
theorem TC.keys : TC cmpKey := TC.ints.lex (.inr rfl)
theorem lo_isdig (c : Nat) : isDig (loA c) = isDig c := by
  unfold loA isDig
  split
  · rw [decide_eq_decide]; omega
  · rfl
theorem all_lo (p : List Nat) : (p.map loA).all isDig = p.all isDig := by
  rw [List.all_map]
  congr 1
  funext c
  exact lo_isdig c
theorem lastDig_lo (acc : List (List Nat)) : lastDig (acc.map (List.map loA)) = lastDig acc := by
  rcases List.eq_nil_or_concat acc with rfl | ⟨acc, p, rfl⟩
  · rfl
  · simp only [List.concat_eq_append, List.map_append, List.map_cons, List.map_nil]
    rw [lastDig_snoc, lastDig_snoc, all_lo]
theorem addLast_lo (acc : List (List Nat)) (c : Nat) : addLast (acc.map (List.map loA)) (loA c) = (addLast acc c).map (List.map loA) := by
  rcases List.eq_nil_or_concat acc with rfl | ⟨acc, p, rfl⟩
  · rfl
  · simp only [List.concat_eq_append, List.map_append, List.map_cons, List.map_nil]
    rw [addLast_snoc, addLast_snoc]
    simp
theorem step_lo (acc : List (List Nat)) (c : Nat) : stepC true (acc.map (List.map loA)) (loA c) = (stepC true acc c).map (List.map loA) := by
  unfold stepC
  rw [lo_isdig, lastDig_lo, addLast_lo]
  split <;> simp
theorem cut_lo (s : List Nat) : cutM true (s.map loA) = (cutM true s).map (List.map loA) := by
  suffices h : ∀ (s : List Nat) (acc : List (List Nat)), (s.map loA).foldl (stepC true) (acc.map (List.map loA)) = (s.foldl (stepC true) acc).map (List.map loA) by simpa [cutM] using h s []
  intro s
  induction s with
  | nil => intro acc; rfl
  | cons c s ih => intro acc; rw [List.map_cons, List.foldl_cons, List.foldl_cons, step_lo, ih]
theorem dig_map {p : List Nat} (h : p.all isDig = true) : p.map loA = p := by
  induction p with
  | nil => rfl
  | cons c p ih =>
    rw [List.all_cons, Bool.and_eq_true] at h
    rw [List.map_cons, ih h.2, lo_dig (by simpa [isDig] using h.1)]
/-- what a piece is, by its key -/
theorem piece_kinds {p : List Nat} (h : Piece p) (hs : p.all isSign = true) : (p = [95]) ∨ (∃ c r, p = c :: r ∧ isDig c = true ∧ p.all isDig = true) ∨ (∃ c, p = [c] ∧ ((65 ≤ c ∧ c ≤ 90) ∨ (97 ≤ c ∧ c ≤ 122))) := by
  rcases h with ⟨h1, h2⟩ | ⟨c, rfl, h⟩
  · cases p with
    | nil => exact absurd rfl h1
    | cons c r =>
      have h3 := h2
      rw [List.all_cons, Bool.and_eq_true] at h3
      exact .inr (.inl ⟨c, r, rfl, h3.1, h2⟩)
  · have hc : isSign c = true := by simpa using hs
    rcases kinds hc with rfl | g | g | g
    · exact .inl rfl
    · simp [isDig] at h; omega
    · exact .inr (.inr ⟨c, rfl, .inl g⟩)
    · exact .inr (.inr ⟨c, rfl, .inr g⟩)
theorem pk_bar : pk ([95].map loA) = [0, 0] := rfl
theorem pk_dig {c : Nat} {r : List Nat} (h0 : isDig c = true) (h : (c :: r).all isDig = true) : pk ((c :: r).map loA) = [1, (digV (c :: r) : Int)] := by
  rw [dig_map h]
  unfold pk
  rw [if_neg (by intro e; simp at e; rw [e.1] at h0; cases h0), if_pos (by rw [h]; rfl)]
theorem pk_let {c : Nat} (h : (65 ≤ c ∧ c ≤ 90) ∨ (97 ≤ c ∧ c ≤ 122)) : pk ([c].map loA) = [2, (loA c : Int)] := by
  have l : 97 ≤ loA c ∧ loA c ≤ 122 := by
    rcases h with h | h
    · rw [lo_up h]; omega
    · rw [lo_lo h]; omega
  unfold pk
  rw [List.map_cons, List.map_nil, if_neg (by simp; omega), if_neg (by simp [isDig]; omega)]
  rfl
theorem kp_dig {c : Nat} {r : List Nat} (h : isDig c = true) : keyP cs br (c :: r) = [1, (digV (c :: r) : Int), 0] := by simp [keyP, h]
theorem kp_let {c : Nat} (hcs : ¬ cs = sApart) (h : (65 ≤ c ∧ c ≤ 90) ∨ (97 ≤ c ∧ c ≤ 122)) : keyP cs br [c] = [2, (loA c : Int), if cs = sMixed then (if isUp c = true then 0 else 1) else 0] := by
  rw [keyP_one]
  rcases h with h | h
  · rw [rk_up h, if_neg hcs, lo_up h]
    have e : isUp c = true := by simp [isUp, h]
    simp [e]
  · rw [rk_lo h, if_neg hcs, lo_lo h]
    have e : isUp c = false := by simp [isUp]; omega
    simp [e]
theorem key_one {p q : List Nat} (hp : Piece p) (hq : Piece q) (sp : p.all isSign = true) (sq : q.all isSign = true) : cmpP sTogether sAhead p q = cmpL (pk (p.map loA)) (pk (q.map loA)) := by
  have n1 : ¬ sTogether = sApart := by decide
  have n2 : ¬ sTogether = sMixed := by decide
  unfold cmpP
  rcases piece_kinds hp sp with rfl | ⟨c, r, rfl, h, h2⟩ | ⟨c, rfl, h⟩ <;> rcases piece_kinds hq sq with rfl | ⟨d, r', rfl, g, g2⟩ | ⟨d, rfl, g⟩
  all_goals (try rw [pk_dig h h2, kp_dig h]) <;> (try rw [pk_dig g g2, kp_dig g]) <;> (try rw [pk_let h, kp_let n1 h]) <;> (try rw [pk_let g, kp_let n1 g]) <;> (try rw [pk_bar]) <;> (try rw [keyP_one, rk_bar])
  all_goals simp only [cmpL_cons, if_pos, n1, n2, if_false]
  all_goals (repeat' split) <;> first | rfl | omega | (simp [cmpL, lexM]; done)
theorem told_key {a b : List Nat} (ha : TV a) (hb : TV b) : toldM sTogether sNumbers sAhead sFirst 0 a b = cmpKey (nkey a) (nkey b) := by
  rw [told_1 to_ne nu_ne, numN, lookM, nkey, nkey, cut_lo, cut_lo, List.map_map, List.map_map, cmpKey, lex_map]
  exact lex_congr fun p hp q hq => key_one (ha.piece true p hp).1 (hb.piece true q hq).1 (ha.piece true p hp).2.1 (hb.piece true q hq).2.1
/-! the last look: letters in their case -/
def isAl (c : Nat) : Bool := isUp c || isLo c
theorem told_last {a b : List Nat} (ha : TV a) (hb : TV b) : toldM sLast sNumbers sAhead sFirst 0 a b = if toldM sTogether sNumbers sAhead sFirst 0 a b = 0 then cmpT (a.filter isAl) (b.filter isAl) else toldM sTogether sNumbers sAhead sFirst 0 a b := by
  have e1 : toldM sLast sNumbers sAhead sFirst 0 a b = if lookM sTogether true sAhead sFirst a b = 0 then (if lookM sMixed true sAhead sFirst a b = 0 then 0 else lookM sMixed true sAhead sFirst a b) else lookM sTogether true sAhead sFirst a b := by
    have e : looksM sLast sNumbers = [(sTogether, true), (sMixed, true)] := by decide
    unfold toldM
    rw [e, if_neg (by decide)]
    simp [allM]
  rw [e1, told_1 to_ne nu_ne, numN]
  by_cases h : lookM sTogether true sAhead sFirst a b = 0
  · rw [if_pos h, if_pos h]
    have q : (if lookM sMixed true sAhead sFirst a b = 0 then 0 else lookM sMixed true sAhead sFirst a b) = lookM sMixed true sAhead sFirst a b := by split <;> simp_all
    rw [q]
    have pa := ha.piece true
    have pb := hb.piece true
    have ja := cut_join true a
    have jb := cut_join true b
    unfold lookM at h ⊢
    generalize cutM true a = A at *
    generalize cutM true b = B at *
    subst ja jb
    clear e1 q ha hb
    have n1 : ¬ sTogether = sApart := by decide
    have n2 : ¬ sTogether = sMixed := by decide
    have n3 : ¬ sMixed = sApart := by decide
    induction A generalizing B with
    | nil => cases B with
      | nil => rfl
      | cons q B => exact absurd h (by simp [lexM, eM])
    | cons p A ih => cases B with
      | nil => exact absurd h (by simp [lexM, eM])
      | cons q B =>
        have hz : cmpP sTogether sAhead p q = 0 := by
          by_cases z : cmpP sTogether sAhead p q = 0
          · exact z
          · exact absurd ((if_neg z).symm.trans h) z
        have h2 : lexM (cmpP sTogether sAhead) (eM sFirst) A B = 0 := (if_pos hz).symm.trans h
        have i2 := ih (fun p hp => pa p (by simp [hp])) B (fun p hp => pb p (by simp [hp])) h2
        show (if cmpP sMixed sAhead p q = 0 then lexM (cmpP sMixed sAhead) (eM sFirst) A B else cmpP sMixed sAhead p q) = _
        rw [List.flatten_cons, List.flatten_cons, List.filter_append, List.filter_append, i2]
        have figsn : ∀ {p : List Nat}, p.all isDig = true → p.filter isAl = [] := fun {p} hp => by
          rw [List.filter_eq_nil_iff]
          intro c hc
          have := List.all_eq_true.mp hp c hc
          simp [isDig] at this
          simp [isAl, isUp, isLo]
          omega
        obtain ⟨p1, p2, -⟩ := pa p (by simp)
        obtain ⟨q1, q2, -⟩ := pb q (by simp)
        have al : ∀ {c : Nat}, (65 ≤ c ∧ c ≤ 90) ∨ (97 ≤ c ∧ c ≤ 122) → [c].filter isAl = [c] := fun {c} hc => by
          have : isAl c = true := by simp [isAl, isUp, isLo]; omega
          simp [this]
        have b0 : [95].filter isAl = [] := rfl
        unfold cmpP at hz ⊢
        rcases piece_kinds p1 p2 with rfl | ⟨c, r, rfl, g, g2⟩ | ⟨c, rfl, g⟩ <;> rcases piece_kinds q1 q2 with rfl | ⟨d, r', rfl, k, k2⟩ | ⟨d, rfl, k⟩
        all_goals (try rw [kp_dig g] at hz ⊢) <;> (try rw [kp_dig k] at hz ⊢) <;> (try rw [kp_let n1 g] at hz) <;> (try rw [kp_let n3 g]) <;> (try rw [kp_let n1 k] at hz) <;> (try rw [kp_let n3 k]) <;> (try rw [keyP_one, rk_bar] at hz) <;> (try rw [keyP_one, rk_bar])
        all_goals simp only [cmpL_cons, if_pos, n1, n2, n3, if_false] at hz ⊢
        all_goals (try rw [figsn g2]) <;> (try rw [figsn k2]) <;> (try rw [al g]) <;> (try rw [al k]) <;> (try rw [b0])
        all_goals try (simp [cmpL, lexM] at hz ⊢; done)
        · by_cases e : (digV (c :: r) : Int) = digV (d :: r')
          · simp [e, cmpL, lexM]
          · rw [if_neg e] at hz; split at hz <;> cases hz
        · by_cases e : (loA c : Int) = loA d
          · simp only [if_pos e]
            rw [List.cons_append, List.cons_append, List.nil_append, List.nil_append, cmpT_cons, cmpN_eq]
            rcases g with g | g <;> rcases k with k | k
            · have e1 : isUp c = true := by simp [isUp, g]
              have e2 : isUp d = true := by simp [isUp, k]
              rw [lo_up g, lo_up k] at e
              have : c = d := by omega
              subst this
              simp [e1, cmpL, lexM, cmpI]
            · have e1 : isUp c = true := by simp [isUp, g]
              have e2 : isUp d = false := by simp [isUp]; omega
              have l1 : ¬ c = d := by omega
              have l2 : c < d := by omega
              simp [e1, e2, l1, l2]
            · have e1 : isUp c = false := by simp [isUp]; omega
              have e2 : isUp d = true := by simp [isUp, k]
              have l1 : ¬ c = d := by omega
              have l2 : ¬ c < d := by omega
              simp [e1, e2, l1, l2]
            · have e1 : isUp c = false := by simp [isUp]; omega
              have e2 : isUp d = false := by simp [isUp]; omega
              rw [lo_lo g, lo_lo k] at e
              have : c = d := by omega
              subst this
              simp [e1, cmpL, lexM, cmpI]
          · rw [if_neg e] at hz; split at hz <;> cases hz
  · rw [if_neg h, if_neg h]
end
end G
set_option Elab.async false
set_option linter.all false
set_option maxRecDepth 100000
set_option maxHeartbeats 400000
namespace G
open PySem PySem.Spec L2 L3
noncomputable section
variable {α β : Type} {n m : Nat} {S : Store}
/-- data of one kind, told apart by c -/
structure DO (f : α → D) (c : α → α → Int) (n : Nat) : Prop where
  tc : TC c
  al : ∀ x y, PySem.W.alike (f x).py (f y).py = true
  ev : ∀ x y, PyData.eqv (f x).py (f y).py = decide (c x y = 0)
  lt : ∀ x y, PySem.W.dataLt (f x).py (f y).py = decide (c x y = -1)
  pl : ∀ x, D.pl n (f x) = true
theorem pl_up {d : D} : ∀ {n m : Nat}, n ≤ m → D.pl n d = true → D.pl m d = true := by
  intro n
  induction n generalizing d with
  | zero =>
    intro m _ h
    cases d <;> first | (cases m <;> rfl) | cases h
  | succ n ih =>
    intro m hm h
    cases m with
    | zero => omega
    | succ m =>
      cases d <;> first | exact h | skip
      all_goals (rename_i ds; exact List.all_eq_true.mpr fun x hx => ih (by omega) (List.all_eq_true.mp h x hx))
theorem DO.up {f : α → D} {c : α → α → Int} (h : DO f c n) (hm : n ≤ m) : DO f c m := ⟨h.tc, h.al, h.ev, h.lt, fun x => pl_up hm (h.pl x)⟩
theorem cmpI_zero {a b : Int} : cmpI a b = 0 ↔ a = b := by
  rcases cmpI_cases a b with ⟨h, e⟩ | ⟨h, e⟩ | ⟨h, e⟩ <;> rw [e] <;> constructor <;> intro z <;> omega
theorem DO.ints : DO D.int cmpI 0 := ⟨TC.int, fun _ _ => by simp [D.py, PySem.W.alike], fun x y => by
    rw [pl_dec (n := 0) (pl_int 0 x) (pl_int 0 y), decide_eq_decide, D.int.injEq, cmpI_zero],
  fun x y => by
    show PySem.W.dataLt (.int x) (.int y) = _
    rw [PySem.W.dataLt_int, decide_eq_decide]
    rcases cmpI_cases x y with ⟨h, e⟩ | ⟨h, e⟩ | ⟨h, e⟩ <;> rw [e] <;> constructor <;> intro z <;> omega, pl_int 0⟩
theorem DO.strs : DO D.str cmpT 0 := ⟨TC.texts, fun _ _ => by simp [D.py, PySem.W.alike], fun x y => by
    rw [pl_dec (n := 0) (pl_str 0 x) (pl_str 0 y), decide_eq_decide, D.str.injEq, cmpT_zero],
  fun x y => by
    show PySem.W.dataLt (.str (tx x)) (.str (tx y)) = _
    rw [PySem.W.dataLt_str]
    exact lt2_cmp x y, pl_str 0⟩
theorem row_lt {f : α → D} {c : α → α → Int} (h : DO f c n) : ∀ xs ys : List α, PySem.W.rowLt (D.pys (xs.map f)) (D.pys (ys.map f)) = decide (lexM c (-1) xs ys = -1)
  | [], [] => PyProof.Rows.lex_irrefl _
  | [], y :: ys => by
    rw [List.map_nil, List.map_cons, D.pys, D.pys]
    unfold PySem.W.rowLt
    rw [PySem.W.toks_all_cons, PySem.W.keyToksAll, PyProof.Rows.lex_diff (O := PyProof.Rows.itemOrd) (by simp)]
    rfl
  | x :: xs, [] => by
    rw [List.map_nil, List.map_cons, D.pys, D.pys]
    unfold PySem.W.rowLt
    rw [PySem.W.toks_all_cons, PySem.W.keyToksAll, PyProof.Rows.lex_diff (O := PyProof.Rows.itemOrd) (by simp)]
    rfl
  | x :: xs, y :: ys => by
    have ih := row_lt h xs ys
    rw [List.map_cons, List.map_cons, D.pys, D.pys]
    unfold PySem.W.rowLt at ih ⊢
    rw [PySem.W.dataLt_cons (h.al x y), ih, h.ev, h.lt, lexM]
    by_cases z : c x y = 0
    · rw [if_pos (decide_eq_true z), if_pos z]
    · rw [if_neg (by simpa using z), if_neg z]
theorem row_eq {f : α → D} {c : α → α → Int} (h : DO f c n) : ∀ xs ys : List α, PyData.eqvAll (D.pys (xs.map f)) (D.pys (ys.map f)) = decide (lexM c (-1) xs ys = 0)
  | [], [] => by simp [D.pys, PyData.eqvAll, lexM]
  | [], y :: ys => by simp [D.pys, PyData.eqvAll, lexM]
  | x :: xs, [] => by simp [D.pys, PyData.eqvAll, lexM]
  | x :: xs, y :: ys => by
    have ih := row_eq h xs ys
    rw [List.map_cons, List.map_cons, D.pys, D.pys, PyData.eqvAll, ih, h.ev, lexM]
    by_cases z : c x y = 0
    · rw [decide_eq_true z, if_pos z]; rfl
    · rw [decide_eq_false z, if_neg z, decide_eq_false z]; rfl
theorem row_al {f : α → D} {c : α → α → Int} (h : DO f c n) : ∀ xs ys : List α, PySem.W.alikeAll (D.pys (xs.map f)) (D.pys (ys.map f)) = true
  | [], _ => by simp [D.pys, PySem.W.alikeAll]
  | _ :: _, [] => by simp [D.pys, PySem.W.alikeAll]
  | x :: xs, y :: ys => by
    rw [List.map_cons, List.map_cons, D.pys, D.pys, PySem.W.alikeAll, h.al, row_al h xs ys]; rfl
theorem DO.lst {f : α → D} {c : α → α → Int} (h : DO f c n) : DO (fun xs : List α => .lst (xs.map f)) (lexM c (-1)) (n + 1) := ⟨h.tc.lex (.inr rfl),
  fun xs ys => by
    show PySem.W.alike (.list _) (.list _) = true
    rw [PySem.W.alike, row_al h],
  fun xs ys => by
    show PyData.eqv (.list _) (.list _) = _
    rw [PyData.eqv, row_eq h],
  fun xs ys => by
    show PySem.W.dataLt (.list _) (.list _) = _
    rw [PySem.W.dataLt_list]
    exact row_lt h xs ys,
  fun xs => List.all_eq_true.mpr fun d hd => by
    obtain ⟨x, -, rfl⟩ := List.mem_map.mp hd
    exact h.pl x⟩
/-- tuples that begin alike -/
theorem DO.two {f : α → D} {g : α → D} {c d : α → α → Int} (h : DO f c n) (k : DO g d n) : DO (fun x : α => .tup [f x, g x]) (thenC c d) (n + 1) := ⟨h.tc.then k.tc,
  fun x y => by
    show PySem.W.alike (.tuple [_, _]) (.tuple [_, _]) = true
    simp only [PySem.W.alike, PySem.W.alikeAll, h.al, k.al, Bool.and_self],
  fun x y => by
    show PyData.eqv (.tuple [_, _]) (.tuple [_, _]) = _
    simp only [PyData.eqv, PyData.eqvAll, h.ev, k.ev, Bool.and_true, thenC]
    by_cases z : c x y = 0 <;> simp [z],
  fun x y => by
    show PySem.W.dataLt (.tuple [_, _]) (.tuple [_, _]) = _
    rw [PySem.W.dataLt_tuple, PySem.W.dataLt_cons (h.al x y), PySem.W.dataLt_cons (k.al x y), PyProof.Rows.lex_irrefl, h.ev, h.lt, k.ev, k.lt, thenC]
    by_cases z : c x y = 0 <;> by_cases z2 : d x y = 0 <;> simp [z, z2],
  fun x => by simp [D.pl, h.pl, k.pl]⟩
theorem DO.three {f g i : α → D} {c d e : α → α → Int} (h : DO f c n) (k : DO g d n) (l : DO i e n) : DO (fun x : α => .tup [f x, g x, i x]) (thenC c (thenC d e)) (n + 1) := ⟨h.tc.then (k.tc.then l.tc),
  fun x y => by
    show PySem.W.alike (.tuple [_, _, _]) (.tuple [_, _, _]) = true
    simp only [PySem.W.alike, PySem.W.alikeAll, h.al, k.al, l.al, Bool.and_self],
  fun x y => by
    show PyData.eqv (.tuple [_, _, _]) (.tuple [_, _, _]) = _
    simp only [PyData.eqv, PyData.eqvAll, h.ev, k.ev, l.ev, Bool.and_true, thenC]
    by_cases z : c x y = 0 <;> by_cases z2 : d x y = 0 <;> simp [z, z2],
  fun x y => by
    show PySem.W.dataLt (.tuple [_, _, _]) (.tuple [_, _, _]) = _
    rw [PySem.W.dataLt_tuple, PySem.W.dataLt_cons (h.al x y), PySem.W.dataLt_cons (k.al x y), PySem.W.dataLt_cons (l.al x y), PyProof.Rows.lex_irrefl, h.ev, h.lt, k.ev, k.lt, l.ev, l.lt, thenC, thenC]
    by_cases z : c x y = 0 <;> by_cases z2 : d x y = 0 <;> by_cases z3 : e x y = 0 <;> simp [z, z2, z3],
  fun x => by simp [D.pl, h.pl, k.pl, l.pl]⟩
theorem DO.of {f : α → D} {c : α → α → Int} (h : DO f c n) (g : β → α) : DO (fun x => f (g x)) (fun x y => c (g x) (g y)) n := ⟨h.tc.map g, fun _ _ => h.al _ _, fun _ _ => h.ev _ _, fun _ _ => h.lt _ _, fun _ => h.pl _⟩
def leT (c : α → α → Int) (x y : α) : Bool := !decide (c y x = -1)
theorem leT_iff {c : α → α → Int} (t : TC c) {x y : α} : leT c x y = true ↔ c x y ≤ 0 := by
  have r := t.rng x y
  have s := t.sw x y
  simp [leT]
  omega
theorem flats_map {f : α → D} (h : ∀ x, (f x).flat = true) : ∀ l : List α, D.flats (l.map f) = true
  | [] => rfl
  | x :: l => by
    show ((f x).flat && D.flats (l.map f)) = true
    rw [h, flats_map h l]; rfl
/-- sorted of tuples of one kind -/
theorem sort_do {f : α → D} {c : α → α → Int} (h : DO f c n) (hn : n ≤ 60) (ht : ∀ x, ∃ t ts, f x = .tup (t :: ts)) (l : List α) (hl : l.length ≤ 1000) {d : D} (hd : seqD S d = some (l.map f)) : sortPD S [d] = some (.lst ((l.mergeSort (leT c)).map f)) := by
  have e : sortOk (l.map f) = true := by
    unfold sortOk
    simp only [Bool.and_eq_true, List.all_eq_true, decide_eq_true_eq, List.length_map]
    refine ⟨⟨⟨flats_map (fun x => (pl_flat n _ (h.pl x)).1) l, fun d hd => ?_⟩, fun d hd e he => ?_⟩, by omega⟩
    · obtain ⟨x, -, rfl⟩ := List.mem_map.mp hd
      have q := (pl_flat n _ (h.pl x)).2
      obtain ⟨t, ts, e⟩ := ht x
      rw [e] at q ⊢
      exact decide_eq_true (Nat.le_trans q hn)
    · obtain ⟨x, -, rfl⟩ := List.mem_map.mp hd
      obtain ⟨y, -, rfl⟩ := List.mem_map.mp he
      exact h.al x y
  unfold sortPD
  dsimp only
  rw [hd]
  show (if sortOk (l.map f) = true then _ else _) = _
  rw [if_pos e, List.map_mergeSort (s := PySem.W.dataLe false D.py)]
  intro a _ b _
  show leT c a b = !PySem.W.dataLt (f b).py (f a).py
  rw [h.lt]; rfl
theorem sort_pw {c : α → α → Int} (t : TC c) (l : List α) : (l.mergeSort (leT c)).Pairwise fun a b => c a b ≤ 0 := by
  refine (List.pairwise_mergeSort (le := leT c) (fun a b d h1 h2 => ?_) (fun a b => ?_) l).imp fun h => (leT_iff t).mp h
  · rw [leT_iff t] at *
    exact t.tr _ _ _ h1 h2
  · have r := t.rng a b
    have s := t.sw a b
    simp [leT]
    omega
/-- what lies in order is what sorted makes -/
theorem sort_is {c : α → α → Int} (t : TC c) {l k : List α} (hp : k.Perm l) (hk : k.Pairwise fun a b => c a b ≤ 0) (ha : ∀ x ∈ l, ∀ y ∈ l, c x y = 0 → x = y) : l.mergeSort (leT c) = k := by
  have p2 := List.mergeSort_perm l (leT c)
  refine List.Perm.eq_of_pairwise (le := fun a b => c a b ≤ 0) (fun a b h1 h2 h3 h4 => ?_) (sort_pw t l) hk (p2.trans hp.symm)
  have := t.sw a b
  exact ha a (p2.mem_iff.mp h1) b (hp.mem_iff.mp h2) (by omega)
/-! the insertion sort keeps places -/
abbrev NT : Type := Nat × List Nat
def insP (c : List Nat → List Nat → Int) (t : NT) (xs : List NT) : List NT := xs.filter (fun x => decide (c x.2 t.2 < 1)) ++ [t] ++ xs.filter (fun x => decide (c x.2 t.2 = 1))
def sortP (c : List Nat → List Nat → Int) (ts : List NT) : List NT := ts.foldl (fun acc t => insP c t acc) []
theorem sortP_snoc (c : List Nat → List Nat → Int) (ts : List NT) (z : NT) : sortP c (ts ++ [z]) = insP c z (sortP c ts) := by simp [sortP, List.foldl_append]
theorem insP_map (c : List Nat → List Nat → Int) (t : NT) (xs : List NT) : (insP c t xs).map Prod.snd = insM c t.2 (xs.map Prod.snd) := by
  unfold insP insM
  rw [List.map_append, List.map_append, List.filter_map, List.filter_map]
  rfl
theorem sortP_map (c : List Nat → List Nat → Int) (ts : List NT) : (sortP c ts).map Prod.snd = sortM c (ts.map Prod.snd) := by
  suffices h : ∀ (ts : List NT) (acc : List NT), (ts.foldl (fun acc t => insP c t acc) acc).map Prod.snd = (ts.map Prod.snd).foldl (fun acc t => insM c t acc) (acc.map Prod.snd) from h ts []
  intro ts
  induction ts with
  | nil => intro acc; rfl
  | cons t ts ih => intro acc; rw [List.foldl_cons, ih, insP_map]; rfl
theorem insP_perm {c : List Nat → List Nat → Int} (t : TC c) (z : NT) (xs : List NT) : (insP c z xs).Perm (z :: xs) := by
  unfold insP
  have e : xs.filter (fun x => decide (c x.2 z.2 = 1)) = xs.filter (fun x => !decide (c x.2 z.2 < 1)) := by
    congr 1
    funext x
    have := t.rng x.2 z.2
    rw [Bool.eq_iff_iff]
    simp
    omega
  rw [e, List.append_assoc]
  refine List.perm_middle.trans (.cons _ ?_)
  exact List.filter_append_perm _ _
theorem snocP {P : List NT → Prop} (h0 : P []) (hs : ∀ xs x, P xs → P (xs ++ [x])) (xs : List NT) : P xs := by
  have h : ∀ ys : List NT, P ys.reverse := by
    intro ys
    induction ys with
    | nil => exact h0
    | cons y ys ih => rw [List.reverse_cons]; exact hs _ _ ih
  have := h xs.reverse
  rwa [List.reverse_reverse] at this
theorem sortP_perm {c : List Nat → List Nat → Int} (t : TC c) (ts : List NT) : (sortP c ts).Perm ts := by
  induction ts using snocP with
  | h0 => exact .refl _
  | hs xs x ih =>
    rw [sortP_snoc]
    exact (insP_perm t x _).trans ((ih.cons x).trans (List.perm_append_comm (l₁ := [x])))
def RP (c : List Nat → List Nat → Int) (p q : NT) : Prop := c p.2 q.2 = -1 ∨ (c p.2 q.2 = 0 ∧ p.1 < q.1)
theorem sortP_pw {c : List Nat → List Nat → Int} (t : TC c) (ts : List NT) (h : ts.Pairwise fun p q => p.1 < q.1) : (sortP c ts).Pairwise (RP c) := by
  induction ts using snocP with
  | h0 => exact .nil
  | hs xs x ih =>
    rw [List.pairwise_append] at h
    have i := ih h.1
    have hx : ∀ y ∈ sortP c xs, y.1 < x.1 := fun y hy => h.2.2 y ((sortP_perm t xs).mem_iff.mp hy) x (by simp)
    rw [sortP_snoc]
    unfold insP
    rw [List.pairwise_append, List.pairwise_append]
    refine ⟨⟨i.filter _, by simp, fun a ha b hb => ?_⟩, i.filter _, fun a ha b hb => ?_⟩
    · obtain ⟨h1, h2⟩ := List.mem_filter.mp ha
      rw [List.mem_singleton] at hb
      subst hb
      have := t.rng a.2 b.2
      have h2 := of_decide_eq_true h2
      rcases this with q | q | q
      · exact .inl q
      · exact .inr ⟨q, hx a h1⟩
      · omega
    · obtain ⟨h1, h2⟩ := List.mem_filter.mp hb
      have h2 := of_decide_eq_true h2
      have s := t.sw b.2 x.2
      rcases List.mem_append.mp ha with ha | ha
      · obtain ⟨g1, g2⟩ := List.mem_filter.mp ha
        have g2 := of_decide_eq_true g2
        exact .inl (t.lt2 (b := x.2) (by omega) (by omega))
      · rw [List.mem_singleton] at ha
        subst ha
        exact .inl (by omega)
/-! the two sorts of the law -/
def cK (p q : NT) : Int := cmpKey (nkey p.2) (nkey q.2)
abbrev c3 : NT → NT → Int := thenC cK (thenC (fun p q => cmpI p.1 q.1) fun p q => cmpT p.2 q.2)
abbrev keyD (k : List (List Int)) : D := .lst (k.map fun r => .lst (r.map .int))
abbrev row3 (p : NT) : D := .tup [keyD (nkey p.2), .int p.1, .str p.2]
theorem do_key : DO keyD cmpKey 2 := DO.ints.lst.lst
theorem do3 : DO row3 c3 3 := DO.three (do_key.of fun p : NT => nkey p.2) ((DO.ints.of fun p : NT => (p.1 : Int)).up (by omega)) ((DO.strs.of fun p : NT => p.2).up (by omega))
theorem sorted_key {ts : List NT} (hx : ∀ p ∈ ts, TV p.2) (hi : ts.Pairwise fun p q => p.1 < q.1) : (ts.mergeSort (leT c3)).map Prod.snd = sortM (toldM sTogether sNumbers sAhead sFirst 0) (ts.map Prod.snd) := by
  have t := TC.told sTogether sNumbers sAhead sFirst 0
  have pm := sortP_perm t ts
  rw [sort_is (k := sortP (toldM sTogether sNumbers sAhead sFirst 0) ts) do3.tc pm, sortP_map]
  · refine (sortP_pw t ts hi).imp_of_mem fun {a b} ha hb h => ?_
    have e := told_key (hx a (pm.mem_iff.mp ha)) (hx b (pm.mem_iff.mp hb))
    unfold RP at h
    rw [e] at h
    show thenC cK _ a b ≤ 0
    unfold thenC cK
    rcases h with h | ⟨h, h2⟩
    · rw [if_neg (by omega)]; omega
    · rw [if_pos h]
      have : cmpI a.1 b.1 = -1 := by
        rcases cmpI_cases a.1 b.1 with ⟨h, e⟩ | ⟨h, e⟩ | ⟨h, e⟩ <;> omega
      show (if cmpI a.1 b.1 = 0 then cmpT a.2 b.2 else cmpI a.1 b.1) ≤ 0
      rw [this, if_neg (by decide)]
      decide
  · intro x hx y hy h
    unfold c3 thenC at h
    by_cases z : cK x y = 0
    · rw [if_pos z] at h
      by_cases z2 : cmpI x.1 y.1 = 0
      · rw [if_pos z2] at h
        have := cmpI_zero.mp z2
        exact Prod.ext (by omega) (cmpT_zero.mp h)
      · rw [if_neg z2] at h; exact absurd h z2
    · rw [if_neg z] at h; exact absurd h z
abbrev c2 : List Nat → List Nat → Int := thenC (fun p q => cmpT (repM 95 [32] p) (repM 95 [32] q)) cmpT
abbrev row2 (p : List Nat) : D := .tup [.str (repM 95 [32] p), .str p]
theorem do2 : DO row2 c2 1 := DO.two (DO.strs.of fun p => repM 95 [32] p) DO.strs
theorem rep_inj {a b : List Nat} (ha : TV a) (hb : TV b) (h : repM 95 [32] a = repM 95 [32] b) : a = b := by
  rw [rep_one, rep_one] at h
  replace ha := ha.sign
  replace hb := hb.sign
  induction a generalizing b with
  | nil => cases b; rfl; cases h
  | cons x a ih => cases b with
    | nil => cases h
    | cons y b =>
      rw [List.map_cons, List.map_cons, List.cons.injEq] at h
      have hx := kinds (ha x (by simp))
      have hy := kinds (hb y (by simp))
      have : x = y := by
        have h := h.1
        unfold swN at h
        split at h <;> split at h <;> omega
      rw [this, ih h.2 (fun c hc => ha c (by simp [hc])) fun c hc => hb c (by simp [hc])]
theorem sorted_line {ts : List (List Nat)} (hx : ∀ p ∈ ts, TV p) : ts.mergeSort (leT c2) = sortM (toldM sApart sSigns sAhead sFirst 0) ts := by
  have t := TC.told sApart sSigns sAhead sFirst 0
  have pm := sort_permM t ts
  refine sort_is do2.tc pm ?_ ?_
  · refine (sort_upM t ts).imp_of_mem fun {a b} ha hb h => ?_
    have ha := hx a (pm.mem_iff.mp ha)
    have hb := hx b (pm.mem_iff.mp hb)
    have e := told_apart (br := sAhead) (m := 32) (.inl ⟨rfl, rfl⟩) ha hb
    rw [e] at h
    show thenC _ _ a b ≤ 0
    unfold thenC
    split
    · rename_i z
      have := rep_inj ha hb (cmpT_zero.mp z)
      subst this
      exact Int.le_of_eq (TC.texts.rf _)
    · exact h
  · intro x hx y hy h
    unfold c2 thenC at h
    split at h
    · exact cmpT_zero.mp h
    · rename_i z; exact absurd h z
end
end G
set_option Elab.async false
set_option linter.all false
set_option maxRecDepth 100000
set_option maxHeartbeats 4000000
namespace G
open PySem PySem.Spec L2 L3
noncomputable section
variable {Q : D → Store → Prop} {X : Nat → Store → Prop} {S R : Store} {Z : L3.Flow → Store → Prop} {A : List D → Store → Prop} {env : Ev} {ra : Ev → Store → Res D}
theorem w_iseq (h : wp (ra env S) (fun d S1 => ∃ ds, d = .lst ds ∧ A ds S1) X) : wp (iSeq ra env S) A X := by
  refine wp_bind (wp_mono h (fun d S1 q => ?_) fun _ _ z => z)
  obtain ⟨ds, rfl, q⟩ := q
  exact wp_ok q
theorem w_itup (h : wp (ra env S) (fun d S1 => ∃ ds, d = .tup ds ∧ A ds S1) X) : wp (iTupS ra env S) A X := by
  refine wp_bind (wp_mono h (fun d S1 q => ?_) fun _ _ z => z)
  obtain ⟨ds, rfl, q⟩ := q
  exact wp_ok q
theorem w_sw {c : Nat} {w : List Nat} (h : wp (ra env S) (fun d S1 => ∃ a : List Nat, d = .str a ∧ (a.length ≤ 1000 ∧ w.length ≤ 1000) ∧ Q (.str (repM c w a)) S1) X) : wp (rSw c w ra env S) Q X := by
  refine wp_bind (wp_mono h (fun d S1 q => ?_) fun _ _ z => z)
  obtain ⟨a, rfl, hl, q⟩ := q
  show wp (if a.length ≤ 1000 ∧ w.length ≤ 1000 then Res.ok (D.str (repM c w a)) S1 else .stuck) Q X
  rw [if_pos hl]
  exact wp_ok q
/-- behind the body of the loop over marks -/
def mkZ (Z : L3.Flow → Store → Prop) (k : Ev → Store → Prop) : L3.Flow → Store → Prop := fun fl S => match fl with
  | .nx e => k e S
  | .rt d => Z (.rt d) S
  | .ex c e => Z (.ex c e) S
  | _ => False
theorem s_marks {i j : Nat} {b1 w1 b2 w2 : List Nat} {m1 m2 : SM}
    (h : ws (m1 ((env.set i (some (.str b1))).set j (some (.str w1))) S) (mkZ Z fun e1 S1 => ws (m2 ((e1.set i (some (.str b2))).set j (some (.str w2))) S1) (mkZ Z fun e2 S2 => Z (.nx e2) S2))) : ws (sMarks i j b1 w1 b2 w2 m1 m2 env S) Z := by
  rw [ws_e] at h ⊢
  unfold sMarks
  cases e : m1 ((env.set i (some (.str b1))).set j (some (.str w1))) S with
  | none => rw [e] at h; exact h.elim
  | some x =>
    obtain ⟨fl, S1⟩ := x
    rw [e] at h
    cases fl with
    | nx e1 =>
      have h : ws (m2 ((e1.set i (some (.str b2))).set j (some (.str w2))) S1) (mkZ Z fun e2 S2 => Z (.nx e2) S2) := h
      rw [ws_e] at h
      dsimp only
      cases e' : m2 ((e1.set i (some (.str b2))).set j (some (.str w2))) S1 with
      | none => rw [e'] at h; exact h.elim
      | some x2 =>
        obtain ⟨fl2, S2⟩ := x2
        rw [e'] at h
        cases fl2 <;> first | exact h | exact h.elim
    | rt d => exact h
    | ex c e1 => exact h
    | bk e1 => exact h.elim
    | ct e1 => exact h.elim
theorem mkZ_nx {k : Ev → Store → Prop} {e : Ev} (h : k e S) : mkZ Z k (.nx e) S := h
theorem fzA {T : Store} {ds : List D} : fzD (.loc S.length) (S ++ [.lst ds] ++ T) = some (.lst ds, S ++ [.dead] ++ T) := by
  simp only [fzD, st_getA, st_setA]
theorem appA {T : Store} {ds : List D} {d : D} (h : ds.length < 100000) : appendD (S ++ [.lst ds] ++ T) (.loc S.length) [d] = some (.non, S ++ [.lst (ds ++ [d])] ++ T) := by
  simp only [appendD, st_getA, st_setA, if_pos h]
theorem tyLA {T : Store} {ds : List D} : tyList (S ++ [.lst ds] ++ T) (.loc S.length) = true := by
  simp only [tyList, seqA]; rfl
/-! less -/
theorem less_of {Q : D → Store → Prop} {X : Nat → Store → Prop} {S : Store} {x y : D} {c : Int} (h1 : ltKD S x y = some (.bl (decide (c = -1)))) (h2 : gtKD S x y = some (.bl (decide (c = 1)))) (hr : c = -1 ∨ c = 0 ∨ c = 1)
    (h : Q (.int c) S) : wp (m__law_less S [x, y]) Q X := by
  unfold m__law_less b__law_less
  with_reducible refine w_fn2 (by simp only [List.map_cons, List.map_nil, List.replicate, List.cons_append, List.nil_append, Nat.reduceSub]; exact rfl) ?_
  repeat' first
   | with_reducible refine ⟨_, h1, ?_⟩
   | with_reducible refine ⟨_, h2, ?_⟩
   | walk_at "runb"
   | fail
  · rw [hb] at h; exact h
  · rw [hb] at h; exact h
  · have : c = 0 := by omega
    rw [this] at h; exact h
theorem less_s {a b : List Nat} (h : ∀ r, r = .int (cmpT a b) → Q r S) : wp (m__law_less S [.str a, .str b]) Q X := by
  refine less_of (c := cmpT a b) ?_ ?_ (TC.texts.rng a b) (h _ rfl)
  · show some (D.bl (lt2 a b)) = _
    rw [lt2_cmp]
  · show some (D.bl (lt2 b a)) = _
    rw [lt2_cmp, TC.texts.sw a b]
    congr 2
    rw [decide_eq_decide]
    omega
theorem less_k {a b : List (List Int)} (h : ∀ r, r = .int (cmpKey a b) → Q r S) : wp (m__law_less S [keyD a, keyD b]) Q X := by
  have ok : ∀ a b, cmpOk (keyD a) (keyD b) = true := fun a b => by
    unfold cmpOk
    rw [pl_pre (n := 2) (by decide) (do_key.pl a) (do_key.pl b), do_key.al]; rfl
  refine less_of (c := cmpKey a b) ?_ ?_ (TC.keys.rng a b) (h _ rfl)
  · show (if cmpOk (keyD a) (keyD b) = true then some (D.bl (PySem.W.dataLt (keyD a).py (keyD b).py)) else none) = _
    rw [if_pos (ok a b), do_key.lt]
  · show (if cmpOk (keyD a) (keyD b) = true then some (D.bl (PySem.W.dataLt (keyD b).py (keyD a).py)) else none) = _
    rw [if_pos (ok a b), do_key.lt, TC.keys.sw a b]
    congr 2
    rw [decide_eq_decide]
    omega
/-! the key of numbers -/
theorem TV.low {a : List Nat} (h : TV a) : TV (a.map loA) := ⟨by rw [List.length_map]; exact h.len, (all_map h.all).2⟩
abbrev rowsD (ps : List (List Nat)) : List D := ps.map fun p => .lst ((pk p).map .int)
theorem nkey_w {a : List Nat} (ta : TV a) (h : ∀ r, r = keyD (nkey a) → Q r (S ++ [.dead] ++ [.dead])) : wp (m__law_number_key S [.str a]) Q X := by
  have tl := ta.low
  have l1 : (a.map loA).length ≤ 1000 := Nat.le_trans tl.len (by decide)
  have pieces := tl.piece true
  have clen := cut_len true (a.map loA)
  have e0 : keyD (nkey a) = .lst (rowsD (cutM true (a.map loA))) := by
    unfold nkey
    show D.lst (((cutM true (a.map loA)).map pk).map fun r => D.lst (r.map .int)) = _
    rw [List.map_map]
    rfl
  rw [e0] at h
  have aa : asc a = true ∧ a.length ≤ 100000 := ⟨all_asc ta.all, Nat.le_trans ta.len (by decide)⟩
  have low : ∀ c ∈ a.map loA, ¬ (65 ≤ c ∧ c ≤ 90) := by
    intro c hc
    obtain ⟨x, hx, rfl⟩ := List.mem_map.mp hc
    have := kinds (ta.sign x hx)
    unfold loA
    split <;> omega
  have inp : ∀ p ∈ cutM true (a.map loA), ∀ c ∈ p, c ∈ a.map loA := fun p hp c hc => by
    rw [← cut_join true (a.map loA)]
    exact List.mem_flatten.mpr ⟨p, hp, hc⟩
  unfold m__law_number_key b__law_number_key
  with_reducible refine w_fn2 (by simp only [List.map_cons, List.map_nil, List.replicate, List.cons_append, List.nil_append, Nat.reduceSub]; exact rfl) ?_
  repeat' first
   | with_reducible refine ⟨_, _, lower_s aa, ?_⟩
   | ((with_reducible refine lcut_w l1 tl.all fun _ hd => ?_) ; subst hd)
   | walk_at "runb"
   | fail
  refine .inl ⟨_, rfl, ?_⟩
  generalize hC : cutM true (a.map loA) = C at *
  repeat' first
   | walk_at "runb"
   | fail
  refine go_inv (fun items e S1 => ∃ pre rest x, C = pre ++ rest ∧ items = rest.map .str ∧ e = [some (.str a), some (.loc S.length), x] ∧ S1 = S ++ [.lst (rowsD pre)] ++ [.dead]) ?_ ?_ _ _ _ ⟨[], C, _, rfl, rfl, rfl, rfl⟩
  · rintro e S1 ⟨pre, rest, x, hs, hi, rfl, rfl⟩
    cases rest with
    | cons c rest => cases hi
    | nil =>
      rw [List.append_nil] at hs
      subst hs
      repeat' first
       | with_reducible refine ⟨_, _, fzA, ?_⟩
       | walk_at "runb"
       | fail
      exact h _ rfl
  · rintro d ds e S1 ⟨pre, rest, x, hs, hi, rfl, rfl⟩
    cases rest with
    | nil => cases hi
    | cons p rest =>
      cases hi
      refine ⟨_, rfl, ?_⟩
      have hs2 : C = (pre ++ [p]) ++ rest := by rw [hs]; simp
      have hm : p ∈ C := by rw [hs]; simp
      obtain ⟨p1, p2, p3⟩ := pieces p hm
      have hlen : (rowsD pre).length < 100000 := by
        rw [hs] at clen
        simp at clen l1 ⊢
        omega
      have fin : ∀ {e' : Ev} {x : Option D} {ds : List D}, e' = [some (.str a), some (.loc S.length), x] → ds = rowsD (pre ++ [p]) →
          ∃ pre_1 rest_1 x, C = pre_1 ++ rest_1 ∧ rest.map D.str = rest_1.map D.str ∧ e' = [some (.str a), some (.loc S.length), x] ∧ S ++ [Cell.lst ds] ++ [.dead] = S ++ [Cell.lst (rowsD pre_1)] ++ [.dead] :=
        fun h1 h2 => ⟨pre ++ [p], rest, _, hs2, rfl, h1, by rw [h2]⟩
      have ap : asc p = true := all_asc p2
      have low2 : ∀ c ∈ p, ¬ (65 ≤ c ∧ c ≤ 90) := fun c hc => low c (inp p hm c hc)
      with_reducible refine ws_env (by simp only [List.set_cons_succ, List.set_cons_zero]; exact rfl) ?_
      rcases piece_kinds p1 p2 with rfl | ⟨c, r, rfl, g, g2⟩ | ⟨c, rfl, g⟩
      · repeat' first
         | with_reducible refine ⟨tyLA, ?_⟩
         | with_reducible refine ⟨_, _, appA hlen, ?_⟩
         | with_reducible refine ⟨_, _, isdigit_s ap, ?_⟩
         | walk_at "runb"
         | fail
        all_goals first | (exfalso; revert hb; decide) | (exfalso; simp at hb; done) | skip
        exact fin rfl (by simp [rowsD, pk])
      · have n95 : ¬ c :: r = [95] := by intro e; simp at e; rw [e.1] at g; cases g
        have it : intD (S ++ [.lst (rowsD pre)] ++ [.dead]) [.str (c :: r)] = some (.int (digV (c :: r))) := int_s ⟨figs_all (by simp) g2, p3⟩
        repeat' first
         | with_reducible refine ⟨tyLA, ?_⟩
         | with_reducible refine ⟨_, _, appA hlen, ?_⟩
         | with_reducible refine ⟨_, _, isdigit_s ap, ?_⟩
         | with_reducible refine ⟨_, it, ?_⟩
         | walk_at "runb"
         | fail
        all_goals first | (exfalso; exact n95 hb) | (exfalso; rw [g2] at hb; simp at hb; done) | (exfalso; exact n95 (by assumption)) | skip
        exact fin rfl (by
          have e : pk (c :: r) = [1, (digV (c :: r) : Int)] := by unfold pk; rw [if_neg n95, if_pos (by rw [g2]; rfl)]
          simp [rowsD, e])
      · have g : 97 ≤ c ∧ c ≤ 122 := by
          rcases g with g | g
          · exact absurd g (low2 c (by simp))
          · exact g
        have nd : isDig c = false := by simp [isDig]; omega
        repeat' first
         | with_reducible refine ⟨tyLA, ?_⟩
         | with_reducible refine ⟨_, _, appA hlen, ?_⟩
         | with_reducible refine ⟨_, _, isdigit_s ap, ?_⟩
         | walk_at "runb"
         | fail
        all_goals first | (exfalso; simp at hb; omega) | (exfalso; simp [nd] at hb; done) | skip
        exact fin rfl (by
          have e : pk [c] = [2, (c : Int)] := by
            unfold pk
            rw [if_neg (by simp; omega), if_neg (by simp [nd])]
            rfl
          simp [rowsD, e])
end
end G
set_option Elab.async false
set_option linter.all false
set_option maxRecDepth 100000
set_option maxHeartbeats 4000000
namespace G
open PySem PySem.Spec L2 L3
noncomputable section
variable {Q : D → Store → Prop} {X : Nat → Store → Prop} {S R : Store} {Z : L3.Flow → Store → Prop} {br en : List Nat}
abbrev bodyK (w : List Nat) : SM := (sSeq (sSet 6 (rTup (rCons (rC (.str [97, 112, 97, 114, 116])) (rCons (rC (.str [115, 105, 103, 110, 115])) (rCons (rVar 4) (rCons (rC (.str [102, 105, 114, 115, 116])) (rCons (rC (.int 0)) rNil))))))) (sSeq (sSet 7 (rCall m__law_less (rCons (rSw 95 w (rVar 2)) (rCons (rSw 95 w (rVar 3)) rNil)))) (sSeq (sIf (tOrR (tOf (r2 neI (rCall m_compare (rCons (rVar 6) (rCons (rVar 2) (rCons (rVar 3) rNil)))) (rVar 7))) (tOf (r2 neI (rCall m_compare (rCons (r2 addTT (rSl slTT (rVar 6) oNone (oSome (rC (.int 4)))) (rTup (rCons (rC (.int 1)) rNil))) (rCons (rVar 2) (rCons (rVar 3) rNil)))) (r1 negD (rVar 7))))) (sSeq (sRet (rC (.bl false))) sNext) sNext) (sSeq (sSet 8 (rTup (rCons (rC (.str [116, 111, 103, 101, 116, 104, 101, 114])) (rCons (rC (.str [115, 105, 103, 110, 115])) (rCons (rVar 4) (rCons (rC (.str [102, 105, 114, 115, 116])) (rCons (rC (.int 0)) rNil))))))) (sSeq (sIf (tOf (r2 neI (rCall m_compare (rCons (rVar 8) (rCons (rVar 2) (rCons (rVar 3) rNil)))) (rCall m__law_less (rCons (rMt tyStr lowerD (rSw 95 w (rVar 2)) rNil) (rCons (rMt tyStr lowerD (rSw 95 w (rVar 3)) rNil) rNil))))) (sSeq (sRet (rC (.bl false))) sNext) sNext) (sSeq (sSet 9 (rTup (rCons (rC (.str [97, 112, 97, 114, 116])) (rCons (rC (.str [115, 105, 103, 110, 115])) (rCons (rVar 4) (rCons (rC (.str [98, 101, 104, 105, 110, 100])) (rCons (rC (.int 0)) rNil))))))) (sSeq (sSet 10 (rLc (.one 11) (iTupS (rTup (rCons (rVar 2) (rCons (rVar 3) rNil)))) tYesR (r2 addD (rSw 95 w (rVar 11)) (rC (.str [126, 126]))) [11])) (sIf (tAndR (tOf (r2 eqD (rVar 4) (rC (.str [97, 104, 101, 97, 100])))) (tOf (r2 neD (rCall m_compare (rCons (rVar 9) (rCons (rVar 2) (rCons (rVar 3) rNil)))) (rCall m__law_less (rCons (r2 ixD (rVar 10) (rC (.int 0))) (rCons (r2 ixD (rVar 10) (rC (.int 1))) rNil)))))) (sRet (rC (.bl false))) sNext))))))))
theorem slT : slTT S (ruleD sApart sSigns br sFirst 0) none (some 4) = some (.tup [.str sApart, .str sSigns, .str br, .str sFirst]) := rfl
theorem addT : addTT S (.tup [.str sApart, .str sSigns, .str br, .str sFirst]) (.tup [.int 1]) = some (ruleD sApart sSigns br sFirst 1) := rfl
theorem rep_len (m : Nat) (a : List Nat) : (repM 95 [m] a).length = a.length := by rw [rep_one, List.length_map]
theorem rep_asc {m : Nat} {a : List Nat} (hm : m = 32 ∨ m = 126) (ha : TV a) : asc (repM 95 [m] a) = true := by
  rw [rep_one]
  refine List.all_eq_true.mpr fun x hx => decide_eq_true ?_
  obtain ⟨c, hc, rfl⟩ := List.mem_map.mp hx
  have := kinds (ha.sign c hc)
  unfold swN
  split <;> omega
theorem rv_ap (hb : br ∈ [sAhead, sBehind]) (he : en ∈ [sFirst, sBehind]) {tn : Int} (ht : tn = 0 ∨ tn = 1) : RV sApart sSigns br en tn := ⟨by decide, by decide, hb, he, ht⟩
theorem rv_to (hb : br ∈ [sAhead, sBehind]) : RV sTogether sSigns br sFirst 0 := ⟨by decide, by decide, hb, by decide, .inl rfl⟩
theorem body_w {a b : List Nat} {m : Nat} {v0 v1 v6 v7 v8 v9 v10 v11 v12 v13 v14 v15 v16 v17 v18 v19 v20 v21 v5 : Option D} (hm : mk br m) (ta : TV a) (tb : TV b)
    (h : ∀ (x6 x7 x8 x9 x10 : Option D) (T : Store), Z (.nx [v0, v1, some (.str a), some (.str b), some (.str br), v5, x6, x7, x8, x9, x10, v11, v12, v13, v14, v15, v16, v17, v18, v19, v20, v21]) (S ++ T)) :
    ws (bodyK [m] [v0, v1, some (.str a), some (.str b), some (.str br), v5, v6, v7, v8, v9, v10, v11, v12, v13, v14, v15, v16, v17, v18, v19, v20, v21] S) Z := by
  have hm2 : m = 32 ∨ m = 126 := by rcases hm with h | h <;> simp [h.2]
  have hbr : br ∈ [sAhead, sBehind] := by rcases hm with h | h <;> simp [h.1]
  have r1 := rv_ap (en := sFirst) hbr (by decide) (tn := 0) (.inl rfl)
  have r2 := rv_ap (en := sFirst) hbr (by decide) (tn := 1) (.inr rfl)
  have r3 := rv_to hbr
  have r4 := rv_ap (en := sBehind) hbr (by decide) (tn := 0) (.inl rfl)
  have la : a.length ≤ 1000 ∧ ([m] : List Nat).length ≤ 1000 := ⟨Nat.le_trans ta.len (by decide), by simp⟩
  have lb : b.length ≤ 1000 ∧ ([m] : List Nat).length ≤ 1000 := ⟨Nat.le_trans tb.len (by decide), by simp⟩
  have qa : asc (repM 95 [m] a) = true ∧ (repM 95 [m] a).length ≤ 100000 := ⟨rep_asc hm2 ta, by rw [rep_len]; omega⟩
  have qb : asc (repM 95 [m] b) = true ∧ (repM 95 [m] b).length ≤ 100000 := ⟨rep_asc hm2 tb, by rw [rep_len]; omega⟩
  have e1 := told_apart hm ta tb
  have e2 : toldM sApart sSigns br sFirst 1 a b = - cmpT (repM 95 [m] a) (repM 95 [m] b) := by rw [told_neg, e1]
  have e3 := told_low hm ta tb
  have n1 : ∀ S, neI S (.int (toldM sApart sSigns br sFirst 0 a b)) (.int (cmpT (repM 95 [m] a) (repM 95 [m] b))) = some (.bl false) := fun S => by rw [e1]; simp [neI]
  have n2 : ∀ S, neI S (.int (toldM sApart sSigns br sFirst 1 a b)) (.int (- cmpT (repM 95 [m] a) (repM 95 [m] b))) = some (.bl false) := fun S => by rw [e2]; simp [neI]
  have n3 : ∀ S, neI S (.int (toldM sTogether sSigns br sFirst 0 a b)) (.int (cmpT ((repM 95 [m] a).map loA) ((repM 95 [m] b).map loA))) = some (.bl false) := fun S => by rw [e3]; simp [neI]
  have fa : ∀ S, addD S (.str (repM 95 [m] a)) (.str [126, 126]) = some (.str (repM 95 [m] a ++ [126, 126])) := fun S => add_ss (by rw [rep_len]; simp; omega)
  have fb : ∀ S, addD S (.str (repM 95 [m] b)) (.str [126, 126]) = some (.str (repM 95 [m] b ++ [126, 126])) := fun S => add_ss (by rw [rep_len]; simp; omega)
  have n4 : br = sAhead → ∀ S, neD S (.int (toldM sApart sSigns br sBehind 0 a b)) (.int (cmpT (repM 95 [m] a ++ [126, 126]) (repM 95 [m] b ++ [126, 126]))) = some (.bl false) := fun q S => by
    have : m = 32 := by
      rcases hm with g | g
      · exact g.2
      · exact absurd (g.1.symm.trans q) (by decide)
    subst q this
    rw [told_far ta tb, neD_ii]; simp
  have fin : ∀ (x6 x7 x8 x9 x10 : Option D) (S' : Store), (∃ T, S' = S ++ T) → Z (.nx [v0, v1, some (.str a), some (.str b), some (.str br), v5, x6, x7, x8, x9, x10, v11, v12, v13, v14, v15, v16, v17, v18, v19, v20, v21]) S' := fun x6 x7 x8 x9 x10 S' ⟨T, e⟩ => by rw [e]; exact h x6 x7 x8 x9 x10 T
  clear h
  have i0 : ∀ S x y, ixD S (.lst [x, y]) (.int 0) = some x := fun _ _ _ => rfl
  have i1 : ∀ S x y, ixD S (.lst [x, y]) (.int 1) = some y := fun _ _ _ => rfl
  repeat' first
   | (with_reducible refine w_sw ?_)
   | (with_reducible refine ⟨a, rfl, la, ?_⟩)
   | (with_reducible refine ⟨b, rfl, lb, ?_⟩)
   | ((with_reducible refine less_s fun _ hd => ?_) ; subst hd)
   | ((with_reducible refine compare_w (by assumption) ta tb fun _ hd T => ?_) ; subst hd)
   | with_reducible refine ⟨_, n1 _, ?_⟩
   | with_reducible refine ⟨_, n2 _, ?_⟩
   | with_reducible refine ⟨_, n3 _, ?_⟩
   | with_reducible refine ⟨_, slT, ?_⟩
   | with_reducible refine ⟨_, addT, ?_⟩
   | (with_reducible refine w_itup ?_)
   | with_reducible refine ⟨_, _, lower_s qa, ?_⟩
   | with_reducible refine ⟨_, _, lower_s qb, ?_⟩
   | with_reducible refine ⟨_, fa _, ?_⟩
   | with_reducible refine ⟨_, fb _, ?_⟩
   | walk_at "runb"
   | fail
  refine lc_cons ⟨_, rfl, ?_⟩
  repeat' first
   | (with_reducible refine w_sw ?_)
   | (with_reducible refine ⟨a, rfl, la, ?_⟩)
   | (with_reducible refine ⟨b, rfl, lb, ?_⟩)
   | ((with_reducible refine less_s fun _ hd => ?_) ; subst hd)
   | ((with_reducible refine compare_w (by assumption) ta tb fun _ hd T => ?_) ; subst hd)
   | with_reducible refine ⟨_, fa _, ?_⟩
   | with_reducible refine ⟨_, fb _, ?_⟩
   | with_reducible refine ⟨_, i0 _ _ _, ?_⟩
   | with_reducible refine ⟨_, i1 _ _ _, ?_⟩
   | (with_reducible refine ⟨_, n4 (by assumption) _, ?_⟩)
   | walk_at "runb"
   | fail
  refine lc_cons ⟨_, rfl, ?_⟩
  repeat' first
   | (with_reducible refine w_sw ?_)
   | (with_reducible refine ⟨a, rfl, la, ?_⟩)
   | (with_reducible refine ⟨b, rfl, lb, ?_⟩)
   | ((with_reducible refine less_s fun _ hd => ?_) ; subst hd)
   | ((with_reducible refine compare_w (by assumption) ta tb fun _ hd T => ?_) ; subst hd)
   | with_reducible refine ⟨_, fa _, ?_⟩
   | with_reducible refine ⟨_, fb _, ?_⟩
   | with_reducible refine ⟨_, i0 _ _ _, ?_⟩
   | with_reducible refine ⟨_, i1 _ _ _, ?_⟩
   | (with_reducible refine ⟨_, n4 (by assumption) _, ?_⟩)
   | walk_at "runb"
   | fail
  all_goals exact fin _ _ _ _ _ _ ⟨_, by simp only [List.append_assoc]; rfl⟩
end
end G
set_option Elab.async false
set_option linter.all false
set_option maxRecDepth 100000
set_option maxHeartbeats 4000000
namespace G
open PySem PySem.Spec L2 L3
noncomputable section
variable {Q : D → Store → Prop} {X : Nat → Store → Prop} {S R : Store}
theorem dxa {S T : Store} (h : ∃ R, DS R S) : ∃ R, DS R (S ++ T) := by
  obtain ⟨R, h⟩ := h
  exact ⟨_, DS.app h⟩
theorem flat1 : ∀ ls : List (List Nat), TL.joinL [] ls = ls.flatten
  | [] => rfl
  | [x] => by simp [TL.joinL]
  | x :: y :: r => by
    have ih := flat1 (y :: r)
    simp only [TL.joinL, List.flatten_cons] at *
    rw [ih]
    simp
theorem join_one {t : List Nat} (h : t.length ≤ 1000) : joinD S (.str []) [.lst (t.map fun c => .str [c])] = some (.str t, S) := by
  have e : t.map (fun c => D.str [c]) = (t.map fun c => [c]).map .str := by rw [List.map_map]; rfl
  have l : ((t.map fun c => [c]).map List.length).sum = t.length := by
    clear h e
    induction t with
    | nil => rfl
    | cons x t ih =>
      simp only [List.map_cons, List.sum_cons, ih, List.length_cons, List.length_nil]
      omega
  have fl : (t.map fun c => [c]).flatten = t := by
    clear e l h
    induction t with
    | nil => rfl
    | cons x t ih => simp only [List.map_cons, List.flatten_cons, ih]; rfl
  rw [e]
  show (match strsOf ((t.map fun c => [c]).map .str) with
    | some ls => if (ls.map List.length).sum + ls.length * ([] : List Nat).length ≤ 100000 then some (D.str (TL.joinL [] ls), S) else none
    | none => none) = _
  rw [strs_map]
  show (if ((t.map fun c => [c]).map List.length).sum + (t.map fun c => [c]).length * 0 ≤ 100000 then some (D.str (TL.joinL [] (t.map fun c => [c])), S) else none) = _
  rw [if_pos (by omega), flat1, fl]
theorem isalpha_one {c : Nat} (h : isSign c = true) : isalphaD S (.str [c]) [] = some (.bl (isAl c), S) := by
  have a := asc1 (sign_lt h)
  show (if asc [c] = true then some (D.bl (![c].isEmpty && [c].all fun c => isUp c || isLo c), S) else none) = _
  rw [if_pos a]
  simp [isAl]
theorem rng12 : L3.intsFrom 0 (Int.toNat 12) = (List.range' 0 12).map fun (j : Nat) => D.int (j : Int) := ints_range 12 0
abbrev prs (ts : List (List Nat)) : List NT := (List.range' 0 12).map fun j => (j, ts.getD j [])
theorem prs_snd {ts : List (List Nat)} (h : ts.length = 12) : (prs ts).map Prod.snd = ts := by
  rw [List.map_map]
  refine List.ext_getElem (by simp [h]) fun i h1 h2 => ?_
  simp [List.getD, h2]
abbrev tailK : SM := sSeq (sSet 17 (rLc (.one 18) (iRng1S (rCons (rC (.int 12)) rNil)) tYesR (rSl slD (rCall m__law_near (rCons (rVar 1) (rCons (rVar 2) rNil))) oNone (oSome (rC (.int 40)))) [18])) (sSeq (sSet 7 (rLc (.tup [19, 20, 11]) (iAny (rCB sortPD (rCons (rLc (.one 18) (iRng1S (rCons (rC (.int 12)) rNil)) tYesR (rTup (rCons (rCall m__law_number_key (rCons (r2 ixD (rVar 17) (rVar 18)) rNil)) (rCons (rVar 18) (rCons (r2 ixD (rVar 17) (rVar 18)) rNil)))) [18]) rNil))) tYesR (rVar 11) [19, 20, 11])) (sSeq (sIf (tOf (r2 neD (rCall m_sorted_by (rCons (rVar 12) (rCons (rVar 17) rNil))) (rVar 7))) (sRet (rC (.bl false))) sNext) (sSeq (sSet 21 (rLc (.tup [19, 11]) (iSeq (rCB sortPD (rCons (rLc (.one 11) (iSeq (rVar 17)) tYesR (rTup (rCons (rSw 95 [32] (rVar 11)) (rCons (rVar 11) rNil))) [11]) rNil))) tYesR (rVar 11) [19, 11])) (sRet (r2 eqD (rCall m_sorted_by (rCons (rTup (rCons (rC (.str [97, 112, 97, 114, 116])) (rCons (rC (.str [115, 105, 103, 110, 115])) (rCons (rC (.str [97, 104, 101, 97, 100])) (rCons (rC (.str [102, 105, 114, 115, 116])) (rCons (rC (.int 0)) rNil)))))) (rCons (rVar 17) rNil))) (rVar 21))))))
theorem tail_w {one : List Nat} {v0 v3 v4 v5 v6 v7 v8 v9 v10 v11 v13 v14 v15 v16 v17 v18 v19 v20 v21 : Option D} (one2 : one.all isSign = true) (o1 : one.length ≤ 20) (hS : ∃ R, DS R S) :
    ws (tailK [v0, some (.loc 1), some (.str one), v3, v4, v5, v6, v7, v8, v9, v10, v11, some (ruleD sTogether sNumbers sAhead sFirst 0), v13, v14, v15, v16, v17, v18, v19, v20, v21] S) (fnZ (fun d S => d = .bl true) fun _ _ => False) := by
  have e40 : ∀ (S : Store) (s : List Nat), s.length ≤ 2000 → slD S (.str s) none (some 40) = some (.str (s.take 40)) := fun S s h => sl_lo (by omega) 40
  have rw : RV sTogether sNumbers sAhead sFirst 0 := ⟨by decide, by decide, by decide, by decide, .inl rfl⟩
  have ra : RV sApart sSigns sAhead sFirst 0 := ⟨by decide, by decide, by decide, by decide, .inl rfl⟩
  repeat' first
   | walk_at "runb"
   | fail
  refine ⟨by decide, ?_⟩
  rw [rng12]
  refine ⟨by simp, ?_⟩
  refine lc_inv (fun acc S => ∃ (ts : List (List Nat)), acc = ts.map D.str ∧ (∀ t ∈ ts, TV t) ∧ ∃ R, DS R S) _ _ [] ⟨[], rfl, by simp, hS⟩ ?_ ?_
  · rintro d hd acc S10 ⟨ts, rfl, ht, R, hS10⟩
    refine ⟨_, rfl, ?_⟩
    with_reducible refine wp_env (by simp only [wipeE, List.set_cons_succ, List.set_cons_zero]; exact rfl) ?_
    repeat' first
     | (with_reducible refine near_w hS10 (by omega) one2 fun v S11 v1 v2 hS11 => ?_)
     | walk_at "runb"
     | fail
    have e42 : ∀ S, slD S (.str v) none (some 40) = some (.str (v.take 40)) := fun S => e40 S v (by omega)
    repeat' first
     | (with_reducible refine ⟨_, e42 _, ?_⟩)
     | walk_at "runb"
     | fail
    refine ⟨ts ++ [v.take 40], by simp, fun t h => ?_, _, hS11⟩
    rcases List.mem_append.mp h with h | h
    · exact ht t h
    · rw [List.mem_singleton.mp h]; exact ⟨by simp; omega, all_take v2 _⟩
  rintro l S10 hlen ⟨ts, hts, ht, R10, hS10⟩
  rw [List.nil_append] at hts
  subst hts
  have tl : ts.length = 12 := by simpa using hlen
  have tl12 : 1 ≤ ts.length ∧ ts.length ≤ 12 := by omega
  repeat' first
   | walk_at "runb"
   | fail
  refine ⟨by decide, ?_⟩
  rw [rng12]
  refine ⟨by simp, ?_⟩
  refine lc_each0 (fun (j : Nat) => D.int (j : Int)) (fun (j : Nat) => row3 (j, ts.getD j [])) (List.range' 0 12) (fun j hj => ⟨_, rfl, fun T => ?_⟩) (fun T3 => ?_)
  · have hj : j < ts.length := by rw [List.mem_range'_1] at hj; omega
    have tj := TV_getD ht hj
    with_reducible refine wp_env (by simp only [wipeE, List.set_cons_succ, List.set_cons_zero]; exact rfl) ?_
    repeat' first
     | (with_reducible refine ⟨_, ix_strs hj, ?_⟩)
     | ((with_reducible refine nkey_w tj fun _ hd => ?_) ; subst hd)
     | walk_at "runb"
     | fail
    exact ⟨rfl, _, by simp only [List.append_assoc]; rfl⟩
  have pr : (List.range' 0 12).map (fun (j : Nat) => row3 (j, ts.getD j [])) = (prs ts).map row3 := by rw [List.map_map]; rfl
  rw [pr]
  have px : ∀ p ∈ prs ts, TV p.2 := fun p hp => by
    obtain ⟨j, hj, rfl⟩ := List.mem_map.mp hp
    exact TV_getD ht (by rw [List.mem_range'_1] at hj; omega)
  have pi : (prs ts).Pairwise fun p q => p.1 < q.1 := List.pairwise_map.mpr ((by decide : (List.range' 0 12).Pairwise fun a b => a < b))
  have sk := sorted_key px pi
  rw [prs_snd tl] at sk
  have sd : ∀ S : Store, sortPD S [.lst ((prs ts).map row3)] = some (.lst (((prs ts).mergeSort (leT c3)).map row3)) := fun S => sort_do do3 (by decide) (fun x => ⟨_, _, rfl⟩) (prs ts) (by simp) rfl
  repeat' first
   | (with_reducible refine ⟨_, sd _, ?_⟩)
   | walk_at "runb"
   | fail
  refine .inl ⟨_, rfl, by simp, ?_⟩
  refine lc_each0 row3 (fun p => D.str p.2) _ (fun p hp => ⟨_, rfl, fun T => ?_⟩) (fun T4 => ?_)
  · skip
    with_reducible refine wp_env (by simp only [wipeE, List.set_cons_succ, List.set_cons_zero]; exact rfl) ?_
    repeat' first
     | walk_at "runb"
     | fail
    exact ⟨rfl, _, rfl⟩
  have fs : ((prs ts).mergeSort (leT c3)).map (fun p => D.str p.2) = (sortM (toldM sTogether sNumbers sAhead sFirst 0) ts).map D.str := by rw [← sk, List.map_map]; rfl
  rw [fs]
  have l2 : ∀ p ∈ ts, p.length ≤ 1000 ∧ ([32] : List Nat).length ≤ 1000 := fun p hp => ⟨Nat.le_trans (ht p hp).len (by decide), by simp⟩
  have sd2 : ∀ S : Store, sortPD S [.lst (ts.map row2)] = some (.lst ((sortM (toldM sApart sSigns sAhead sFirst 0) ts).map row2)) := fun S => by
    rw [sort_do do2 (by decide) (fun x => ⟨_, _, rfl⟩) ts (by omega) rfl, sorted_line ht]
  have sl : (sortM (toldM sApart sSigns sAhead sFirst 0) ts).length = 12 := by rw [(sort_permM (TC.told _ _ _ _ _) ts).length_eq, tl]
  repeat' first
   | ((with_reducible refine sorted_by_w rw tl12 ht fun _ hd T => ?_) ; subst hd)
   | (with_reducible refine w_iseq ?_)
   | walk_at "runb"
   | fail
  all_goals first | (exfalso; exact hb rfl) | skip
  refine ⟨by rw [List.length_map]; omega, ?_⟩
  refine lc_each0 D.str row2 ts (fun p hp => ⟨_, rfl, fun T => ?_⟩) (fun T5 => ?_)
  · have lp := l2 p hp
    with_reducible refine wp_env (by simp only [wipeE, List.set_cons_succ, List.set_cons_zero]; exact rfl) ?_
    repeat' first
     | (with_reducible refine w_sw ?_)
     | (with_reducible refine ⟨p, rfl, lp, ?_⟩)
     | walk_at "runb"
     | fail
    exact ⟨rfl, _, rfl⟩
  repeat' first
   | (with_reducible refine ⟨_, sd2 _, ?_⟩)
   | walk_at "runb"
   | fail
  refine ⟨by rw [List.length_map]; omega, ?_⟩
  refine lc_each0 row2 D.str _ (fun p hp => ⟨_, rfl, fun T => ?_⟩) (fun T6 => ?_)
  · skip
    with_reducible refine wp_env (by simp only [wipeE, List.set_cons_succ, List.set_cons_zero]; exact rfl) ?_
    repeat' first
     | walk_at "runb"
     | fail
    exact ⟨rfl, _, rfl⟩
  repeat' first
   | ((with_reducible refine sorted_by_w ra tl12 ht fun _ hd T => ?_) ; subst hd)
   | walk_at "runb"
   | fail
  simp
end
end G
set_option Elab.async false
set_option linter.all false
set_option maxRecDepth 100000
set_option maxHeartbeats 4000000
namespace G
open PySem PySem.Spec L2 L3
noncomputable section
variable {Q : D → Store → Prop} {X : Nat → Store → Prop} {S R : Store}
theorem law_wp {ns : List Int} (hl : ns.length ≤ 63) : wp (m_law [] [.scr ns]) (fun d S => d = .bl true) (fun _ _ => False) := by
  have e40 : ∀ (S : Store) (s : List Nat), s.length ≤ 2000 → slD S (.str s) none (some 40) = some (.str (s.take 40)) := fun S s h => sl_lo (by omega) 40
  unfold m_law b_law
  with_reducible refine w_fn2 (by simp only [List.map_cons, List.map_nil, List.replicate, List.cons_append, List.nil_append, Nat.reduceSub]; exact rfl) ?_
  repeat' first
   | (with_reducible refine start_w hl fun S0 hS0 => ?_)
   | (with_reducible refine wild_w hS0 (by decide) fun one S1 o1 one2 hS1 => ?_)
   | (with_reducible refine near_w hS1 (by omega) one2 fun t S2 t1 t2 hS2 => ?_)
   | walk_at "runb"
   | fail
  have ta : TV one := ⟨by omega, one2⟩
  have tb : TV (t.take 40) := ⟨by simp; omega, all_take t2 _⟩
  have tl : t.length ≤ 2000 := by omega
  generalize hu : t.take 40 = u at tb
  have e41 : ∀ S, slD S (.str t) none (some 40) = some (.str u) := fun S => by rw [e40 S t tl, hu]
  repeat' first
   | (with_reducible refine ⟨_, e41 _, ?_⟩)
   | walk_at "runb"
   | fail
  with_reducible refine s_marks ?_
  with_reducible refine ws_env (by simp only [List.set_cons_succ, List.set_cons_zero]; exact rfl) ?_
  refine body_w (m := 32) (br := sAhead) (.inl ⟨rfl, rfl⟩) ta tb fun x6 x7 x8 x9 x10 T1 => mkZ_nx ?_
  with_reducible refine ws_env (by simp only [List.set_cons_succ, List.set_cons_zero]; exact rfl) ?_
  refine body_w (m := 126) (br := sBehind) (.inr ⟨rfl, rfl⟩) ta tb fun y6 y7 y8 y9 y10 T2 => mkZ_nx ?_
  have rw : RV sTogether sNumbers sAhead sFirst 0 := ⟨by decide, by decide, by decide, by decide, .inl rfl⟩
  have rl : RV sLast sNumbers sAhead sFirst 0 := ⟨by decide, by decide, by decide, by decide, .inl rfl⟩
  have ra : RV sApart sSigns sAhead sFirst 0 := ⟨by decide, by decide, by decide, by decide, .inl rfl⟩
  have n1 : ∀ S, neD S (.int (toldM sTogether sNumbers sAhead sFirst 0 one u)) (.int (cmpKey (nkey one) (nkey u))) = some (.bl false) := fun S => by rw [told_key ta tb, neD_ii]; simp
  have n5 : ¬ toldM sTogether sNumbers sAhead sFirst 0 one u = 0 → ∀ S, neD S (.int (toldM sLast sNumbers sAhead sFirst 0 one u)) (.int (toldM sTogether sNumbers sAhead sFirst 0 one u)) = some (.bl false) := fun h S => by
    rw [told_last ta tb, if_neg h, neD_ii]; simp
  have n6 : toldM sTogether sNumbers sAhead sFirst 0 one u = 0 → ∀ S, neD S (.int (toldM sLast sNumbers sAhead sFirst 0 one u)) (.int (cmpT (one.filter isAl) (u.filter isAl))) = some (.bl false) := fun h S => by
    rw [told_last ta tb, if_pos h, neD_ii]; simp
  have i0 : ∀ S x y, ixD S (.lst [x, y]) (.int 0) = some x := fun _ _ _ => rfl
  have i1 : ∀ S x y, ixD S (.lst [x, y]) (.int 1) = some y := fun _ _ _ => rfl
  have join : ∀ v, TV v → ∀ S, joinD S (.str []) [.lst ((v.filter isAl).map fun c => .str [c])] = some (.str (v.filter isAl), S) := fun v tv S => join_one (Nat.le_trans (List.length_filter_le _ _) (Nat.le_trans tv.len (by decide)))
  repeat' first
   | ((with_reducible refine compare_w (by assumption) ta tb fun _ hd T => ?_) ; subst hd)
   | ((with_reducible refine nkey_w ta fun _ hd => ?_) ; subst hd)
   | ((with_reducible refine nkey_w tb fun _ hd => ?_) ; subst hd)
   | ((with_reducible refine less_k fun _ hd => ?_) ; subst hd)
   | (with_reducible refine ⟨_, n1 _, ?_⟩)
   | (with_reducible refine .inr (.inl ⟨_, rfl, ?_⟩))
   | walk_at "runb"
   | fail
  refine lc_each0 D.str (fun v => D.str (v.filter isAl)) [one, u] (fun v hv => ⟨_, rfl, fun T => ?_⟩) (fun T3 => ?_)
  · have tv : TV v := by
      simp only [List.mem_cons, List.not_mem_nil, or_false] at hv
      rcases hv with rfl | rfl
      · exact ta
      · exact tb
    with_reducible refine wp_env (by simp only [wipeE, List.set_cons_succ, List.set_cons_zero]; exact rfl) ?_
    repeat' first
     | walk_at "runb"
     | fail
    refine .inr (.inr ⟨_, rfl, by rw [List.length_map]; exact Nat.le_trans tv.len (by decide), ?_⟩)
    refine lc_test0 (fun c => D.str [c]) (fun c => D.str [c]) isAl v (fun c hc => ⟨_, rfl, fun T => ?_⟩) (fun T => ?_)
    · have ia := isalpha_one (S := S2) (tv.sign c hc)
      have ia : ∀ S, isalphaD S (.str [c]) [] = some (.bl (isAl c), S) := fun S => isalpha_one (tv.sign c hc)
      with_reducible refine wp_env (by simp only [wipeE, List.set_cons_succ, List.set_cons_zero]; exact rfl) ?_
      repeat' first
       | (with_reducible refine ⟨_, _, ia _, ?_⟩)
       | with_reducible refine ⟨rfl, ⟨_, rfl⟩, fun _ => ?_⟩
       | with_reducible exact ⟨rfl, _, rfl⟩
       | walk_at "runb"
       | fail
    · repeat' first
       | (with_reducible refine ⟨_, _, join v tv _, ?_⟩)
       | walk_at "runb"
       | fail
      exact ⟨rfl, _, List.append_assoc _ _ _⟩
  simp only [List.map_cons, List.map_nil]
  repeat' first
   | ((with_reducible refine compare_w (by assumption) ta tb fun _ hd T => ?_) ; subst hd)
   | ((with_reducible refine less_s fun _ hd => ?_) ; subst hd)
   | (with_reducible exact tail_w one2 (by omega) (by repeat' first | exact ⟨_, hS2⟩ | refine dxa ?_))
   | (with_reducible refine ⟨_, n5 (by assumption) _, ?_⟩)
   | (with_reducible refine ⟨_, n6 (by assumption) _, ?_⟩)
   | (with_reducible refine ⟨_, i0 _ _ _, ?_⟩)
   | (with_reducible refine ⟨_, i1 _ _ _, ?_⟩)
   | walk_at "runb"
   | fail
theorem law_true (ns : List Int) (hl : ns.length ≤ 63) : ∃ S, m_law [] [.scr ns] = .ok (.bl true) S := by
  have h := law_wp hl
  rw [wp_e] at h
  revert h
  cases m_law [] [.scr ns] with
  | ok d S => intro h; exact ⟨S, by rw [show d = .bl true from h]⟩
  | exc => exact False.elim
  | stuck => exact False.elim
end
end G
theorem PySem.Challenge.cw_orderrules_k18_whole_known_holds : PySem.Challenge.rw_orderrules_k18_whole_known.Holds := by
  exact G.fin G.law_true
