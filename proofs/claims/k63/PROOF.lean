import PyProof.Rows.All
import Wide.All
import OpenK.AllK
import Wide.FinOn
import HandS.ForMost
import HandS.ForExc
import HandS.Style
import HandS.Flow
import HandS.DictEq
import HandS.DeepEq
import KE.DataEq
import HandS.Wide
import HandS.TupAny
import HandS.Deep
import HandS.ExcOwn
import HandS.Zip
import HandS.RaiseMore
import HandS.SortInts
import HandS.Small
import HandS.ExcCtx
import PyProof.ReprBulk
import HandS.ExcInit
import HandS.Nested
import KE.KExcSuper
import HandS.ExcField
import HandS.Conv
import KE.DataMinMax
import KE.DatumOrd
import HandS.SortRule
import HandS.HotCalls
import HandS.Text
import KE.KExcIs
import HandS.Star
import KE.GoesZip
import KE.GoesEnum
import HandS.SetFor
import HandS.Strs
import HandS.DictComp
import HandS.Gcd
import KE.DataFind
import KE.KSortTupG
import PySem.Challenge.RW_bargainstold_k63_errors_of_closed_days
set_option Elab.async false
set_option linter.all false
set_option maxRecDepth 100000
set_option maxHeartbeats 4000000

namespace DV
open PySem L2

/-- data as trees -/
inductive D where
  | non | bl (b : Bool) | int (i : Int) | str (x : Str)
  | lst (xs : List D) | tup (xs : List D) | dct (kvs : List (Key × D)) | scr (ns : List Int)

/-- an outcome: a value, an error of the class named c that carries d, or: not followed here -/
inductive R (α : Type) where
  | ok (a : α) | exc (c : Str) (n : Int) | no

def R.bind {α β : Type} : R α → (α → R β) → R β
  | .ok a, f => f a
  | .exc c d, _ => .exc c d
  | .no, _ => .no
@[simp] theorem R.bind_ok {α β : Type} (a : α) (f : α → R β) : R.bind (.ok a) f = f a := Eq.trans rfl rfl
@[simp] theorem R.bind_exc {α β : Type} (c : Str) (d : Int) (f : α → R β) : R.bind (.exc c d) f = .exc c d := Eq.trans rfl rfl
@[simp] theorem R.bind_no {α β : Type} (f : α → R β) : R.bind .no f = .no := Eq.trans rfl rfl

/-- what stands in a slot: a datum that nobody changes; a list, a dict of the slot's own -/
inductive SV where
  | d (x : D) | ol (xs : List D) | od (kvs : List (Key × D)) | ex (a dx : Addr) (n : Int) | op (v : V)
abbrev Env := List (Option SV)

/-- the script: known to the machine, or written -/
def ScrO (K : PySem.W.Frag) (H : Hp) (a : Addr) (vs : List V) : Prop := (∃ o, H a = some (.frz o (.lst vs))) ∨ SqL K (fun _ => none) a vs
theorem ScrO.sq {K : PySem.W.Frag} {H : Hp} {a : Addr} {vs : List V} (h : ScrO K H a vs) : SqL K H a vs := by
  rcases h with ⟨o, h⟩ | (h | ⟨o, h⟩) | h
  · exact .inl (.inr ⟨o, h⟩)
  · cases h
  · cases h
  · exact .inr h
section
variable (K : PySem.W.Frag) (O : Addr → Prop) (H : Hp)
mutual
/-- v is the datum d in the heap H; its lists stand away from O -/
def RepD : D → V → Prop
  | .non, v => v = .non
  | .bl b, v => v = .bl b
  | .int i, v => v = .int i
  | .str x, v => v = .str x
  | .lst xs, v => ∃ a vs, v = .ref a ∧ ¬ O a ∧ H a = some (.lst vs) ∧ RepDs xs vs
  | .tup xs, v => ∃ a vs, v = .ref a ∧ SqT K H a vs ∧ RepDs xs vs
  | .dct kvs, v => ∃ a vs, v = .ref a ∧ ¬ O a ∧ Rd H a (.dK vs) ∧ RepKs kvs vs
  | .scr ns, v => ∃ a, v = .ref a ∧ ScrO K H a (ns.map V.int)
def RepDs : List D → List V → Prop
  | [], vs => vs = []
  | x :: xs, vs => ∃ v r, vs = v :: r ∧ RepD x v ∧ RepDs xs r
def RepKs : List (Key × D) → List (Key × V) → Prop
  | [], vs => vs = []
  | (k, x) :: xs, vs => ∃ v r, vs = (k, v) :: r ∧ RepD x v ∧ RepKs xs r
end
/-- the topmost list or dict may stand in O -/
def RepTop : D → V → Prop
  | .lst xs, v => ∃ a vs, v = .ref a ∧ H a = some (.lst vs) ∧ RepDs K O H xs vs
  | .dct kvs, v => ∃ a vs, v = .ref a ∧ Rd H a (.dK vs) ∧ RepKs K O H kvs vs
  | d, v => RepD K O H d v
def RepM (m : Bool) (d : D) (v : V) : Prop := if m = true then RepTop K O H d v else RepD K O H d v
end

/-- what is kept: all away from O, and what is never written -/
def Keep (O : Addr → Prop) (H H' : Hp) : Prop := ∀ a o, H a = some o → (¬ O a ∨ ¬ Mut (some o)) → H' a = some o
theorem Keep.of_same {O : Addr → Prop} {H H' : Hp} (h : Same H H') : Keep O H H' := fun a o e _ => h a o e
theorem Keep.refl {O : Addr → Prop} {H : Hp} : Keep O H H := fun _ _ e _ => e
theorem Keep.upd {O : Addr → Prop} {H : Hp} {a : Addr} {o : HO} (h : O a) (hm : Mut (H a)) : Keep O H (L2.upd H a o) := fun b u e c => by
  by_cases hb : b = a
  · subst hb
    rcases c with c | c
    · exact absurd h c
    · rw [e] at hm; exact absurd hm c
  · rw [upd_ne hb]; exact e
theorem Keep.new {O : Addr → Prop} {H : Hp} {a : Addr} {o : HO} (h : H a = none) : Keep O H (L2.upd H a o) := fun b u e _ => by
  rw [upd_ne (ne_of_none e h)]; exact e

section
variable {K : PySem.W.Frag} {O O' : Addr → Prop} {H H' : Hp}
theorem rd_keep {a : Addr} {u : HO} (k : Keep O H H') (ho : ¬ O a ∨ ¬ Mut (some u)) (h : Rd H a u) : Rd H' a u := by
  rcases h with h | ⟨o, h⟩
  · exact .inl (k a _ h ho)
  · exact .inr ⟨o, k a _ h (.inr (fun z => z))⟩
theorem ScrO.keep {a : Addr} {vs : List V} (k : Keep O H H') (h : ScrO K H a vs) : ScrO K H' a vs := by
  rcases h with ⟨o, h⟩ | h
  · exact .inl ⟨o, k _ _ h (.inr fun z => z)⟩
  · exact .inr h
theorem sqT_keep {a : Addr} {vs : List V} (k : Keep O H H') (h : SqT K H a vs) : SqT K H' a vs := by
  rcases h with h | h
  · exact .inl (rd_keep k (.inr (fun z => z)) h)
  · exact .inr h
mutual
/-- fewer addresses are forbidden, the heap is kept -/
theorem RepD.keep (k : Keep O H H') (w : ∀ a, O' a → O a) : ∀ (d : D) (v : V), RepD K O H d v → RepD K O' H' d v
  | .non, _, h => h
  | .bl _, _, h => h
  | .int _, _, h => h
  | .str _, _, h => h
  | .lst xs, v, h => by
    simp only [RepD] at h ⊢
    obtain ⟨a, vs, e, ho, hs, hr⟩ := h
    exact ⟨a, vs, e, fun z => ho (w a z), k _ _ hs (.inl ho), RepDs.keep k w xs vs hr⟩
  | .tup xs, v, h => by
    simp only [RepD] at h ⊢
    obtain ⟨a, vs, e, hs, hr⟩ := h
    exact ⟨a, vs, e, sqT_keep k hs, RepDs.keep k w xs vs hr⟩
  | .dct kvs, v, h => by
    simp only [RepD] at h ⊢
    obtain ⟨a, vs, e, ho, hs, hr⟩ := h
    exact ⟨a, vs, e, fun z => ho (w a z), rd_keep k (.inl ho) hs, RepKs.keep k w kvs vs hr⟩
  | .scr ns, v, h => by
    simp only [RepD] at h ⊢
    obtain ⟨a, e, h⟩ := h
    exact ⟨a, e, h.keep k⟩
theorem RepDs.keep (k : Keep O H H') (w : ∀ a, O' a → O a) : ∀ (ds : List D) (vs : List V), RepDs K O H ds vs → RepDs K O' H' ds vs
  | [], _, h => by simp only [RepDs] at h ⊢; exact h
  | x :: xs, vs, h => by
    simp only [RepDs] at h ⊢
    obtain ⟨v, r, e, h1, h2⟩ := h
    exact ⟨v, r, e, RepD.keep k w x v h1, RepDs.keep k w xs r h2⟩
theorem RepKs.keep (k : Keep O H H') (w : ∀ a, O' a → O a) : ∀ (ds : List (Key × D)) (vs : List (Key × V)), RepKs K O H ds vs → RepKs K O' H' ds vs
  | [], _, h => by simp only [RepKs] at h ⊢; exact h
  | (c, x) :: xs, vs, h => by
    simp only [RepKs] at h ⊢
    obtain ⟨v, r, e, h1, h2⟩ := h
    exact ⟨v, r, e, RepD.keep k w x v h1, RepKs.keep k w xs r h2⟩
end
theorem RepD.same {d : D} {v : V} (s : Same H H') (h : RepD K O H d v) : RepD K O H' d v := RepD.keep (Keep.of_same s) (fun _ z => z) d v h
theorem RepDs.same {d : List D} {v : List V} (s : Same H H') (h : RepDs K O H d v) : RepDs K O H' d v := RepDs.keep (Keep.of_same s) (fun _ z => z) d v h
theorem RepKs.same {d : List (Key × D)} {v : List (Key × V)} (s : Same H H') (h : RepKs K O H d v) : RepKs K O H' d v := RepKs.keep (Keep.of_same s) (fun _ z => z) d v h
mutual
/-- a new address may be forbidden -/
theorem RepD.avoid {p : Addr} (n : H p = none) : ∀ (d : D) (v : V), RepD K O H d v → RepD K (fun a => O a ∨ a = p) H d v
  | .non, _, h => h
  | .bl _, _, h => h
  | .int _, _, h => h
  | .str _, _, h => h
  | .lst xs, v, h => by
    simp only [RepD] at h ⊢
    obtain ⟨a, vs, e, ho, hs, hr⟩ := h
    refine ⟨a, vs, e, fun z => z.elim ho fun z => ?_, hs, RepDs.avoid n xs vs hr⟩
    subst z
    rw [n] at hs; cases hs
  | .tup xs, v, h => by
    simp only [RepD] at h ⊢
    obtain ⟨a, vs, e, hs, hr⟩ := h
    exact ⟨a, vs, e, hs, RepDs.avoid n xs vs hr⟩
  | .dct kvs, v, h => by
    simp only [RepD] at h ⊢
    obtain ⟨a, vs, e, ho, hs, hr⟩ := h
    refine ⟨a, vs, e, fun z => z.elim ho fun z => ?_, hs, RepKs.avoid n kvs vs hr⟩
    subst z
    rcases hs with h1 | ⟨o, h1⟩
    · rw [n] at h1; cases h1
    · rw [n] at h1; cases h1
  | .scr ns, v, h => by
    simp only [RepD] at h ⊢
    exact h
theorem RepDs.avoid {p : Addr} (n : H p = none) : ∀ (ds : List D) (vs : List V), RepDs K O H ds vs → RepDs K (fun a => O a ∨ a = p) H ds vs
  | [], _, h => by simp only [RepDs] at h ⊢; exact h
  | x :: xs, vs, h => by
    simp only [RepDs] at h ⊢
    obtain ⟨v, r, e, h1, h2⟩ := h
    exact ⟨v, r, e, RepD.avoid n x v h1, RepDs.avoid n xs r h2⟩
theorem RepKs.avoid {p : Addr} (n : H p = none) : ∀ (ds : List (Key × D)) (vs : List (Key × V)), RepKs K O H ds vs → RepKs K (fun a => O a ∨ a = p) H ds vs
  | [], _, h => by simp only [RepKs] at h ⊢; exact h
  | (c, x) :: xs, vs, h => by
    simp only [RepKs] at h ⊢
    obtain ⟨v, r, e, h1, h2⟩ := h
    exact ⟨v, r, e, RepD.avoid n x v h1, RepKs.avoid n xs r h2⟩
end
theorem RepD.top {d : D} {v : V} (h : RepD K O H d v) : RepTop K O H d v := by
  cases d <;> simp only [RepTop] <;> try exact h
  · simp only [RepD] at h
    obtain ⟨a, vs, e, _, q⟩ := h
    exact ⟨a, vs, e, q⟩
  · simp only [RepD] at h
    obtain ⟨a, vs, e, _, q⟩ := h
    exact ⟨a, vs, e, q⟩
theorem RepTop.same {d : D} {v : V} (s : Same H H') (h : RepTop K O H d v) : RepTop K O H' d v := by
  cases d <;> simp only [RepTop] at h ⊢ <;> try exact RepD.same s h
  · obtain ⟨a, vs, e, h1, h2⟩ := h
    exact ⟨a, vs, e, s _ _ h1, RepDs.same s h2⟩
  · obtain ⟨a, vs, e, h1, h2⟩ := h
    refine ⟨a, vs, e, ?_, RepKs.same s h2⟩
    rcases h1 with h1 | ⟨o, h1⟩
    · exact .inl (s _ _ h1)
    · exact .inr ⟨o, s _ _ h1⟩
theorem RepM.same {m : Bool} {d : D} {v : V} (s : Same H H') (h : RepM K O H m d v) : RepM K O H' m d v := by
  unfold RepM at h ⊢
  cases m
  · exact RepD.same s h
  · exact RepTop.same s h
theorem RepDs.length : ∀ {ds : List D} {vs : List V}, RepDs K O H ds vs → ds.length = vs.length
  | [], vs, h => by simp only [RepDs] at h; subst h; rfl
  | x :: xs, vs, h => by
    simp only [RepDs] at h
    obtain ⟨v, r, e, _, h2⟩ := h
    subst e
    simp [RepDs.length h2]
theorem RepDs.get : ∀ {ds : List D} {vs : List V} {i : Nat} {d : D}, RepDs K O H ds vs → ds[i]? = some d → ∃ v, vs[i]? = some v ∧ RepD K O H d v
  | [], _, _, _, _, e => by simp at e
  | x :: xs, vs, i, d, h, e => by
    simp only [RepDs] at h
    obtain ⟨v, r, e1, h1, h2⟩ := h
    subst e1
    cases i with
    | zero => simp at e; subst e; exact ⟨v, rfl, h1⟩
    | succ i =>
      obtain ⟨w, q1, q2⟩ := RepDs.get (i := i) h2 (by simpa using e)
      exact ⟨w, by simpa using q1, q2⟩
theorem RepDs.getV {ds : List D} {vs : List V} {i : Nat} {v : V} (h : RepDs K O H ds vs) (e : vs[i]? = some v) : ∃ d, ds[i]? = some d ∧ RepD K O H d v := by
  have hi : i < ds.length := by
    rw [h.length]
    exact (List.getElem?_eq_some_iff.mp e).1
  obtain ⟨w, q1, q2⟩ := h.get (List.getElem?_eq_getElem hi)
  rw [e] at q1
  cases q1
  exact ⟨_, List.getElem?_eq_getElem hi, q2⟩
theorem RepDs.append : ∀ {ds es : List D} {vs us : List V}, RepDs K O H ds vs → RepDs K O H es us → RepDs K O H (ds ++ es) (vs ++ us)
  | [], es, vs, us, h, g => by simp only [RepDs] at h; subst h; exact g
  | x :: xs, es, vs, us, h, g => by
    simp only [RepDs] at h
    obtain ⟨v, r, e, h1, h2⟩ := h
    subst e
    simp only [List.cons_append, RepDs]
    exact ⟨v, r ++ us, rfl, h1, RepDs.append h2 g⟩
theorem RepDs.take : ∀ {ds : List D} {vs : List V} (n : Nat), RepDs K O H ds vs → RepDs K O H (ds.take n) (vs.take n)
  | _, _, 0, _ => by simp [RepDs]
  | [], vs, n + 1, h => by simp only [RepDs] at h; subst h; simp [RepDs]
  | x :: xs, vs, n + 1, h => by
    simp only [RepDs] at h
    obtain ⟨v, r, e, h1, h2⟩ := h
    subst e
    simp only [List.take_succ_cons, RepDs]
    exact ⟨v, _, rfl, h1, RepDs.take n h2⟩
theorem RepDs.drop : ∀ {ds : List D} {vs : List V} (n : Nat), RepDs K O H ds vs → RepDs K O H (ds.drop n) (vs.drop n)
  | _, _, 0, h => by simpa using h
  | [], vs, n + 1, h => by simp only [RepDs] at h; subst h; simp [RepDs]
  | x :: xs, vs, n + 1, h => by
    simp only [RepDs] at h
    obtain ⟨v, r, e, h1, h2⟩ := h
    subst e
    simpa using RepDs.drop n h2
theorem RepDs.nil : RepDs K O H [] [] := by simp [RepDs]
theorem RepDs.cons {d : D} {v : V} {ds : List D} {vs : List V} (h : RepD K O H d v) (g : RepDs K O H ds vs) : RepDs K O H (d :: ds) (v :: vs) := by
  simp only [RepDs]; exact ⟨v, vs, rfl, h, g⟩
theorem RepDs.ofAll : ∀ {ds : List D} {vs : List V}, ds.length = vs.length → (∀ (i : Nat) d v, ds[i]? = some d → vs[i]? = some v → RepD K O H d v) → RepDs K O H ds vs
  | [], [], _, _ => .nil
  | d :: ds, v :: vs, e, h => .cons (h 0 d v rfl rfl) (RepDs.ofAll (by simpa using e) fun i a b p q => h (i + 1) a b (by simpa using p) (by simpa using q))
theorem RepDs.reverse {ds : List D} {vs : List V} (h : RepDs K O H ds vs) : RepDs K O H ds.reverse vs.reverse := by
  refine .ofAll (by simp [h.length]) fun i d v p q => ?_
  have h1 : i < ds.length := by simpa using (List.getElem?_eq_some_iff.mp p).1
  have e := h.length
  rw [List.getElem?_reverse h1] at p
  rw [List.getElem?_reverse (by omega)] at q
  rw [e] at p
  obtain ⟨w, q1, q2⟩ := h.get p
  rw [q] at q1; cases q1; exact q2
theorem RepDs.set {ds : List D} {vs : List V} {d : D} {v : V} (i : Nat) (h : RepDs K O H ds vs) (g : RepD K O H d v) : RepDs K O H (ds.set i d) (vs.set i v) := by
  refine .ofAll (by simp [h.length]) fun j a b p q => ?_
  by_cases e : i = j
  · subst e
    have h1 : i < ds.length := by simpa using (List.getElem?_eq_some_iff.mp p).1
    have h2 : i < vs.length := by rw [← h.length]; exact h1
    rw [List.getElem?_set_self h1] at p
    rw [List.getElem?_set_self h2] at q
    cases p; cases q; exact g
  · rw [List.getElem?_set_ne e] at p
    rw [List.getElem?_set_ne e] at q
    obtain ⟨w, q1, q2⟩ := h.get p
    rw [q] at q1; cases q1; exact q2
theorem RepKs.length : ∀ {ds : List (Key × D)} {vs : List (Key × V)}, RepKs K O H ds vs → ds.length = vs.length
  | [], vs, h => by simp only [RepKs] at h; subst h; rfl
  | (c, x) :: xs, vs, h => by
    simp only [RepKs] at h
    obtain ⟨v, r, e, _, h2⟩ := h
    subst e
    simp [RepKs.length h2]
end
end DV

namespace DV
open PySem L2

/-! the slots and what they hold -/
def SV.own : SV → Bool
  | .d _ => false
  | .ex _ _ _ => false
  | .op _ => false
  | _ => true
def RepV (K : PySem.W.Frag) (O : Addr → Prop) (H : Hp) : SV → V → Prop
  | .d x, v => RepD K O H x v
  | .ol xs, v => ∃ a vs, v = .ref a ∧ O a ∧ H a = some (.lst vs) ∧ RepDs K O H xs vs
  | .od kvs, v => ∃ a vs, v = .ref a ∧ O a ∧ H a = some (.dK vs) ∧ RepKs K O H kvs vs
  | .ex a dx n, v => v = .ref a ∧ H dx = some (.xd [(("at" : Str), .int n)])
  | .op w, v => v = w
structure RepS (K : PySem.W.Frag) (O : Addr → Prop) (H : Hp) (σ : L2.St) (env : Env) : Prop where
  len : σ.length = env.length
  get : ∀ (i : Nat) sv, env[i]? = some (some sv) → ∃ v, σ[i]? = some (some v) ∧ RepV K O H sv v
  inj : ∀ (i j : Nat) (a : Addr) su sv, env[i]? = some (some su) → env[j]? = some (some sv) → su.own = true → sv.own = true → σ[i]? = some (some (.ref a)) → σ[j]? = some (some (.ref a)) → i = j
  trk : ∀ a, O a → H a ≠ none

section
variable {K : PySem.W.Frag} {O O' : Addr → Prop} {H H' : Hp} {σ : L2.St} {env : Env}
theorem RepV.same {sv : SV} {v : V} (s : Same H H') (h : RepV K O H sv v) : RepV K O H' sv v := by
  cases sv with
  | d x => exact RepD.same s h
  | ol xs =>
    obtain ⟨a, vs, e, ho, h1, h2⟩ := h
    exact ⟨a, vs, e, ho, s _ _ h1, h2.same s⟩
  | od xs =>
    obtain ⟨a, vs, e, ho, h1, h2⟩ := h
    exact ⟨a, vs, e, ho, s _ _ h1, h2.same s⟩
  | ex a dx n => exact ⟨h.1, s _ _ h.2⟩
  | op w => exact h
theorem RepS.same (s : Same H H') (h : RepS K O H σ env) : RepS K O H' σ env :=
  ⟨h.len, fun i sv e => let ⟨v, e1, r⟩ := h.get i sv e; ⟨v, e1, r.same s⟩, h.inj, fun a o z => by
    cases q : H a with
    | none => exact h.trk a o q
    | some u => rw [s a u q] at z; cases z⟩
theorem Same.new' {p : Addr} {o : HO} (h : H p = none) : Same H (upd H p o) := fun a u e => by
  rw [upd_ne (ne_of_none e h)]; exact e
theorem RepS.nfree {p : Addr} (h : RepS K O H σ env) (n : H p = none) : ¬ O p := fun z => h.trk p z n
end

/-! readings -/
/-- the end of an expression -/
def Fin (K : PySem.W.Frag) (mg : Str → Option Value) (W : WX) (O : Addr → Prop) (m : Bool) (σ : L2.St) (H : Hp) (Q : VK) : R D → Prop
  | .ok d => ∀ v H', Same H H' → RepM K O H' m d v → Q v H'
  | .exc c n => ∀ C dx H', mg c = some (.ref C) → Same H H' → H' dx = some (.xd [(("at" : Str), .int n)]) → W (.ref C) (some dx) σ H'
  | .no => False
def tD (K : PySem.W.Frag) (mg : Str → Option Value) (W : WX) (m : Bool) (f : Env → R D) : TE := fun σ H Q => ∃ env O, RepS K O H σ env ∧ Fin K mg W O m σ H Q (f env)
/-- no exception -/
def W0 : WX := fun _ _ _ _ => False
/-- e is read as f; m: the value's topmost list may be the slot's own -/
def DE (X : Cx) (W : WX) (m : Bool) (e : Expr) (f : Env → R D) : Prop := PE X e (tD X.K X.mg W m f)

theorem PE.imp {X : Cx} {e : Expr} {t t' : TE} (h : PE X e t) (i : ∀ σ H Q, t' σ H Q → t σ H Q) : PE X e t' :=
  ⟨fun pins s σ H Q I q => h.run pins s σ H Q I (i σ H Q q)⟩
theorem PT.imp {X : Cx} {e : Expr} {t t' : TT} (h : PT X e t) (i : ∀ σ H Q, t' σ H Q → t σ H Q) : PT X e t' :=
  ⟨fun pins s σ H Q I q => h.run pins s σ H Q I (i σ H Q q)⟩
theorem PA.imp {X : Cx} {e : List Expr} {t t' : TA} (h : PA X e t) (i : ∀ σ H Q, t' σ H Q → t σ H Q) : PA X e t' :=
  ⟨fun pos pins s σ H Q I q => h.run pos pins s σ H Q I (i σ H Q q)⟩
theorem PS.imp {X : Cx} {e : Stmt} {t t' : TS} (h : PS X e t) (i : ∀ D σ H, t' D σ H → t D σ H) : PS X e t' :=
  ⟨fun pins s σ H D I q => h.run pins s σ H D I (i D σ H q)⟩
theorem PSs.imp {X : Cx} {e : List Stmt} {t t' : TS} (h : PSs X e t) (i : ∀ D σ H, t' D σ H → t D σ H) : PSs X e t' :=
  ⟨fun pins s σ H D I q => h.run pins s σ H D I (i D σ H q)⟩

section
variable {X : Cx} {W : WX} {K : PySem.W.Frag} {mg : Str → Option Value} {O : Addr → Prop} {H H' : Hp} {σ : L2.St} {env : Env} {Q : VK} {m : Bool} {f g h : Env → R D}
theorem Fin.same {r : R D} (s : Same H H') (q : Fin K mg W O m σ H Q r) : Fin K mg W O m σ H' Q r := by
  cases r with
  | ok d => exact fun v H2 s2 r => q v H2 (s.trans s2) r
  | exc c n => exact fun C dx H2 e s2 a => q C dx H2 e (s.trans s2) a
  | no => exact q
theorem RepM.ofD {d : D} {v : V} (h : RepD K O H d v) : RepM K O H m d v := by
  unfold RepM
  cases m
  · exact h
  · exact h.top
theorem RepM.dT {d : D} {v : V} (h : RepM K O H true d v) : RepTop K O H d v := h
theorem RepM.dF {d : D} {v : V} (h : RepM K O H false d v) : RepD K O H d v := h
/-- a plain reading serves where the topmost may be one's own -/
theorem DE.up {e : Expr} {f : Env → R D} (h : DE X W false e f) : DE X W m e f := PE.imp h fun σ H Q ⟨env, O, r, q⟩ => by
  refine ⟨env, O, r, ?_⟩
  revert q
  cases f env with
  | ok d => exact fun q v H' s z => q v H' s (RepM.ofD (RepM.dF z))
  | exc c n => exact fun q => q
  | no => exact fun q => q
theorem DE.eq {e : Expr} {f g : Env → R D} (h : DE X W m e f) (i : ∀ env, g env = f env) : DE X W m e g := by
  have : g = f := funext i
  rw [this]; exact h
/-- one operand -/
theorem fin1 {k : D → R D} (r : RepS K O H σ env) (q : Fin K mg W O m σ H Q ((f env).bind k)) {m1 : Bool} {Q1 : VK}
    (hk : ∀ d v H1, f env = .ok d → Same H H1 → RepM K O H1 m1 d v → RepS K O H1 σ env → Fin K mg W O m σ H1 Q (k d) → Q1 v H1) : tD K mg W m1 f σ H Q1 := by
  refine ⟨env, O, r, ?_⟩
  revert q hk
  cases f env with
  | ok d => exact fun q hk v H1 s z => hk d v H1 rfl s z (r.same s) (Fin.same s q)
  | exc c n => exact fun q hk => q
  | no => exact fun q hk => q
theorem Fin.val {d : D} {v : V} (q : Fin K mg W O m σ H Q (.ok d)) (r : RepD K O H d v) : Q v H := q v H (Same.refl H) (RepM.ofD r)
theorem Fin.valN {d : D} {p : Addr} {o : HO} (q : Fin K mg W O m σ H Q (.ok d)) (n : H p = none) (r : RepD K O (upd H p o) d (.ref p)) : Q (.ref p) (upd H p o) := q _ _ (Same.new' n) (RepM.ofD r)
end

/-! names and constants -/
def eVar (i : Nat) : Env → R D := fun s => match s[i]? with
  | some (some (.d x)) => .ok x
  | _ => .no
/-- a slot's own list, read where it does not stay -/
def eOwn (i : Nat) : Env → R D := fun s => match s[i]? with
  | some (some (.d x)) => .ok x
  | some (some (.ol xs)) => .ok (.lst xs)
  | some (some (.od xs)) => .ok (.dct xs)
  | _ => .no
def eC (d : D) : Env → R D := fun _ => .ok d
section
variable {X : Cx} {W : WX} {m : Bool}
theorem de_var {i : Nat} {x : Str} {pos : Pos} (h : PE X (.Name x pos) (tVar i)) : DE X W m (.Name x pos) (eVar i) := PE.imp h fun σ H Q ⟨env, O, r, q⟩ => by
  unfold eVar at q
  split at q
  · rename_i x e
    obtain ⟨v, e1, r1⟩ := r.get i _ e
    exact ⟨v, e1, q.val r1⟩
  · exact q.elim
theorem de_own {i : Nat} {x : Str} {pos : Pos} (h : PE X (.Name x pos) (tVar i)) : DE X W true (.Name x pos) (eOwn i) := PE.imp h fun σ H Q ⟨env, O, r, q⟩ => by
  unfold eOwn at q
  split at q
  · rename_i x e
    obtain ⟨v, e1, r1⟩ := r.get i _ e
    exact ⟨v, e1, q.val r1⟩
  · rename_i x e
    obtain ⟨v, e1, a, vs, ev, _, h1, h2⟩ := r.get i _ e
    exact ⟨v, e1, q v H (Same.refl H) ⟨a, vs, ev, h1, h2⟩⟩
  · rename_i x e
    obtain ⟨v, e1, a, vs, ev, _, h1, h2⟩ := r.get i _ e
    exact ⟨v, e1, q v H (Same.refl H) ⟨a, vs, ev, .inl h1, h2⟩⟩
  · exact q.elim
theorem de_int {i : Int} {j : Nat} {pos : Pos} : DE X W m (.Constant (.int i) j pos) (eC (.int i)) := PE.imp pe_int fun σ H Q ⟨env, O, r, q⟩ => q.val (by simp [RepD])
theorem de_bl {b : Bool} {j : Nat} {pos : Pos} : DE X W m (.Constant (.bool b) j pos) (eC (.bl b)) := PE.imp pe_bl fun σ H Q ⟨env, O, r, q⟩ => q.val (by simp [RepD])
theorem de_non {j : Nat} {pos : Pos} : DE X W m (.Constant .none j pos) (eC .non) := PE.imp pe_non fun σ H Q ⟨env, O, r, q⟩ => q.val (by simp [RepD])
theorem de_str {x : Str} {j : Nat} {pos : Pos} : DE X W m (.Constant (.str x) j pos) (eC (.str x)) := PE.imp pe_str fun σ H Q ⟨env, O, r, q⟩ => q.val (by simp [RepD])
theorem de_glob {x : Str} {i : Int} {pos : Pos} (hm : ∃ u, X.mg x = some (.int i u)) (hg : Gl X x) (hd : (x == ("__debug__" : Str)) = false := by decide) : DE X W m (.Name x pos) (eC (.int i)) :=
  PE.imp (pe_glob (v := .int i) hg hm.choose_spec ⟨_, rfl⟩ hd) fun σ H Q ⟨env, O, r, q⟩ => q.val (by simp [RepD])
end

/-! operators -/
section
variable {K : PySem.W.Frag} {O : Addr → Prop} {H : Hp}
theorem repInt {i : Int} {v : V} {m : Bool} : RepM K O H m (.int i) v ↔ v = .int i := by cases m <;> simp [RepM, RepTop, RepD]
theorem repBl {i : Bool} {v : V} {m : Bool} : RepM K O H m (.bl i) v ↔ v = .bl i := by cases m <;> simp [RepM, RepTop, RepD]
theorem repStr {i : Str} {v : V} {m : Bool} : RepM K O H m (.str i) v ↔ v = .str i := by cases m <;> simp [RepM, RepTop, RepD]
theorem repNon {v : V} {m : Bool} : RepM K O H m .non v ↔ v = .non := by cases m <;> simp [RepM, RepTop, RepD]
theorem repTup {xs : List D} {v : V} {m : Bool} : RepM K O H m (.tup xs) v ↔ ∃ a vs, v = .ref a ∧ SqT K H a vs ∧ RepDs K O H xs vs := by cases m <;> simp [RepM, RepTop, RepD]
theorem repLst {xs : List D} {v : V} {m : Bool} (h : RepM K O H m (.lst xs) v) : ∃ a vs, v = .ref a ∧ H a = some (.lst vs) ∧ RepDs K O H xs vs := by
  cases m
  · have h : RepD K O H (.lst xs) v := h
    simp only [RepD] at h
    obtain ⟨a, vs, e, _, q⟩ := h
    exact ⟨a, vs, e, q⟩
  · exact h
theorem repScr {ns : List Int} {v : V} {m : Bool} : RepM K O H m (.scr ns) v ↔ ∃ a, v = .ref a ∧ ScrO K H a (ns.map V.int) := by cases m <;> simp [RepM, RepTop, RepD]
theorem repDct {xs : List (Key × D)} {v : V} {m : Bool} (h : RepM K O H m (.dct xs) v) : ∃ a vs, v = .ref a ∧ Rd H a (.dK vs) ∧ RepKs K O H xs vs := by
  cases m
  · have h : RepD K O H (.dct xs) v := h
    simp only [RepD] at h
    obtain ⟨a, vs, e, _, q⟩ := h
    exact ⟨a, vs, e, q⟩
  · exact h
/-- a new list, tuple -/
theorem RepD.newL {σ : L2.St} {env : Env} {p : Addr} {xs : List D} {vs : List V} (r : RepS K O H σ env) (n : H p = none) (h : RepDs K O H xs vs) : RepD K O (upd H p (.lst vs)) (.lst xs) (.ref p) := by
  simp only [RepD]
  exact ⟨p, vs, rfl, r.nfree n, upd_same, h.same (Same.new' n)⟩
theorem RepD.newT {p : Addr} {xs : List D} {vs : List V} (n : H p = none) (h : RepDs K O H xs vs) : RepD K O (upd H p (.tup vs)) (.tup xs) (.ref p) := by
  simp only [RepD]
  exact ⟨p, vs, rfl, .inl (.inl upd_same), h.same (Same.new' n)⟩
theorem RepD.newK {σ : L2.St} {env : Env} {p : Addr} {xs : List (Key × D)} {vs : List (Key × V)} (r : RepS K O H σ env) (n : H p = none) (h : RepKs K O H xs vs) : RepD K O (upd H p (.dK vs)) (.dct xs) (.ref p) := by
  simp only [RepD]
  exact ⟨p, vs, rfl, r.nfree n, .inl upd_same, h.same (Same.new' n)⟩
end

/-- a two-place operation on data: what it gives, and that the machine's rule gives it -/
def Op2 (K : PySem.W.Frag) (r : R2) (k : D → D → R D) : Prop := ∀ (mg : Str → Option Value) (O : Addr → Prop) (m : Bool) (σ : L2.St) (env : Env) (H : Hp) (Q : VK) (x y : D) (v w : V),
  RepS K O H σ env → RepM K O H true x v → RepM K O H true y w → Fin K mg W0 O m σ H Q (k x y) → r v w H Q
theorem Fin.w0 {K : PySem.W.Frag} {mg : Str → Option Value} {W : WX} {O : Addr → Prop} {m : Bool} {σ : L2.St} {H : Hp} {Q : VK} {r : R D} (h : ∀ c n, r ≠ .exc c n) (q : Fin K mg W O m σ H Q r) : Fin K mg W0 O m σ H Q r := by
  cases r with
  | ok d => exact q
  | exc c n => exact absurd rfl (h c n)
  | no => exact q
def e2 (k : D → D → R D) (f g : Env → R D) : Env → R D := fun s => (f s).bind fun x => (g s).bind fun y => k x y
def e1 (k : D → R D) (f : Env → R D) : Env → R D := fun s => (f s).bind k
section
variable {X : Cx} {W : WX} {m : Bool} {a b : Expr} {f g : Env → R D} {pos : Pos} {r : R2} {k : D → D → R D}
theorem t2_of (ho : Op2 X.K r k) (nx : ∀ x y c n, k x y ≠ .exc c n) : ∀ σ H Q, tD X.K X.mg W m (e2 k f g) σ H Q → tOp r (tD X.K X.mg W true f) (tD X.K X.mg W true g) σ H Q := fun σ H Q ⟨env, O, rs, q⟩ => by
  refine fin1 rs q fun x v H1 _ s1 rx rs1 q1 => ?_
  refine fin1 rs1 q1 fun y w H2 _ s2 ry rs2 q2 => ?_
  exact ho X.mg O m σ env H2 Q x y v w rs2 (rx.same s2) ry (q2.w0 (nx x y))
theorem de_op {op : Operator} (hr : OpR X (binaryOp op) r) (ho : Op2 X.K r k) (nx : ∀ x y c n, k x y ≠ .exc c n) (ha : DE X W true a f) (hb : DE X W true b g) : DE X W m (.BinOp a op b pos) (e2 k f g) :=
  PE.imp (pe_op hr ha hb) (t2_of ho nx)
theorem de_cmp {op : CmpOp} (hr : OpR X (compareOp op) r) (ho : Op2 X.K r k) (nx : ∀ x y c n, k x y ≠ .exc c n) (hm : behindInMarks op b = false) (ha : DE X W true a f) (hb : DE X W true b g) : DE X W m (.Compare a [op] [b] pos) (e2 k f g) :=
  PE.imp (pe_cmpR hr ha hb hm) (t2_of ho nx)
end
end DV

namespace DV
open PySem L2

theorem lim_le {n : Nat} (h : n ≤ 1000000) : n ≤ sizeLine := by rw [sizeLine_eq]; omega
theorem lim_lt {n : Nat} (h : n < 1000000) : n < sizeLine := by rw [sizeLine_eq]; omega
/-! ### what the operators give -/
def addD : D → D → R D
  | .int i, .int j => .ok (.int (i + j))
  | .str a, .str b => if a.length + b.length ≤ 1000000 then .ok (.str (a ++ b)) else .no
  | .lst xs, .lst ys => if xs.length + ys.length ≤ 1000000 then .ok (.lst (xs ++ ys)) else .no
  | .tup xs, .tup ys => if xs.length + ys.length ≤ 1000000 then .ok (.tup (xs ++ ys)) else .no
  | _, _ => .no
def subD : D → D → R D
  | .int i, .int j => .ok (.int (i - j))
  | _, _ => .no
/-- a factor below 2 ^ 64 in size -/
def mulD : D → D → R D
  | .int i, .int j => if (-18446744073709551616 < i ∧ i < 18446744073709551616) ∨ (-18446744073709551616 < j ∧ j < 18446744073709551616) then .ok (.int (i * j)) else .no
  | .lst xs, .int k => if -9223372036854775808 ≤ k ∧ k < 9223372036854775808 ∧ xs.length * k.toNat ≤ 1000000 then .ok (.lst (List.replicate k.toNat xs).flatten) else .no
  | _, _ => .no
def fdivD : D → D → R D
  | .int i, .int j => if 0 < j ∧ j < 18446744073709551616 then .ok (.int (i / j)) else .no
  | _, _ => .no
def modD : D → D → R D
  | .int i, .int j => if 0 < j then .ok (.int (i % j)) else .no
  | _, _ => .no
def powD : D → D → R D
  | .int i, .int j => if 0 ≤ j ∧ j ≤ 1000000 ∧ -18446744073709551616 < i ∧ i < 18446744073709551616 then .ok (.int (i ^ j.toNat)) else .no
  | _, _ => .no
def negD : D → R D
  | .int i => .ok (.int (-i))
  | _ => .no
def ltD : D → D → R D
  | .int i, .int j => .ok (.bl (decide (i < j)))
  | _, _ => .no
def leD : D → D → R D
  | .int i, .int j => .ok (.bl (decide (i ≤ j)))
  | _, _ => .no
def gtD : D → D → R D
  | .int i, .int j => .ok (.bl (decide (j < i)))
  | _, _ => .no
def geD : D → D → R D
  | .int i, .int j => .ok (.bl (decide (j ≤ i)))
  | _, _ => .no
def isNonD : D → Bool
  | .non => true
  | _ => false
def isND : D → R D := fun x => .ok (.bl (isNonD x))
def notND : D → R D := fun x => .ok (.bl (!isNonD x))

section
variable {K : PySem.W.Frag} {mg : Str → Option Value} {W : WX} {O : Addr → Prop} {H : Hp} {σ : L2.St} {env : Env} {Q : VK} {m : Bool}
theorem RepDs.nil_iff {ds : List D} {vs : List V} (h : RepDs K O H ds vs) : ds = [] ↔ vs = [] := by
  have e := h.length
  rw [← List.length_eq_zero_iff, ← List.length_eq_zero_iff, e]
def rAddA (K : PySem.W.Frag) : R2 := fun x y H Q => ((rI0 fun i j => .int (i + j)) x y H Q ∨ (∃ i j, x = .str i ∧ y = .str j ∧ i.length + j.length ≤ sizeLine ∧ Q (.str (i ++ j)) H)) ∨ (rCat x y H Q ∨ rCatA K x y H Q)
theorem op_addA {X : Cx} : OpR X (binaryOp .Add) (rAddA X.K) := (op_add.or op_add_str).or (op_cat.or op_catA)
theorem o2_add : Op2 K (rAddA K) addD := fun mg O m σ env H Q x y v w r hx hy q => by
  unfold addD at q
  split at q
  · rw [repInt] at hx hy; subst hx; subst hy
    exact .inl (.inl ⟨_, _, rfl, rfl, q.val (by simp [RepD])⟩)
  · rw [repStr] at hx hy; subst hx; subst hy
    split at q
    · rename_i h; exact .inl (.inr ⟨_, _, rfl, rfl, lim_le h, q.val (by simp [RepD])⟩)
    · exact q.elim
  · obtain ⟨a, vs, e, h1, h2⟩ := repLst hx
    obtain ⟨b, us, e', g1, g2⟩ := repLst hy
    split at q
    · rename_i h
      refine .inr (.inl ⟨a, b, vs, us, e, e', h1, g1, ?_, fun p n => ?_⟩)
      · rw [← h2.length, ← g2.length]; exact lim_le h
      · exact q.valN n (.newL r n (h2.append g2))
    · exact q.elim
  · rw [repTup] at hx hy
    obtain ⟨a, vs, e, h1, h2⟩ := hx
    obtain ⟨b, us, e', g1, g2⟩ := hy
    split at q
    · rename_i h
      refine .inr (.inr ⟨a, b, vs, us, e, e', h1, g1, ?_, fun z => ?_, fun z z' => ?_, fun z z' p n => ?_⟩)
      · rw [← h2.length, ← g2.length]; exact lim_le h
      · have := h2.nil_iff.mpr z
        subst this
        refine q.val ?_
        simp only [List.nil_append, RepD]
        exact ⟨b, us, rfl, g1, g2⟩
      · have := g2.nil_iff.mpr z'
        subst this
        refine q.val ?_
        simp only [List.append_nil, RepD]
        exact ⟨a, vs, rfl, h1, h2⟩
      · exact q.valN n (.newT n (h2.append g2))
    · exact q.elim
  · exact q.elim
theorem o2_int {k : D → D → R D} {g : Int → Int → D} {gv : Int → Int → V} (hk : ∀ x y, (∃ i j, x = .int i ∧ y = .int j ∧ k x y = .ok (g i j)) ∨ k x y = .no) (hg : ∀ K O H i j, RepD K O H (g i j) (gv i j)) : Op2 K (rI0 gv) k := fun mg O m σ env H Q x y v w r hx hy q => by
  rcases hk x y with ⟨i, j, rfl, rfl, e⟩ | e
  · rw [repInt] at hx hy; subst hx; subst hy
    rw [e] at q
    exact ⟨_, _, rfl, rfl, q.val (hg _ _ _ _ _)⟩
  · rw [e] at q; exact q.elim
theorem o2_sub : Op2 K (rI0 fun i j => .int (i - j)) subD := o2_int (g := fun i j => .int (i - j)) (fun x y => by unfold subD; split <;> simp) fun _ _ _ _ _ => by simp [RepD]
theorem o2_lt : Op2 K (rI0 fun i j => .bl (decide (i < j))) ltD := o2_int (g := fun i j => .bl (decide (i < j))) (fun x y => by unfold ltD; split <;> simp) fun _ _ _ _ _ => by simp [RepD]
theorem o2_le : Op2 K (rI0 fun i j => .bl (decide (i ≤ j))) leD := o2_int (g := fun i j => .bl (decide (i ≤ j))) (fun x y => by unfold leD; split <;> simp) fun _ _ _ _ _ => by simp [RepD]
theorem o2_gt : Op2 K (rI0 fun i j => .bl (decide (j < i))) gtD := o2_int (g := fun i j => .bl (decide (j < i))) (fun x y => by unfold gtD; split <;> simp) fun _ _ _ _ _ => by simp [RepD]
theorem o2_ge : Op2 K (rI0 fun i j => .bl (decide (j ≤ i))) geD := o2_int (g := fun i j => .bl (decide (j ≤ i))) (fun x y => by unfold geD; split <;> simp) fun _ _ _ _ _ => by simp [RepD]
def rMulA : R2 := fun x y H Q => (rI CMul fun i j => .int (i * j)) x y H Q ∨ rRep x y H Q
theorem op_mulA {X : Cx} : OpR X (binaryOp .Mult) rMulA := op_mul.or op_rep
theorem RepDs.rep {ds : List D} {vs : List V} (h : RepDs K O H ds vs) : ∀ n : Nat, RepDs K O H (List.replicate n ds).flatten (List.replicate n vs).flatten
  | 0 => by simp [RepDs]
  | n + 1 => by
    rw [List.replicate_succ, List.replicate_succ, List.flatten_cons, List.flatten_cons]
    exact h.append (RepDs.rep h n)
theorem o2_mul : Op2 K rMulA mulD := fun mg O m σ env H Q x y v w r hx hy q => by
  unfold mulD at q
  split at q
  · rw [repInt] at hx hy; subst hx; subst hy
    split at q
    · rename_i h
      refine .inl ⟨_, _, rfl, rfl, ?_, q.val (by simp [RepD])⟩
      unfold CMul
      rw [show ((2 : Int) ^ 64) = 18446744073709551616 by decide]
      exact h
    · exact q.elim
  · obtain ⟨a, vs, e, h1, h2⟩ := repLst hx
    rw [repInt] at hy; subst hy
    split at q
    · rename_i h
      refine .inr ⟨a, _, vs, e, rfl, h1, ?_, ?_, ?_, fun p n => ?_⟩
      · rw [show ((2 : Int) ^ 63) = 9223372036854775808 by decide]; exact h.1
      · rw [show ((2 : Int) ^ 63) = 9223372036854775808 by decide]; exact h.2.1
      · rw [← h2.length]; exact lim_le h.2.2
      · exact q.valN n (.newL r n (h2.rep _))
    · exact q.elim
  · exact q.elim
theorem o2_fdiv : Op2 K (rI CDivW fun i j => .int (i / j)) fdivD := fun mg O m σ env H Q x y v w r hx hy q => by
  unfold fdivD at q
  split at q
  · rw [repInt] at hx hy; subst hx; subst hy
    split at q
    · rename_i h
      exact ⟨_, _, rfl, rfl, wide_div (b := 64) h.1 (by rw [show (2 : Nat) ^ 64 = 18446744073709551616 by decide]; omega) (by decide) (by decide), q.val (by simp [RepD])⟩
    · exact q.elim
  · exact q.elim
theorem o2_mod : Op2 K (rI (fun _ j => 0 < j) fun i j => .int (i % j)) modD := fun mg O m σ env H Q x y v w r hx hy q => by
  unfold modD at q
  split at q
  · rw [repInt] at hx hy; subst hx; subst hy
    split at q
    · rename_i h
      exact ⟨_, _, rfl, rfl, h, q.val (by simp [RepD])⟩
    · exact q.elim
  · exact q.elim
theorem o2_pow : Op2 K (rI CPow fun i j => .int (i ^ j.toNat)) powD := fun mg O m σ env H Q x y v w r hx hy q => by
  unfold powD at q
  split at q
  · rw [repInt] at hx hy; subst hx; subst hy
    split at q
    · rename_i h
      refine ⟨_, _, rfl, rfl, ⟨h.1, h.2.1, ?_⟩, q.val (by simp [RepD])⟩
      rw [show (2 : Nat) ^ 64 = 18446744073709551616 by decide]; omega
    · exact q.elim
  · exact q.elim
end
theorem addD_nx : ∀ x y c n, addD x y ≠ .exc c n := fun x y c n => by unfold addD; split <;> (try split) <;> simp
theorem subD_nx : ∀ x y c n, subD x y ≠ .exc c n := fun x y c n => by unfold subD; split <;> simp
theorem mulD_nx : ∀ x y c n, mulD x y ≠ .exc c n := fun x y c n => by unfold mulD; split <;> (try split) <;> simp
theorem fdivD_nx : ∀ x y c n, fdivD x y ≠ .exc c n := fun x y c n => by unfold fdivD; split <;> (try split) <;> simp
theorem modD_nx : ∀ x y c n, modD x y ≠ .exc c n := fun x y c n => by unfold modD; split <;> (try split) <;> simp
theorem powD_nx : ∀ x y c n, powD x y ≠ .exc c n := fun x y c n => by unfold powD; split <;> (try split) <;> simp
theorem ltD_nx : ∀ x y c n, ltD x y ≠ .exc c n := fun x y c n => by unfold ltD; split <;> simp
theorem leD_nx : ∀ x y c n, leD x y ≠ .exc c n := fun x y c n => by unfold leD; split <;> simp
theorem gtD_nx : ∀ x y c n, gtD x y ≠ .exc c n := fun x y c n => by unfold gtD; split <;> simp
theorem geD_nx : ∀ x y c n, geD x y ≠ .exc c n := fun x y c n => by unfold geD; split <;> simp
section
variable {X : Cx} {W : WX} {m : Bool} {a b c : Expr} {f g h : Env → R D} {pos : Pos}
theorem de_add (ha : DE X W true a f) (hb : DE X W true b g) : DE X W m (.BinOp a .Add b pos) (e2 addD f g) := de_op op_addA o2_add addD_nx ha hb
theorem de_sub (ha : DE X W true a f) (hb : DE X W true b g) : DE X W m (.BinOp a .Sub b pos) (e2 subD f g) := de_op op_sub o2_sub subD_nx ha hb
theorem de_mul (ha : DE X W true a f) (hb : DE X W true b g) : DE X W m (.BinOp a .Mult b pos) (e2 mulD f g) := de_op op_mulA o2_mul mulD_nx ha hb
theorem de_fdiv (ha : DE X W true a f) (hb : DE X W true b g) : DE X W m (.BinOp a .FloorDiv b pos) (e2 fdivD f g) := de_op op_fdivW o2_fdiv fdivD_nx ha hb
theorem de_mod (ha : DE X W true a f) (hb : DE X W true b g) : DE X W m (.BinOp a .Mod b pos) (e2 modD f g) := de_op op_mod o2_mod modD_nx ha hb
theorem de_pow (ha : DE X W true a f) (hb : DE X W true b g) : DE X W m (.BinOp a .Pow b pos) (e2 powD f g) := de_op op_pow o2_pow powD_nx ha hb
theorem de_lt (ha : DE X W true a f) (hb : DE X W true b g) : DE X W m (.Compare a [.Lt] [b] pos) (e2 ltD f g) := de_cmp op_lt o2_lt ltD_nx (nomark _) ha hb
theorem de_le (ha : DE X W true a f) (hb : DE X W true b g) : DE X W m (.Compare a [.LtE] [b] pos) (e2 leD f g) := de_cmp op_le o2_le leD_nx (nomark _) ha hb
theorem de_gt (ha : DE X W true a f) (hb : DE X W true b g) : DE X W m (.Compare a [.Gt] [b] pos) (e2 gtD f g) := de_cmp op_gt o2_gt gtD_nx (nomark _) ha hb
theorem de_ge (ha : DE X W true a f) (hb : DE X W true b g) : DE X W m (.Compare a [.GtE] [b] pos) (e2 geD f g) := de_cmp op_ge o2_ge geD_nx (nomark _) ha hb
theorem de_neg (ha : DE X W true a f) : DE X W m (.UnaryOp .USub a pos) (e1 negD f) := PE.imp (pe_un un_neg ha) fun σ H Q ⟨env, O, rs, q⟩ => by
  refine fin1 rs q fun x v H1 _ s1 rx rs1 q1 => ?_
  unfold negD at q1
  split at q1
  · rw [repInt] at rx; subst rx
    exact ⟨_, rfl, q1.val (by simp [RepD])⟩
  · exact q1.elim
theorem RepM.non {K : PySem.W.Frag} {O : Addr → Prop} {H : Hp} {d : D} {v : V} {m : Bool} (h : RepM K O H m d v) : decide (v = .non) = isNonD d := by
  cases d with
  | non => rw [repNon] at h; subst h; rfl
  | bl _ => rw [repBl] at h; subst h; rfl
  | int _ => rw [repInt] at h; subst h; rfl
  | str _ => rw [repStr] at h; subst h; rfl
  | lst _ => obtain ⟨a, _, e, _⟩ := repLst h; subst e; rfl
  | tup _ => rw [repTup] at h; obtain ⟨a, _, e, _⟩ := h; subst e; rfl
  | dct _ => obtain ⟨a, _, e, _⟩ := repDct h; subst e; rfl
  | scr _ => rw [repScr] at h; obtain ⟨a, e, _⟩ := h; subst e; rfl
theorem de_isN {j : Nat} {p : Pos} (ha : DE X W true a f) : DE X W m (.Compare a [.Is] [.Constant .none j p] pos) (e1 isND f) := PE.imp (pe_cmp (pc_isN ha) rfl) fun σ H Q ⟨env, O, rs, q⟩ => by
  refine fin1 rs q fun x v H1 _ s1 rx rs1 q1 => ?_
  rw [rx.non]
  exact q1.val (by simp [RepD])
theorem de_notN {j : Nat} {p : Pos} (ha : DE X W true a f) : DE X W m (.Compare a [.IsNot] [.Constant .none j p] pos) (e1 notND f) := PE.imp (pe_cmp (pc_notN ha) rfl) fun σ H Q ⟨env, O, rs, q⟩ => by
  refine fin1 rs q fun x v H1 _ s1 rx rs1 q1 => ?_
  rw [rx.non]
  exact q1.val (by simp [RepD])
/-- a chain of two comparisons -/
def e3c (k k' : D → D → R D) (f g h : Env → R D) : Env → R D := fun s => (f s).bind fun x => (g s).bind fun y => (k x y).bind fun z => match z with
  | .bl true => (h s).bind fun w => k' y w
  | .bl false => .ok (.bl false)
  | _ => .no
theorem chain_of {r r' : R2} {k k' : D → D → R D} (k1 : Op2 X.K r k) (k2 : Op2 X.K r' k') (n1 : ∀ x y c n, k x y ≠ .exc c n) (n2 : ∀ x y c n, k' x y ≠ .exc c n) : ∀ σ H Q, tD X.K X.mg W m (e3c k k' f g h) σ H Q → tChain r r' (tD X.K X.mg W true f) (tD X.K X.mg W true g) (tD X.K X.mg W true h) σ H Q := fun σ H Q ⟨env, O, rs, q⟩ => by
  refine fin1 rs q fun x v H1 _ s1 rx rs1 q1 => ?_
  refine fin1 rs1 q1 fun y w H2 _ s2 ry rs2 q2 => ?_
  have go : ∀ Q', Fin X.K X.mg W0 O true σ H2 Q' (k x y) → r v w H2 Q' := fun Q' z => k1 X.mg O true σ env H2 Q' x y v w rs2 (rx.same s2) ry z
  cases e : k x y with
  | exc c n => exact absurd e (n1 x y c n)
  | no => rw [e] at q2; exact q2.elim
  | ok z =>
    rw [e] at q2
    refine go _ ?_
    rw [e]
    intro zv H3 s3 rz
    have q3 := Fin.same s3 q2
    rw [R.bind_ok] at q3
    cases z with
    | bl t =>
      rw [repBl] at rz
      refine ⟨t, rz, ?_⟩
      cases t with
      | true =>
        rw [if_pos rfl]
        refine fin1 (rs2.same s3) q3 fun w' u H4 _ s4 rw' rs4 q4 => ?_
        exact k2 X.mg O m σ env H4 Q y w' w u rs4 (ry.same (s3.trans s4)) rw' (q4.w0 (n2 y w'))
      | false =>
        rw [if_neg Bool.false_ne_true]
        exact q3.val (by simp [RepD])
    | _ => exact q3.elim
theorem de_chain {op op' : CmpOp} {r r' : R2} {k k' : D → D → R D} (ho : OpR X (compareOp op) r) (ho' : OpR X (compareOp op') r') (k1 : Op2 X.K r k) (k2 : Op2 X.K r' k') (n1 : ∀ x y c n, k x y ≠ .exc c n) (n2 : ∀ x y c n, k' x y ≠ .exc c n)
    (ha : DE X W true a f) (hb : DE X W true b g) (hc : DE X W true c h) (hm : lastMarks [op, op'] [b, c] = false := by with_unfolding_all rfl) : DE X W m (.Compare a [op, op'] [b, c] pos) (e3c k k' f g h) := PE.imp (pe_chain ho ho' ha hb hc hm) (chain_of k1 k2 n1 n2)
end

/-! ### tests -/
def FinT (mg : Str → Option Value) (W : WX) (σ : L2.St) (H : Hp) (Q : Bool → Hp → Prop) : R Bool → Prop
  | .ok b => ∀ H', Same H H' → Q b H'
  | .exc c n => ∀ C dx H', mg c = some (.ref C) → Same H H' → H' dx = some (.xd [(("at" : Str), .int n)]) → W (.ref C) (some dx) σ H'
  | .no => False
def tT (K : PySem.W.Frag) (mg : Str → Option Value) (W : WX) (f : Env → R Bool) : TT := fun σ H Q => ∃ env O, RepS K O H σ env ∧ FinT mg W σ H Q (f env)
def DT (X : Cx) (W : WX) (e : Expr) (f : Env → R Bool) : Prop := PT X e (tT X.K X.mg W f)
theorem FinT.same {mg : Str → Option Value} {W : WX} {H H' : Hp} {σ : L2.St} {Q : Bool → Hp → Prop} {r : R Bool} (s : Same H H') (q : FinT mg W σ H Q r) : FinT mg W σ H' Q r := by
  cases r with
  | ok d => exact fun H2 s2 => q H2 (s.trans s2)
  | exc c n => exact fun C dx H2 e s2 a => q C dx H2 e (s.trans s2) a
  | no => exact q
section
variable {X : Cx} {W : WX} {m : Bool} {a b c : Expr} {f g h : Env → R D} {pos : Pos} {t u : Env → R Bool} {K : PySem.W.Frag} {mg : Str → Option Value}
theorem fin1T {O : Addr → Prop} {H : Hp} {σ : L2.St} {env : Env} {Q : Bool → Hp → Prop} {k : D → R Bool} (r : RepS K O H σ env) (q : FinT mg W σ H Q ((f env).bind k)) {m1 : Bool} {Q1 : VK}
    (hk : ∀ d v H1, f env = .ok d → Same H H1 → RepM K O H1 m1 d v → RepS K O H1 σ env → FinT mg W σ H1 Q (k d) → Q1 v H1) : tD K mg W m1 f σ H Q1 := by
  refine ⟨env, O, r, ?_⟩
  revert q hk
  cases f env with
  | ok d => exact fun q hk v H1 s z => hk d v H1 rfl s z (r.same s) (FinT.same s q)
  | exc c n => exact fun q hk => q
  | no => exact fun q hk => q
theorem finTT {O : Addr → Prop} {H : Hp} {σ : L2.St} {env : Env} {Q : Bool → Hp → Prop} {k : Bool → R Bool} (r : RepS K O H σ env) (q : FinT mg W σ H Q ((t env).bind k)) {Q1 : Bool → Hp → Prop}
    (hk : ∀ d H1, t env = .ok d → Same H H1 → RepS K O H1 σ env → FinT mg W σ H1 Q (k d) → Q1 d H1) : tT K mg W t σ H Q1 := by
  refine ⟨env, O, r, ?_⟩
  revert q hk
  cases t env with
  | ok d => exact fun q hk H1 s => hk d H1 rfl s (r.same s) (FinT.same s q)
  | exc c n => exact fun q hk => q
  | no => exact fun q hk => q
theorem finT1 {O : Addr → Prop} {H : Hp} {σ : L2.St} {env : Env} {Q : VK} {k : Bool → R D} (r : RepS K O H σ env) (q : Fin K mg W O m σ H Q ((t env).bind k)) {Q1 : Bool → Hp → Prop}
    (hk : ∀ d H1, t env = .ok d → Same H H1 → RepS K O H1 σ env → Fin K mg W O m σ H1 Q (k d) → Q1 d H1) : tT K mg W t σ H Q1 := by
  refine ⟨env, O, r, ?_⟩
  revert q hk
  cases t env with
  | ok d => exact fun q hk H1 s => hk d H1 rfl s (r.same s) (Fin.same s q)
  | exc c n => exact fun q hk => q
  | no => exact fun q hk => q
def asB : D → R Bool
  | .bl b => .ok b
  | _ => .no
/-- a truth value as a test -/
def tOf (f : Env → R D) : Env → R Bool := fun s => (f s).bind asB
theorem tOf_D (σ : L2.St) (H : Hp) (Q : Bool → Hp → Prop) (z : tT K mg W (tOf f) σ H Q) : tD K mg W true f σ H fun x H' => ∃ k, x = .bl k ∧ Q k H' := by
  obtain ⟨env, O, rs, q⟩ := z
  refine ⟨env, O, rs, ?_⟩
  unfold tOf at q
  revert q
  cases f env with
  | exc c n => exact fun q => q
  | no => exact fun q => q
  | ok d =>
    intro q v H' s r
    cases d with
    | bl b => rw [repBl] at r; exact ⟨b, r, q H' s⟩
    | _ => exact q.elim
theorem dt_chain {op op' : CmpOp} {r r' : R2} {k k' : D → D → R D} (ho : OpR X (compareOp op) r) (ho' : OpR X (compareOp op') r') (k1 : Op2 X.K r k) (k2 : Op2 X.K r' k') (n1 : ∀ x y c n, k x y ≠ .exc c n) (n2 : ∀ x y c n, k' x y ≠ .exc c n)
    (ha : DE X W true a f) (hb : DE X W true b g) (hc : DE X W true c h) (hm : lastMarks [op, op'] [b, c] = false := by with_unfolding_all rfl) : DT X W (.Compare a [op, op'] [b, c] pos) (tOf (e3c k k' f g h)) :=
  PT.imp (pt_chain ho ho' ha hb hc hm) fun σ H Q z => chain_of (m := true) k1 k2 n1 n2 σ H _ (tOf_D σ H Q z)
theorem dt_isN {j : Nat} {p : Pos} (ha : DE X W true a f) : DT X W (.Compare a [.Is] [.Constant .none j p] pos) (tOf (e1 isND f)) := PT.imp (pt_cmp (pc_isN ha) rfl) fun σ H Q z => by
  obtain ⟨env, O, rs, q⟩ := tOf_D σ H Q z
  refine fin1 rs q fun x v H1 _ s1 rx rs1 q1 => ?_
  rw [rx.non]
  exact q1.val (by simp [RepD])
theorem dt_notN {j : Nat} {p : Pos} (ha : DE X W true a f) : DT X W (.Compare a [.IsNot] [.Constant .none j p] pos) (tOf (e1 notND f)) := PT.imp (pt_cmp (pc_notN ha) rfl) fun σ H Q z => by
  obtain ⟨env, O, rs, q⟩ := tOf_D σ H Q z
  refine fin1 rs q fun x v H1 _ s1 rx rs1 q1 => ?_
  rw [rx.non]
  exact q1.val (by simp [RepD])
theorem dt_of (ha : DE X W true a f) (he : ∀ whole, isTrue a X.env whole = (do let v ← whole; standAt a.pos; holding [v] (truthy v)) := by intro _; rfl) : DT X W a (tOf f) := PT.imp (pt_val ha he) fun σ H Q ⟨env, O, rs, q⟩ => by
  refine fin1T rs q fun x v H1 _ s1 rx rs1 q1 => ?_
  unfold asB at q1
  split at q1
  · rw [repBl] at rx; subst rx
    exact ⟨_, rfl, q1 _ (Same.refl _)⟩
  · exact q1.elim
theorem dt_cmp {op : CmpOp} {r : R2} {k : D → D → R D} (hr : OpR X (compareOp op) r) (ho : Op2 X.K r k) (nx : ∀ x y c n, k x y ≠ .exc c n) (hm : behindInMarks op b = false) (ha : DE X W true a f) (hb : DE X W true b g) : DT X W (.Compare a [op] [b] pos) (tOf (e2 k f g)) :=
  PT.imp (pt_cmpR hr ha hb hm) fun σ H Q ⟨env, O, rs, q⟩ => by
    unfold tOf e2 at q
    cases e1 : f env with
    | exc c n => rw [e1] at q; exact ⟨env, O, rs, by rw [e1]; exact q⟩
    | no => rw [e1] at q; exact q.elim
    | ok x =>
      refine ⟨env, O, rs, ?_⟩
      rw [e1] at q ⊢
      intro v H1 s1 rx
      have rs1 := rs.same s1
      have q1 := FinT.same s1 q
      rw [R.bind_ok] at q1
      refine ⟨env, O, rs1, ?_⟩
      cases e2 : g env with
      | exc c n => rw [e2] at q1; exact q1
      | no => rw [e2] at q1; exact q1.elim
      | ok y =>
        rw [e2] at q1
        intro w H2 s2 ry
        have q2 := FinT.same s2 q1
        rw [R.bind_ok] at q2
        refine ho X.mg O true σ env H2 _ x y v w (rs1.same s2) (rx.same s2) ry ?_
        cases e : k x y with
        | exc c n => exact absurd e (nx x y c n)
        | no => rw [e] at q2; exact q2.elim
        | ok z =>
          rw [e] at q2
          intro zv H3 s3 rz
          cases z with
          | bl t =>
            rw [repBl] at rz
            exact ⟨t, rz, q2 H3 s3⟩
          | _ => exact q2.elim
def tNot' (t : Env → R Bool) : Env → R Bool := fun s => (t s).bind fun b => .ok (!b)
theorem dt_not (ha : DT X W a t) : DT X W (.UnaryOp .Not a pos) (tNot' t) := PT.imp (pt_not ha) fun σ H Q ⟨env, O, rs, q⟩ => by
  refine finTT rs q fun x H1 _ s1 rs1 q1 => ?_
  exact q1 _ (Same.refl _)
def tAnd' (t u : Env → R Bool) : Env → R Bool := fun s => (t s).bind fun b => if b = true then u s else .ok false
def tOr' (t u : Env → R Bool) : Env → R Bool := fun s => (t s).bind fun b => if b = true then .ok true else u s
def DW (X : Cx) (W : WX) (e : Expr) (f : Env → R Bool) : Prop := PW X e (tT X.K X.mg W f)
theorem PW.imp {X : Cx} {e : Expr} {t t' : TT} (h : PW X e t) (i : ∀ σ H Q, t' σ H Q → t σ H Q) : PW X e t' :=
  ⟨fun wh pins s σ H Q I q => h.run wh pins s σ H Q I (i σ H Q q)⟩
theorem DW.dt (h : DW X W a t) : DT X W a t := PW.pt h
theorem dw_and1 (ha : DT X W a t) : DW X W (.BoolOp .And [a] pos) t := pw_and1 ha
theorem dw_or1 (ha : DT X W a t) : DW X W (.BoolOp .Or [a] pos) t := pw_or1 ha
theorem dw_and {rest : List Expr} (ha : DT X W a t) (hb : DW X W (.BoolOp .And (b :: rest) pos) u) : DW X W (.BoolOp .And (a :: b :: rest) pos) (tAnd' t u) := PW.imp (pw_and ha hb) fun σ H Q ⟨env, O, rs, q⟩ => by
  refine finTT rs q fun x H1 _ s1 rs1 q1 => ?_
  cases x with
  | true => rw [if_pos rfl] at q1 ⊢; exact ⟨env, O, rs1, q1⟩
  | false => rw [if_neg Bool.false_ne_true] at q1 ⊢; exact q1 _ (Same.refl _)
theorem dw_or {rest : List Expr} (ha : DT X W a t) (hb : DW X W (.BoolOp .Or (b :: rest) pos) u) : DW X W (.BoolOp .Or (a :: b :: rest) pos) (tOr' t u) := PW.imp (pw_or ha hb) fun σ H Q ⟨env, O, rs, q⟩ => by
  refine finTT rs q fun x H1 _ s1 rs1 q1 => ?_
  cases x with
  | true => rw [if_pos rfl] at q1 ⊢; exact q1 _ (Same.refl _)
  | false => rw [if_neg Bool.false_ne_true] at q1 ⊢; exact ⟨env, O, rs1, q1⟩
/-- .. as values, by truth values -/
def eAndV (f g : Env → R D) : Env → R D := fun s => (f s).bind fun x => match x with
  | .bl true => g s
  | .bl false => .ok (.bl false)
  | _ => .no
def eOrV (f g : Env → R D) : Env → R D := fun s => (f s).bind fun x => match x with
  | .bl true => .ok (.bl true)
  | .bl false => g s
  | _ => .no
def notD : D → R D
  | .bl b => .ok (.bl (!b))
  | _ => .no
theorem de_one {op : BoolOp} (ha : DE X W m a f) : DE X W m (.BoolOp op [a] pos) f := pe_one ha
theorem de_and {rest : List Expr} (ha : DE X W true a f) (hb : DE X W m (.BoolOp .And (b :: rest) pos) g) : DE X W m (.BoolOp .And (a :: b :: rest) pos) (eAndV f g) := PE.imp (pe_and ha hb) fun σ H Q ⟨env, O, rs, q⟩ => by
  refine fin1 rs q fun x v H1 _ s1 rx rs1 q1 => ?_
  split at q1
  · rw [repBl] at rx; exact ⟨true, rx, by rw [if_pos rfl]; exact ⟨env, O, rs1, q1⟩⟩
  · rw [repBl] at rx; exact ⟨false, rx, by rw [if_neg Bool.false_ne_true]; exact q1.val (by simp [RepD])⟩
  · exact q1.elim
theorem de_or {rest : List Expr} (ha : DE X W true a f) (hb : DE X W m (.BoolOp .Or (b :: rest) pos) g) : DE X W m (.BoolOp .Or (a :: b :: rest) pos) (eOrV f g) := PE.imp (pe_or ha hb) fun σ H Q ⟨env, O, rs, q⟩ => by
  refine fin1 rs q fun x v H1 _ s1 rx rs1 q1 => ?_
  split at q1
  · rw [repBl] at rx; exact ⟨true, rx, by rw [if_pos rfl]; exact q1.val (by simp [RepD])⟩
  · rw [repBl] at rx; exact ⟨false, rx, by rw [if_neg Bool.false_ne_true]; exact ⟨env, O, rs1, q1⟩⟩
  · exact q1.elim
theorem de_not (ha : DE X W true a f) : DE X W m (.UnaryOp .Not a pos) (e1 notD f) := PE.imp (pe_not ha) fun σ H Q ⟨env, O, rs, q⟩ => by
  refine fin1 rs q fun x v H1 _ s1 rx rs1 q1 => ?_
  unfold notD at q1
  split at q1
  · rw [repBl] at rx; exact ⟨_, rx, q1.val (by simp [RepD])⟩
  · exact q1.elim
def eIf (t : Env → R Bool) (f g : Env → R D) : Env → R D := fun s => (t s).bind fun b => if b = true then f s else g s
theorem de_if (hc : DT X W c t) (ha : DE X W m a f) (hb : DE X W m b g) : DE X W m (.IfExp c a b pos) (eIf t f g) := PE.imp (pe_ifExp hc ha hb) fun σ H Q ⟨env, O, rs, q⟩ => by
  refine finT1 rs q fun x H1 _ s1 rs1 q1 => ?_
  cases x with
  | true => rw [if_pos rfl] at q1 ⊢; exact ⟨env, O, rs1, q1⟩
  | false => rw [if_neg Bool.false_ne_true] at q1 ⊢; exact ⟨env, O, rs1, q1⟩
end
end DV

namespace DV
open PySem L2

/-! ### lists of arguments -/
def RepMs (K : PySem.W.Frag) (O : Addr → Prop) (H : Hp) (m : Bool) : List D → List V → Prop
  | [], vs => vs = []
  | d :: ds, vs => ∃ v r, vs = v :: r ∧ RepM K O H m d v ∧ RepMs K O H m ds r
def FinA (K : PySem.W.Frag) (mg : Str → Option Value) (W : WX) (O : Addr → Prop) (m : Bool) (σ : L2.St) (H : Hp) (Q : List V → Hp → Prop) : R (List D) → Prop
  | .ok ds => ∀ vs H', Same H H' → RepMs K O H' m ds vs → Q vs H'
  | .exc c n => ∀ C dx H', mg c = some (.ref C) → Same H H' → H' dx = some (.xd [(("at" : Str), .int n)]) → W (.ref C) (some dx) σ H'
  | .no => False
def tAr (K : PySem.W.Frag) (mg : Str → Option Value) (W : WX) (m : Bool) (f : Env → R (List D)) : TA := fun σ H Q => ∃ env O, RepS K O H σ env ∧ FinA K mg W O m σ H Q (f env)
def DA (X : Cx) (W : WX) (m : Bool) (es : List Expr) (f : Env → R (List D)) : Prop := PA X es (tAr X.K X.mg W m f)
def aNil : Env → R (List D) := fun _ => .ok []
def aCons (f : Env → R D) (g : Env → R (List D)) : Env → R (List D) := fun s => (f s).bind fun x => (g s).bind fun xs => .ok (x :: xs)
section
variable {K : PySem.W.Frag} {mg : Str → Option Value} {W : WX} {O : Addr → Prop} {H H' : Hp} {σ : L2.St} {env : Env} {m : Bool}
theorem FinA.same {Q : List V → Hp → Prop} {r : R (List D)} (s : Same H H') (q : FinA K mg W O m σ H Q r) : FinA K mg W O m σ H' Q r := by
  cases r with
  | ok d => exact fun v H2 s2 r => q v H2 (s.trans s2) r
  | exc c n => exact fun C dx H2 e s2 a => q C dx H2 e (s.trans s2) a
  | no => exact q
theorem RepMs.same (s : Same H H') : ∀ {ds : List D} {vs : List V}, RepMs K O H m ds vs → RepMs K O H' m ds vs
  | [], _, h => h
  | d :: ds, vs, ⟨v, r, e, h1, h2⟩ => ⟨v, r, e, h1.same s, RepMs.same s h2⟩
theorem RepMs.ds : ∀ {ds : List D} {vs : List V}, RepMs K O H false ds vs → RepDs K O H ds vs
  | [], _, h => by simp only [RepDs]; exact h
  | d :: ds, vs, ⟨v, r, e, h1, h2⟩ => by simp only [RepDs]; exact ⟨v, r, e, h1, RepMs.ds h2⟩
theorem RepMs.of : ∀ {ds : List D} {vs : List V}, RepDs K O H ds vs → RepMs K O H m ds vs
  | [], _, h => by simp only [RepDs] at h; exact h
  | d :: ds, vs, h => by
    simp only [RepDs] at h
    obtain ⟨v, r, e, h1, h2⟩ := h
    exact ⟨v, r, e, .ofD h1, RepMs.of h2⟩
end
section
variable {X : Cx} {W : WX} {m : Bool} {e : Expr} {es : List Expr} {f : Env → R D} {g : Env → R (List D)} {pos : Pos} {K : PySem.W.Frag} {mg : Str → Option Value} {O : Addr → Prop} {H : Hp} {σ : L2.St} {env : Env}
theorem da_nil : DA X W m [] aNil := PA.imp pa_nil fun σ H Q ⟨env, O, rs, q⟩ => q [] H (Same.refl _) rfl
theorem da_cons (he : DE X W m e f) (hr : DA X W m es g) (hs : starEach (e :: es) X.env = (false, eval e X.env) :: starEach es X.env := by rfl) : DA X W m (e :: es) (aCons f g) := PA.imp (pa_cons he hr hs) fun σ H Q ⟨env, O, rs, q⟩ => by
  unfold aCons at q
  refine ⟨env, O, rs, ?_⟩
  revert q
  cases f env with
  | exc c n => exact fun q => q
  | no => exact fun q => q
  | ok d =>
    intro q v H1 s1 r1
    have rs1 := rs.same s1
    have q1 := FinA.same s1 q
    rw [R.bind_ok] at q1
    refine ⟨env, O, rs1, ?_⟩
    revert q1
    cases g env with
    | exc c n => exact fun q => q
    | no => exact fun q => q
    | ok ds => exact fun q1 vs H2 s2 r2 => q1 _ H2 s2 ⟨v, vs, rfl, r1.same s2, r2⟩
/-- from arguments on -/
theorem finA {Q : VK} {k : List D → R D} {m1 : Bool} (r : RepS K O H σ env) (q : Fin K mg W O m σ H Q ((g env).bind k)) {Q1 : List V → Hp → Prop}
    (hk : ∀ ds vs H1, g env = .ok ds → Same H H1 → RepMs K O H1 m1 ds vs → RepS K O H1 σ env → Fin K mg W O m σ H1 Q (k ds) → Q1 vs H1) : tAr K mg W m1 g σ H Q1 := by
  refine ⟨env, O, r, ?_⟩
  revert q hk
  cases g env with
  | ok d => exact fun q hk v H1 s z => hk d v H1 rfl s z (r.same s) (Fin.same s q)
  | exc c n => exact fun q hk => q
  | no => exact fun q hk => q

/-! ### what makes a new list -/
def FinN (K : PySem.W.Frag) (mg : Str → Option Value) (W : WX) (O : Addr → Prop) (σ : L2.St) (H : Hp) (Q : VK) : R (List D) → Prop
  | .ok xs => ∀ p vs H', Same H H' → H p = none → H' p = some (.lst vs) → RepDs K (fun a => O a ∨ a = p) H' xs vs → Q (.ref p) H'
  | .exc c n => ∀ C dx H', mg c = some (.ref C) → Same H H' → H' dx = some (.xd [(("at" : Str), .int n)]) → W (.ref C) (some dx) σ H'
  | .no => False
def tN (K : PySem.W.Frag) (mg : Str → Option Value) (W : WX) (f : Env → R (List D)) : TE := fun σ H Q => ∃ env O, RepS K O H σ env ∧ FinN K mg W O σ H Q (f env)
def DN (X : Cx) (W : WX) (e : Expr) (f : Env → R (List D)) : Prop := PE X e (tN X.K X.mg W f)
def eL (f : Env → R (List D)) : Env → R D := fun s => (f s).bind fun xs => .ok (.lst xs)
theorem Same.back {H H' : Hp} (s : Same H H') {p : Addr} (n : H' p = none) : H p = none := by
  cases e : H p with
  | none => rfl
  | some o => rw [s p o e] at n; cases n
theorem FinN.same {Q : VK} {H' : Hp} {r : R (List D)} (s : Same H H') (q : FinN K mg W O σ H Q r) : FinN K mg W O σ H' Q r := by
  cases r with
  | ok d => exact fun p v H2 s2 n => q p v H2 (s.trans s2) (Same.back s n)
  | exc c n => exact fun C dx H2 e s2 a => q C dx H2 e (s.trans s2) a
  | no => exact q
theorem RepDs.of_new {p : Addr} {xs : List D} {vs : List V} (h : RepDs K (fun a => O a ∨ a = p) H xs vs) : RepDs K O H xs vs := RepDs.keep Keep.refl (fun _ z => .inl z) _ _ h
theorem tN_of {f : Env → R (List D)} (σ : L2.St) (H : Hp) (Q : VK) (h : tD K mg W m (eL f) σ H Q) : tN K mg W f σ H Q := by
  obtain ⟨env, O, rs, q⟩ := h
  refine ⟨env, O, rs, ?_⟩
  unfold eL at q
  revert q
  cases f env with
  | exc c n => exact fun q => q
  | no => exact fun q => q
  | ok xs =>
    intro q p vs H' s n hp r
    refine q _ H' s (.ofD ?_)
    simp only [RepD]
    exact ⟨p, vs, rfl, rs.nfree n, hp, r.of_new⟩
theorem DN.de {f : Env → R (List D)} (h : DN X W e f) : DE X W m e (eL f) := PE.imp h tN_of
theorem FinN.put {Q : VK} {xs : List D} {vs : List V} (q : FinN K mg W O σ H Q (.ok xs)) (r : RepDs K O H xs vs) {p : Addr} (n : H p = none) : Q (.ref p) (upd H p (.lst vs)) :=
  q p vs _ (Same.new' n) n upd_same ((r.avoid n).same (Same.new' n))
def nLst (g : Env → R (List D)) : Env → R (List D) := fun s => (g s).bind fun xs => if xs.length ≤ 1000000 then .ok xs else .no
theorem dn_lst (h : DA X W false es g) : DN X W (.List es pos) (nLst g) := PE.imp (pe_lst h) fun σ H Q ⟨env, O, rs, q⟩ => by
  unfold nLst at q
  refine ⟨env, O, rs, ?_⟩
  revert q
  cases g env with
  | exc c n => exact fun q => q
  | no => exact fun q => q
  | ok ds =>
    intro q vs H1 s1 r1
    have q1 := FinN.same s1 q
    rw [R.bind_ok] at q1
    have r2 := RepMs.ds r1
    split at q1
    · rename_i hz
      exact ⟨by rw [← r2.length]; exact lim_le hz, fun p n => q1.put r2 n⟩
    · exact q1.elim
def eTup (g : Env → R (List D)) : Env → R D := fun s => (g s).bind fun xs => if xs.length ≤ 1000000 then .ok (.tup xs) else .no
theorem de_tup {x1 : Nat} (h : DA X W false es g) : DE X W m (.Tuple es x1 pos) (eTup g) := PE.imp (pe_tup h) fun σ H Q ⟨env, O, rs, q⟩ => by
  refine finA (m1 := false) rs q fun ds vs H1 _ s1 r1 rs1 q1 => ?_
  have r2 := RepMs.ds r1
  split at q1
  · rename_i hz
    exact ⟨by rw [← r2.length]; exact lim_le hz, fun p n => q1.valN n (.newT n r2)⟩
  · exact q1.elim
end

/-! ### built-ins -/
/-- a built-in on data -/
def OpN (K : PySem.W.Frag) (r : List V → Hp → VK → Prop) (k : List D → R D) : Prop := ∀ (mg : Str → Option Value) (O : Addr → Prop) (m : Bool) (σ : L2.St) (env : Env) (H : Hp) (Q : VK) (ds : List D) (vs : List V),
  RepS K O H σ env → RepMs K O H true ds vs → Fin K mg W0 O m σ H Q (k ds) → r vs H Q
def NX {α : Type} (k : α → R D) : Prop := ∀ x c n, k x ≠ .exc c n
def eB (k : List D → R D) (g : Env → R (List D)) : Env → R D := fun s => (g s).bind k
section
variable {X : Cx} {W : WX} {m : Bool} {e : Expr} {es : List Expr} {g : Env → R (List D)} {pos p : Pos} {x : Str} {id T : String} {r : List V → Hp → VK → Prop} {k : List D → R D}
theorem de_callB (hc : CallR X (.builtin id) r) (hk : OpN X.K r k) (nx : NX k) (hg : Gl X x) (hm : X.mg x = none) (hv : bootBuiltins x = some (.builtin id)) (ha : DA X W true (e :: es) g) (hn : x ≠ "__name__" := by decide) (hdb : (x == ("__debug__" : Str)) = false := by decide)
    (he : starEach (e :: es) X.env = (false, eval e X.env) :: starEach es X.env := by rfl) (hpl : (backTo pos (starEach es X.env)).any (·.1) = false := by rfl) : DE X W m (.Call (.Name x p) (e :: es) [] pos) (eB k g) :=
  PE.imp (pe_callB hc hg hm hv ha hn hdb he hpl) fun σ H Q ⟨env, O, rs, q⟩ => finA rs q fun ds vs H1 _ s1 r1 rs1 q1 => hk X.mg O m σ env H1 Q ds vs rs1 r1 (q1.w0 (nx ds))
theorem de_callTy (hc : CallR X (.type T) r) (hk : OpN X.K r k) (nx : NX k) (hg : Gl X x) (hm : X.mg x = none) (hv : bootBuiltins x = some (.type T)) (ha : DA X W true (e :: es) g) (hn : x ≠ "__name__" := by decide) (hdb : (x == ("__debug__" : Str)) = false := by decide)
    (he : starEach (e :: es) X.env = (false, eval e X.env) :: starEach es X.env := by rfl) (hpl : (backTo pos (starEach es X.env)).any (·.1) = false := by rfl) : DE X W m (.Call (.Name x p) (e :: es) [] pos) (eB k g) :=
  PE.imp (pe_callTy hc hg hm hv ha hn hdb he hpl) fun σ H Q ⟨env, O, rs, q⟩ => finA rs q fun ds vs H1 _ s1 r1 rs1 q1 => hk X.mg O m σ env H1 Q ds vs rs1 r1 (q1.w0 (nx ds))
end
def ints? : List D → Option (List Int)
  | [] => some []
  | .int i :: r => (ints? r).map (i :: ·)
  | _ :: _ => none
def bls? : List D → Option (List Bool)
  | [] => some []
  | .bl i :: r => (bls? r).map (i :: ·)
  | _ :: _ => none
theorem ints?_eq : ∀ {ds : List D} {ns : List Int}, ints? ds = some ns → ds = ns.map D.int
  | [], ns, h => by simp only [ints?, Option.some.injEq] at h; subst h; rfl
  | .int i :: r, ns, h => by
    simp only [ints?, Option.map_eq_some_iff] at h
    obtain ⟨l, e, rfl⟩ := h
    rw [ints?_eq e]; rfl
  | .non :: _, _, h | .bl _ :: _, _, h | .str _ :: _, _, h | .lst _ :: _, _, h | .tup _ :: _, _, h | .dct _ :: _, _, h | .scr _ :: _, _, h => by simp [ints?] at h
theorem bls?_eq : ∀ {ds : List D} {ns : List Bool}, bls? ds = some ns → ds = ns.map D.bl
  | [], ns, h => by simp only [bls?, Option.some.injEq] at h; subst h; rfl
  | .bl i :: r, ns, h => by
    simp only [bls?, Option.map_eq_some_iff] at h
    obtain ⟨l, e, rfl⟩ := h
    rw [bls?_eq e]; rfl
  | .non :: _, _, h | .int _ :: _, _, h | .str _ :: _, _, h | .lst _ :: _, _, h | .tup _ :: _, _, h | .dct _ :: _, _, h | .scr _ :: _, _, h => by simp [bls?] at h
@[simp] theorem ints?_map (ns : List Int) : ints? (ns.map D.int) = some ns := by
  induction ns with
  | nil => rfl
  | cons a r ih => simp [ints?, ih]
@[simp] theorem bls?_map (ns : List Bool) : bls? (ns.map D.bl) = some ns := by
  induction ns with
  | nil => rfl
  | cons a r ih => simp [bls?, ih]
section
variable {K : PySem.W.Frag} {O : Addr → Prop} {H : Hp}
theorem repInts : ∀ {ns : List Int} {vs : List V}, RepDs K O H (ns.map D.int) vs → vs = ns.map V.int
  | [], vs, h => by simpa [RepDs] using h
  | n :: ns, vs, h => by
    simp only [List.map_cons, RepDs, RepD] at h
    obtain ⟨v, r, e, h1, h2⟩ := h
    subst e h1
    rw [repInts h2]; rfl
theorem repBls : ∀ {ns : List Bool} {vs : List V}, RepDs K O H (ns.map D.bl) vs → vs = ns.map V.bl
  | [], vs, h => by simpa [RepDs] using h
  | n :: ns, vs, h => by
    simp only [List.map_cons, RepDs, RepD] at h
    obtain ⟨v, r, e, h1, h2⟩ := h
    subst e h1
    rw [repBls h2]; rfl
theorem RepDs.ofInts : ∀ (ns : List Int), RepDs K O H (ns.map D.int) (ns.map V.int)
  | [] => by simp [RepDs]
  | n :: ns => by
    simp only [List.map_cons, RepDs, RepD]
    exact ⟨_, _, rfl, rfl, RepDs.ofInts ns⟩
theorem repMs1 {d : D} {vs : List V} {m : Bool} (h : RepMs K O H m [d] vs) : ∃ v, vs = [v] ∧ RepM K O H m d v := by
  obtain ⟨v, r, e, h1, h2⟩ := h
  have h2 : r = [] := h2
  subst h2
  exact ⟨v, e, h1⟩
theorem repMs2 {d d2 : D} {vs : List V} {m : Bool} (h : RepMs K O H m [d, d2] vs) : ∃ v v2, vs = [v, v2] ∧ RepM K O H m d v ∧ RepM K O H m d2 v2 := by
  obtain ⟨v, r, e, h1, v2, r2, e2, h2, h3⟩ := h
  have h3 : r2 = [] := h3
  subst h3 e2
  exact ⟨v, v2, e, h1, h2⟩
end
/-- len -/
def lenD : List D → R D
  | [.lst xs] => .ok (.int xs.length)
  | [.tup xs] => .ok (.int xs.length)
  | [.scr ns] => .ok (.int ns.length)
  | [.str x] => if x.length ≤ 1000000 then .ok (.int x.length) else .no
  | _ => .no
def sumD : List D → R D
  | [.lst xs] => match ints? xs with
    | some ns => .ok (.int ns.sum)
    | none => .no
  | _ => .no
def allD : List D → R D
  | [.lst xs] => match bls? xs with
    | some ns => .ok (.bl (ns.all id))
    | none => .no
  | _ => .no
def anyD : List D → R D
  | [.lst xs] => match bls? xs with
    | some ns => .ok (.bl (ns.any id))
    | none => .no
  | _ => .no
def absD : List D → R D
  | [.int i] => .ok (.int (if i < 0 then -i else i))
  | _ => .no
def max2D : List D → R D
  | [.int i, .int j] => .ok (.int (if j > i then j else i))
  | _ => .no
def min2D : List D → R D
  | [.int i, .int j] => .ok (.int (if j < i then j else i))
  | _ => .no
def intD : List D → R D
  | [.int i] => .ok (.int i)
  | [.bl k] => .ok (.int (if k then 1 else 0))
  | _ => .no
theorem lenD_nx : NX lenD := fun x c n => by unfold lenD; split <;> (try split) <;> simp
theorem sumD_nx : NX sumD := fun x c n => by unfold sumD; split <;> (try split) <;> simp
theorem allD_nx : NX allD := fun x c n => by unfold allD; split <;> (try split) <;> simp
theorem anyD_nx : NX anyD := fun x c n => by unfold anyD; split <;> (try split) <;> simp
theorem absD_nx : NX absD := fun x c n => by unfold absD; split <;> simp
theorem max2D_nx : NX max2D := fun x c n => by unfold max2D; split <;> simp
theorem min2D_nx : NX min2D := fun x c n => by unfold min2D; split <;> simp
theorem intD_nx : NX intD := fun x c n => by unfold intD; split <;> simp
section
variable {K : PySem.W.Frag}
theorem on_len : OpN K (fun xs H Q => ∃ x n, xs = [x] ∧ LenV K x H n ∧ Q (.int n) H) lenD := fun mg O m σ env H Q ds vs r hx q => by
  unfold lenD at q
  split at q
  · obtain ⟨v, e, h⟩ := repMs1 hx
    obtain ⟨a, us, e2, h1, h2⟩ := repLst h
    subst e2
    exact ⟨_, _, e, .inl ⟨us, .of h1, rfl⟩, by rw [← h2.length]; exact q.val (by simp [RepD])⟩
  · obtain ⟨v, e, h⟩ := repMs1 hx
    rw [repTup] at h
    obtain ⟨a, us, e2, h1, h2⟩ := h
    subst e2
    exact ⟨_, _, e, .inr ⟨us, h1, rfl⟩, by rw [← h2.length]; exact q.val (by simp [RepD])⟩
  · rename_i ns
    obtain ⟨v, e, h⟩ := repMs1 hx
    rw [repScr] at h
    obtain ⟨a, e2, h1⟩ := h
    subst e2
    exact ⟨_, ns.length, e, .inl ⟨_, h1.sq, by simp⟩, q.val (by simp [RepD])⟩
  · obtain ⟨v, e, h⟩ := repMs1 hx
    rw [repStr] at h
    subst h
    split at q
    · rename_i hz
      exact ⟨_, _, e, ⟨lim_le hz, rfl⟩, q.val (by simp [RepD])⟩
    · exact q.elim
  · exact q.elim
theorem on_sum : OpN K (rSum K) sumD := fun mg O m σ env H Q ds vs r hx q => by
  unfold sumD at q
  split at q
  · obtain ⟨v, e, h⟩ := repMs1 hx
    split at q
    · rename_i ns en
      rw [ints?_eq en] at h
      obtain ⟨a, us, e2, h1, h2⟩ := repLst h
      have := repInts h2
      subst this e2
      exact ⟨a, ns, e, .of h1, q.val (by simp [RepD])⟩
    · exact q.elim
  · exact q.elim
theorem on_all : OpN K (rAll K) allD := fun mg O m σ env H Q ds vs r hx q => by
  unfold allD at q
  split at q
  · obtain ⟨v, e, h⟩ := repMs1 hx
    split at q
    · rename_i ns en
      rw [bls?_eq en] at h
      obtain ⟨a, us, e2, h1, h2⟩ := repLst h
      have := repBls h2
      subst this e2
      exact ⟨a, ns, e, .of h1, q.val (by simp [RepD])⟩
    · exact q.elim
  · exact q.elim
theorem on_any : OpN K (rAny K) anyD := fun mg O m σ env H Q ds vs r hx q => by
  unfold anyD at q
  split at q
  · obtain ⟨v, e, h⟩ := repMs1 hx
    split at q
    · rename_i ns en
      rw [bls?_eq en] at h
      obtain ⟨a, us, e2, h1, h2⟩ := repLst h
      have := repBls h2
      subst this e2
      exact ⟨a, ns, e, .of h1, q.val (by simp [RepD])⟩
    · exact q.elim
  · exact q.elim
theorem on_abs : OpN K (fun xs H Q => ∃ i, xs = [.int i] ∧ Q (.int (if i < 0 then -i else i)) H) absD := fun mg O m σ env H Q ds vs r hx q => by
  unfold absD at q
  split at q
  · obtain ⟨v, e, h⟩ := repMs1 hx
    rw [repInt] at h; subst h
    exact ⟨_, e, q.val (by simp [RepD])⟩
  · exact q.elim
theorem on_max2 : OpN K (fun xs H Q => ∃ i j, xs = [.int i, .int j] ∧ Q (.int (if j > i then j else i)) H) max2D := fun mg O m σ env H Q ds vs r hx q => by
  unfold max2D at q
  split at q
  · obtain ⟨v, w, e, h, h'⟩ := repMs2 hx
    rw [repInt] at h h'; subst h; subst h'
    exact ⟨_, _, e, q.val (by simp [RepD])⟩
  · exact q.elim
theorem on_min2 : OpN K (fun xs H Q => ∃ i j, xs = [.int i, .int j] ∧ Q (.int (if j < i then j else i)) H) min2D := fun mg O m σ env H Q ds vs r hx q => by
  unfold min2D at q
  split at q
  · obtain ⟨v, w, e, h, h'⟩ := repMs2 hx
    rw [repInt] at h h'; subst h; subst h'
    exact ⟨_, _, e, q.val (by simp [RepD])⟩
  · exact q.elim
theorem on_int : OpN K (fun xs H Q => (∃ i, xs = [.int i] ∧ Q (.int i) H) ∨ ∃ k, xs = [.bl k] ∧ Q (.int (if k then 1 else 0)) H) intD := fun mg O m σ env H Q ds vs r hx q => by
  unfold intD at q
  split at q
  · obtain ⟨v, e, h⟩ := repMs1 hx
    rw [repInt] at h; subst h
    exact .inl ⟨_, e, q.val (by simp [RepD])⟩
  · obtain ⟨v, e, h⟩ := repMs1 hx
    rw [repBl] at h; subst h
    exact .inr ⟨_, e, q.val (by simp [RepD])⟩
  · exact q.elim
end
section
variable {X : Cx} {W : WX} {m : Bool} {e e' : Expr} {g : Env → R (List D)} {pos p : Pos}
theorem de_len (hm : X.mg "len" = none) (ha : DA X W true [e] g) (hg : Gl X "len" := by rfl) (he : starEach [e] X.env = (false, eval e X.env) :: starEach [] X.env := by rfl) : DE X W m (.Call (.Name "len" p) [e] [] pos) (eB lenD g) :=
  de_callB call_len on_len lenD_nx hg hm (by decide +kernel) ha (by decide) (by decide) he rfl
theorem de_sum (hm : X.mg "sum" = none) (hc : X.calm = true) (ha : DA X W true [e] g) (hg : Gl X "sum" := by rfl) (he : starEach [e] X.env = (false, eval e X.env) :: starEach [] X.env := by rfl) : DE X W m (.Call (.Name "sum" p) [e] [] pos) (eB sumD g) :=
  de_callB (cr_sum hc) on_sum sumD_nx hg hm (by decide +kernel) ha (by decide) (by decide) he rfl
theorem de_all (hm : X.mg "all" = none) (hc : X.calm = true) (ha : DA X W true [e] g) (hg : Gl X "all" := by rfl) (he : starEach [e] X.env = (false, eval e X.env) :: starEach [] X.env := by rfl) : DE X W m (.Call (.Name "all" p) [e] [] pos) (eB allD g) :=
  de_callB (cr_all hc) on_all allD_nx hg hm (by decide +kernel) ha (by decide) (by decide) he rfl
theorem de_any (hm : X.mg "any" = none) (hc : X.calm = true) (ha : DA X W true [e] g) (hg : Gl X "any" := by rfl) (he : starEach [e] X.env = (false, eval e X.env) :: starEach [] X.env := by rfl) : DE X W m (.Call (.Name "any" p) [e] [] pos) (eB anyD g) :=
  de_callB (cr_any hc) on_any anyD_nx hg hm (by decide +kernel) ha (by decide) (by decide) he rfl
theorem de_abs (hm : X.mg "abs" = none) (ha : DA X W true [e] g) (hg : Gl X "abs" := by rfl) (he : starEach [e] X.env = (false, eval e X.env) :: starEach [] X.env := by rfl) : DE X W m (.Call (.Name "abs" p) [e] [] pos) (eB absD g) :=
  de_callB call_abs on_abs absD_nx hg hm (by decide +kernel) ha (by decide) (by decide) he rfl
theorem de_int1 (hm : X.mg "int" = none) (ha : DA X W true [e] g) (hg : Gl X "int" := by rfl) (he : starEach [e] X.env = (false, eval e X.env) :: starEach [] X.env := by rfl) : DE X W m (.Call (.Name "int" p) [e] [] pos) (eB intD g) :=
  de_callTy call_int1 on_int intD_nx hg hm (by decide +kernel) ha (by decide) (by decide) he rfl
theorem de_max2 (hm : X.mg "max" = none) (hc : X.calm = true) (ha : DA X W true [e, e'] g) (hg : Gl X "max" := by rfl) (he : starEach [e, e'] X.env = (false, eval e X.env) :: starEach [e'] X.env := by rfl) (hpl : (backTo pos (starEach [e'] X.env)).any (·.1) = false := by rfl) : DE X W m (.Call (.Name "max" p) [e, e'] [] pos) (eB max2D g) :=
  de_callB (call_max2 hc) on_max2 max2D_nx hg hm (by decide +kernel) ha (by decide) (by decide) he hpl
theorem de_min2 (hm : X.mg "min" = none) (hc : X.calm = true) (ha : DA X W true [e, e'] g) (hg : Gl X "min" := by rfl) (he : starEach [e, e'] X.env = (false, eval e X.env) :: starEach [e'] X.env := by rfl) (hpl : (backTo pos (starEach [e'] X.env)).any (·.1) = false := by rfl) : DE X W m (.Call (.Name "min" p) [e, e'] [] pos) (eB min2D g) :=
  de_callB (call_min2 hc) on_min2 min2D_nx hg hm (by decide +kernel) ha (by decide) (by decide) he hpl
end
end DV

namespace DV
open PySem L2

/-! ### subscripts, slices -/
def ixD : D → D → R D
  | .lst xs, .int i => match atI xs i with
    | some d => .ok d
    | none => .no
  | .tup xs, .int i => match atI xs i with
    | some d => .ok d
    | none => .no
  | .scr ns, .int i => match atI ns i with
    | some d => .ok (.int d)
    | none => .no
  | .str z, .int i => if z.length ≤ 1000000 then (match atI z.cps.toList i with
    | some c => .ok (.str ⟨#[c]⟩)
    | none => .no) else .no
  | _, _ => .no
theorem ixD_nx : ∀ x y c n, ixD x y ≠ .exc c n := fun x y c n => by unfold ixD; split <;> (try split) <;> (try split) <;> simp
theorem RepDs.at {K : PySem.W.Frag} {O : Addr → Prop} {H : Hp} {ds : List D} {vs : List V} {i : Int} {d : D} (h : RepDs K O H ds vs) (e : atI ds i = some d) : ∃ v, atI vs i = some v ∧ RepD K O H d v := by
  unfold atI at e ⊢
  rw [h.length] at e
  cases q : ixN vs.length i with
  | none => rw [q] at e; cases e
  | some j => rw [q] at e; exact h.get e
def rIxA (K : PySem.W.Frag) : R2 := fun x y H Q => rIxL K x y H Q ∨ rIxT K x y H Q ∨ rIxS x y H Q
theorem atI_map {α β : Type} (f : α → β) (xs : List α) (i : Int) : atI (xs.map f) i = (atI xs i).map f := by
  unfold atI
  rw [List.length_map]
  cases ixN xs.length i with
  | none => rfl
  | some j => simp
theorem o2_ix {K : PySem.W.Frag} : Op2 K (rIxA K) ixD := fun mg O m σ env H Q x y v w r hx hy q => by
  unfold ixD at q
  split at q
  · obtain ⟨a, vs, e, h1, h2⟩ := repLst hx
    rw [repInt] at hy; subst hy
    split at q
    · rename_i d ed
      obtain ⟨u, e1, r1⟩ := h2.at ed
      exact .inl ⟨a, vs, _, u, e, rfl, .of h1, e1, q.val r1⟩
    · exact q.elim
  · rw [repTup] at hx
    obtain ⟨a, vs, e, h1, h2⟩ := hx
    rw [repInt] at hy; subst hy
    split at q
    · rename_i d ed
      obtain ⟨u, e1, r1⟩ := h2.at ed
      exact .inr (.inl ⟨a, vs, _, u, e, rfl, h1, e1, q.val r1⟩)
    · exact q.elim
  · rw [repScr] at hx
    obtain ⟨a, e, h1⟩ := hx
    rw [repInt] at hy; subst hy
    split at q
    · rename_i d ed
      exact .inl ⟨a, _, _, .int d, e, rfl, h1.sq, by rw [atI_map, ed]; rfl, q.val (by simp [RepD])⟩
    · exact q.elim
  · rw [repStr] at hx; subst hx
    rw [repInt] at hy; subst hy
    split at q
    · rename_i hz
      split at q
      · rename_i c ec
        exact .inr (.inr ⟨_, _, c, rfl, rfl, lim_le hz, ec, q.val (by simp [RepD])⟩)
      · exact q.elim
    · exact q.elim
  · exact q.elim
section
variable {X : Cx} {W : WX} {m : Bool} {a b : Expr} {f g : Env → R D} {pos : Pos}
theorem de_ix (ha : DE X W true a f) (hb : DE X W true b g) (hs : PlainIx b := by intro _ _; rfl) : DE X W m (.Subscript a b pos) (e2 ixD f g) :=
  PE.imp (pe_ix (ix_list.or (ix_tup.or ix_str)) ha hb hs) (t2_of o2_ix ixD_nx)
end
/-- a slice's bounds -/
def cutG {α : Type} (xs : List α) (lo hi : Option Int) : List α := (xs.drop (HT.sIx xs.length 0 lo)).take (HT.sIx xs.length xs.length hi - HT.sIx xs.length 0 lo)
theorem RepDs.cut {K : PySem.W.Frag} {O : Addr → Prop} {H : Hp} {ds : List D} {vs : List V} (lo hi : Option Int) (h : RepDs K O H ds vs) : RepDs K O H (cutG ds lo hi) (cutV vs lo hi) := by
  unfold cutG cutV
  rw [h.length]
  exact (h.drop _).take _
def asI : D → R Int
  | .int i => .ok i
  | _ => .no
def FinO (mg : Str → Option Value) (W : WX) (σ : L2.St) (H : Hp) (Q : Option Int → Hp → Prop) : R (Option Int) → Prop
  | .ok b => ∀ H', Same H H' → Q b H'
  | .exc c n => ∀ C dx H', mg c = some (.ref C) → Same H H' → H' dx = some (.xd [(("at" : Str), .int n)]) → W (.ref C) (some dx) σ H'
  | .no => False
def tOp' (K : PySem.W.Frag) (mg : Str → Option Value) (W : WX) (f : Env → R (Option Int)) : TO := fun σ H Q => ∃ env O, RepS K O H σ env ∧ FinO mg W σ H Q (f env)
def DO (X : Cx) (W : WX) (e : Option Expr) (f : Env → R (Option Int)) : Prop := PO X e (tOp' X.K X.mg W f)
theorem PO.imp {X : Cx} {e : Option Expr} {t t' : TO} (h : PO X e t) (i : ∀ σ H Q, t' σ H Q → t σ H Q) : PO X e t' :=
  ⟨fun pins s σ H Q I q => h.run pins s σ H Q I (i σ H Q q)⟩
theorem FinO.same {mg : Str → Option Value} {W : WX} {H H' : Hp} {σ : L2.St} {Q : Option Int → Hp → Prop} {r : R (Option Int)} (s : Same H H') (q : FinO mg W σ H Q r) : FinO mg W σ H' Q r := by
  cases r with
  | ok d => exact fun H2 s2 => q H2 (s.trans s2)
  | exc c n => exact fun C dx H2 e s2 a => q C dx H2 e (s.trans s2) a
  | no => exact q
def oNone : Env → R (Option Int) := fun _ => .ok none
def oSome (f : Env → R D) : Env → R (Option Int) := fun s => (f s).bind fun d => (asI d).bind fun i => .ok (some i)
section
variable {X : Cx} {W : WX} {m : Bool} {a b : Expr} {lo hi : Option Expr} {f g : Env → R D} {l u : Env → R (Option Int)} {pos p1 p2 p3 : Pos}
theorem do_none : DO X W none oNone := PO.imp po_none fun σ H Q ⟨env, O, rs, q⟩ => q H (Same.refl _)
theorem do_some (ha : DE X W true a f) : DO X W (some a) (oSome f) := PO.imp (po_some ha) fun σ H Q ⟨env, O, rs, q⟩ => by
  unfold oSome at q
  refine ⟨env, O, rs, ?_⟩
  revert q
  cases f env with
  | exc c n => exact fun q => q
  | no => exact fun q => q
  | ok d =>
    intro q v H1 s1 r1
    have q1 := FinO.same s1 q
    rw [R.bind_ok] at q1
    cases d with
    | int i => rw [repInt] at r1; exact ⟨i, r1, q1 _ (Same.refl _)⟩
    | _ => exact q1.elim
def nCut (f : Env → R D) (l u : Env → R (Option Int)) : Env → R (List D) := fun s => (f s).bind fun x => (l s).bind fun lo => (u s).bind fun hi => match x with
  | .lst xs => .ok (cutG xs lo hi)
  | _ => .no
/-- a list's slice -/
theorem dn_slice (he : DE X W true a f) (hl : DO X W lo l) (hu : DO X W hi u) : DN X W (.Subscript a (.Slice lo hi none p2) pos) (nCut f l u) := PE.imp (pe_slice sl_list he hl hu) fun σ H Q ⟨env, O, rs, q⟩ => by
  unfold nCut at q
  refine ⟨env, O, rs, ?_⟩
  revert q
  cases f env with
  | exc c n => exact fun q => q
  | no => exact fun q => q
  | ok x =>
    intro q v H1 s1 r1
    have rs1 := rs.same s1
    have q1 := FinN.same s1 q
    rw [R.bind_ok] at q1
    refine ⟨env, O, rs1, ?_⟩
    revert q1
    cases l env with
    | exc c n => exact fun q => q
    | no => exact fun q => q
    | ok lv =>
      intro q1 H2 s2
      have rs2 := rs1.same s2
      have q2 := FinN.same s2 q1
      rw [R.bind_ok] at q2
      refine ⟨env, O, rs2, ?_⟩
      revert q2
      cases u env with
      | exc c n => exact fun q => q
      | no => exact fun q => q
      | ok uv =>
        intro q2 H3 s3
        have q3 := FinN.same s3 q2
        rw [R.bind_ok] at q3
        split at q3
        · obtain ⟨p, vs, e, h1, h2⟩ := repLst (r1.same (s2.trans s3))
          exact ⟨p, vs, e, .of h1, fun t n => q3.put (h2.cut lv uv) n⟩
        · exact q3.elim
def nRev (f : Env → R D) : Env → R (List D) := fun s => (f s).bind fun x => match x with
  | .lst xs => .ok xs.reverse
  | _ => .no
theorem dn_rev {k : Nat} (he : DE X W true a f) : DN X W (.Subscript a (.Slice none none (some (.UnaryOp .USub (.Constant (.int 1) k p1) p2)) p3) pos) (nRev f) := PE.imp (pe_revL he) fun σ H Q ⟨env, O, rs, q⟩ => by
  unfold nRev at q
  refine ⟨env, O, rs, ?_⟩
  revert q
  cases f env with
  | exc c n => exact fun q => q
  | no => exact fun q => q
  | ok x =>
    intro q v H1 s1 r1
    have q1 := FinN.same s1 q
    rw [R.bind_ok] at q1
    split at q1
    · obtain ⟨p, vs, e, h1, h2⟩ := repLst r1
      exact ⟨p, vs, e, .of h1, fun t n => q1.put h2.reverse n⟩
    · exact q1.elim
end

/-! ### targets -/
/-- the slots that a target stores to; nothing else changes; no new own list -/
def Kept (ts : List Nat) (σ σ' : L2.St) (env env' : Env) : Prop :=
  σ'.length = σ.length ∧ (∀ j, j ∉ ts → σ'[j]? = σ[j]?) ∧ ∀ (i : Nat) sv, env'[i]? = some (some sv) → sv.own = true → env[i]? = some (some sv) ∧ σ'[i]? = σ[i]?
theorem Kept.refl {ts : List Nat} {σ : L2.St} {env : Env} : Kept ts σ σ env env := ⟨rfl, fun _ _ => rfl, fun _ _ e _ => ⟨e, rfl⟩⟩
theorem Kept.trans {ts us : List Nat} {σ σ1 σ2 : L2.St} {env env1 env2 : Env} (a : Kept ts σ σ1 env env1) (b : Kept us σ1 σ2 env1 env2) : Kept (ts ++ us) σ σ2 env env2 :=
  ⟨b.1.trans a.1, fun j hj => (b.2.1 j fun z => hj (List.mem_append_right _ z)).trans (a.2.1 j fun z => hj (List.mem_append_left _ z)), fun i sv e o =>
    let ⟨e1, h1⟩ := b.2.2 i sv e o
    let ⟨e2, h2⟩ := a.2.2 i sv e1 o
    ⟨e2, h1.trans h2⟩⟩
def tG (K : PySem.W.Frag) (ts : List Nat) (g : D → Env → R Env) : TG := fun v σ H Q => ∃ env O d, RepS K O H σ env ∧ RepD K O H d v ∧ match g d env with
  | .ok env' => ∀ σ', RepS K O H σ' env' → Kept ts σ σ' env env' → Q σ' H
  | _ => False
def DG (X : Cx) (tg : Expr) (ts : List Nat) (g : D → Env → R Env) : Prop := PG X tg (tG X.K ts g)
theorem PG.imp {X : Cx} {e : Expr} {t t' : TG} (h : PG X e t) (i : ∀ v σ H Q, t' v σ H Q → t v σ H Q) : PG X e t' :=
  ⟨fun pins s σ H v u Q I r q => h.run pins s σ H v u Q I r (i v σ H Q q)⟩
theorem PGs.imp {X : Cx} {e : List Expr} {t t' : TGs} (h : PGs X e t) (i : ∀ v σ H Q, t' v σ H Q → t v σ H Q) : PGs X e t' :=
  ⟨fun pins s σ H v u Q I r q => h.run pins s σ H v u Q I r (i v σ H Q q)⟩
def gSet (i : Nat) : D → Env → R Env := fun d s => if i < s.length then .ok (s.set i (some (.d d))) else .no
section
variable {K : PySem.W.Frag} {O : Addr → Prop} {H : Hp} {σ : L2.St} {env : Env}
/-- a slot gets a datum -/
theorem RepS.put {i : Nat} {d : D} {v : V} (r : RepS K O H σ env) (h : RepD K O H d v) (hi : i < env.length) : RepS K O H (σ.set i (some v)) (env.set i (some (.d d))) := by
  have hs : i < σ.length := by rw [r.len]; exact hi
  refine ⟨by simp [r.len], fun j sv e => ?_, fun j k a su sv e1 e2 o1 o2 h1 h2 => ?_, r.trk⟩
  · by_cases hj : i = j
    · subst hj
      rw [List.getElem?_set_self hi] at e
      cases e
      exact ⟨v, List.getElem?_set_self hs, h⟩
    · rw [List.getElem?_set_ne hj] at e
      obtain ⟨w, e1, r1⟩ := r.get j sv e
      exact ⟨w, by rw [List.getElem?_set_ne hj]; exact e1, r1⟩
  · have nj : i ≠ j := fun z => by
      subst z
      rw [List.getElem?_set_self hi] at e1
      cases e1
      cases o1
    have nk : i ≠ k := fun z => by
      subst z
      rw [List.getElem?_set_self hi] at e2
      cases e2
      cases o2
    rw [List.getElem?_set_ne nj] at e1 h1
    rw [List.getElem?_set_ne nk] at e2 h2
    exact r.inj j k a su sv e1 e2 o1 o2 h1 h2
theorem Kept.put {i : Nat} {d : D} {v : V} (hi : i < env.length) : Kept [i] σ (σ.set i (some v)) env (env.set i (some (.d d))) := by
  refine ⟨by simp, fun j hj => List.getElem?_set_ne (fun z => hj (by simp [z])), fun j sv e o => ?_⟩
  have nj : i ≠ j := fun z => by
    subst z
    rw [List.getElem?_set_self hi] at e
    cases e
    cases o
  rw [List.getElem?_set_ne nj] at e ⊢
  exact ⟨e, rfl⟩
end
def tGs (K : PySem.W.Frag) (ts : List Nat) (g : List D → Env → R Env) : TGs := fun vs σ H Q => ∃ env O ds, RepS K O H σ env ∧ RepDs K O H ds vs ∧ match g ds env with
  | .ok env' => ∀ σ', RepS K O H σ' env' → Kept ts σ σ' env env' → Q σ' H
  | _ => False
def DGs (X : Cx) (tg : List Expr) (ts : List Nat) (g : List D → Env → R Env) : Prop := PGs X tg (tGs X.K ts g)
def gsNil : List D → Env → R Env
  | [], s => .ok s
  | _ :: _, _ => .no
def gsCons (g : D → Env → R Env) (h : List D → Env → R Env) : List D → Env → R Env
  | d :: r, s => (g d s).bind fun s' => h r s'
  | [], _ => .no
def gTupD (n : Nat) (g : List D → Env → R Env) : D → Env → R Env
  | .tup xs, s => if xs.length = n then g xs s else .no
  | _, _ => .no
section
variable {X : Cx} {pos : Pos} {x : Str} {e : Expr} {es : List Expr} {ts us : List Nat} {g : D → Env → R Env} {h : List D → Env → R Env}
theorem dg_name {i : Nat} (hp : PG X (.Name x pos) (gName i)) : DG X (.Name x pos) [i] (gSet i) := PG.imp hp fun v σ H Q ⟨env, O, d, rs, rd, q⟩ => by
  unfold gSet at q
  split at q
  · rename_i env' e
    split at e
    · rename_i hi
      cases e
      exact q _ (rs.put rd hi) (Kept.put hi)
    · cases e
  · exact q.elim
theorem dgs_nil : DGs X [] [] gsNil := PGs.imp pgs_nil fun vs σ H Q ⟨env, O, ds, rs, rd, q⟩ => by
  cases ds with
  | nil =>
    simp only [RepDs] at rd
    exact ⟨rd, q σ rs Kept.refl⟩
  | cons d r => exact q.elim
theorem dgs_cons (h1 : DG X e ts g) (h2 : DGs X es us h) (hs : (assignEach (e :: es) X.env).map (·.2) = assign e X.env :: (assignEach es X.env).map (·.2) := by rfl) : DGs X (e :: es) (ts ++ us) (gsCons g h) := PGs.imp (pgs_cons h1 h2 hs) fun vs σ H Q ⟨env, O, ds, rs, rd, q⟩ => by
  cases ds with
  | nil => exact q.elim
  | cons d r =>
    simp only [RepDs] at rd
    obtain ⟨v, vr, e1, r1, r2⟩ := rd
    refine ⟨v, vr, e1, env, O, d, rs, r1, ?_⟩
    simp only [gsCons] at q
    cases e2 : g d env with
    | exc c n => rw [e2] at q; exact q.elim
    | no => rw [e2] at q; exact q.elim
    | ok env1 =>
      intro σ1 rs1 k1
      rw [e2, R.bind_ok] at q
      refine ⟨env1, O, r, rs1, r2, ?_⟩
      revert q
      cases h r env1 with
      | exc c n => exact fun q => q
      | no => exact fun q => q
      | ok env2 => exact fun q σ2 rs2 k2 => q σ2 rs2 (k1.trans k2)
theorem dg_tup {k n : Nat} (hc : X.calm = true) (hg : DGs X es ts h) (hn : (assignEach es X.env).length = n := by rfl) (hst : (assignEach es X.env).findIdx? (·.1) = none := by rfl) : DG X (.Tuple es k pos) ts (gTupD n h) := PG.imp (pg_tup hc hg hn hst) fun v σ H Q ⟨env, O, d, rs, rd, q⟩ => by
  cases d with
  | tup xs =>
    simp only [RepD] at rd
    obtain ⟨a, vs, e, hq, r1⟩ := rd
    simp only [gTupD] at q
    by_cases hl : xs.length = n
    · rw [if_pos hl] at q
      exact ⟨a, vs, e, hq, r1.length.symm.trans hl, env, O, xs, rs, r1, q⟩
    · rw [if_neg hl] at q; exact q.elim
  | _ => exact q.elim
end

/-! ### what is walked -/
def IterD (K : PySem.W.Frag) (m : Bool) (J : It) (G : List (V × D)) (xs : List D) : Prop := ∀ (O : Addr → Prop) (H : Hp), (∀ a, O a → H a ≠ none) → (∀ p ∈ G, RepM K O H m p.2 p.1) → ∀ i : Nat,
  (∀ x, xs[i]? = some x → J.go i H ∧ ∀ v H', J.yld i H v H' → Same H H' ∧ RepD K O H' x v) ∧ (xs.length ≤ i → J.stop i H)
def FinI (K : PySem.W.Frag) (mg : Str → Option Value) (W : WX) (O : Addr → Prop) (m : Bool) (σ : L2.St) (H : Hp) (Q : It → Hp → Prop) : R (List D) → Prop
  | .ok xs => ∀ J G H', Same H H' → (∀ p ∈ G, RepM K O H' m p.2 p.1) → IterD K m J G xs → Q J H'
  | .exc c n => ∀ C dx H', mg c = some (.ref C) → Same H H' → H' dx = some (.xd [(("at" : Str), .int n)]) → W (.ref C) (some dx) σ H'
  | .no => False
def tI (K : PySem.W.Frag) (mg : Str → Option Value) (W : WX) (m : Bool) (f : Env → R (List D)) : TI := fun σ H Q => ∃ env O, RepS K O H σ env ∧ FinI K mg W O m σ H Q (f env)
def DI (X : Cx) (W : WX) (m : Bool) (tg e : Expr) (f : Env → R (List D)) : Prop := PI X tg e (tI X.K X.mg W m f)
theorem PI.imp {X : Cx} {tg e : Expr} {t t' : TI} (h : PI X tg e t) (i : ∀ σ H Q, t' σ H Q → t σ H Q) : PI X tg e t' :=
  ⟨fun pins s σ H Q I q => h.run pins s σ H Q I (i σ H Q q)⟩
theorem FinI.same {K : PySem.W.Frag} {mg : Str → Option Value} {W : WX} {O : Addr → Prop} {m : Bool} {H H' : Hp} {σ : L2.St} {Q : It → Hp → Prop} {r : R (List D)} (s : Same H H') (q : FinI K mg W O m σ H Q r) : FinI K mg W O m σ H' Q r := by
  cases r with
  | ok d => exact fun J G H2 s2 => q J G H2 (s.trans s2)
  | exc c n => exact fun C dx H2 e s2 a => q C dx H2 e (s.trans s2) a
  | no => exact q
def itD : D → R (List D)
  | .lst xs => .ok xs
  | .tup xs => .ok xs
  | _ => .no
def iOf (f : Env → R D) : Env → R (List D) := fun s => (f s).bind itD
def iLst (f : Env → R D) : Env → R (List D) := fun s => (f s).bind fun d => match d with
  | .lst xs => .ok xs
  | _ => .no
def iTupl (f : Env → R D) : Env → R (List D) := fun s => (f s).bind fun d => match d with
  | .tup xs => .ok xs
  | _ => .no
section
variable {K : PySem.W.Frag} {m : Bool}
theorem iter_list {a : Addr} {xs : List D} : IterD K m (Itl K a) [(.ref a, .lst xs)] xs := fun O H tr hG i => by
  obtain ⟨a', vs, e, h1, h2⟩ := repLst (hG _ List.mem_cons_self)
  cases e
  refine ⟨fun x e => ?_, fun hl => ⟨vs, .of h1, by rw [← h2.length]; exact hl⟩⟩
  obtain ⟨v, ev, rv⟩ := h2.get e
  refine ⟨⟨vs, v, .of h1, ev⟩, fun w H' y => ?_⟩
  obtain ⟨e1, y⟩ := y
  subst e1
  have := y vs (.of h1)
  rw [ev] at this
  cases this
  exact ⟨Same.refl _, rv⟩
theorem sqT_fun {H : Hp} {a : Addr} {xs ys : List V} (h : ∀ zs, SqT K H a zs → zs = xs) : True := trivial
end
section
variable {X : Cx} {W : WX} {m : Bool} {tg a b : Expr} {f g : Env → R D} {ga : Env → R (List D)} {pos p : Pos}
theorem di_list (h : DE X W m a f) : DI X W m tg a (iLst f) := PI.imp (pi_list h) fun σ H R ⟨env, O, rs, q⟩ => by
  unfold iLst at q
  refine ⟨env, O, rs, ?_⟩
  revert q
  cases f env with
  | exc c n => exact fun q => q
  | no => exact fun q => q
  | ok x =>
    intro q v H1 s1 r1
    have q1 := FinI.same s1 q
    rw [DV.R.bind_ok] at q1
    split at q1
    · obtain ⟨p, vs, e, h1, h2⟩ := repLst r1
      subst e
      exact ⟨p, rfl, ⟨vs, .of h1⟩, q1 _ _ H1 (Same.refl _) (fun z hz => by rw [List.mem_singleton.mp hz]; exact r1) iter_list⟩
    · exact q1.elim
/-- 0, 1, .. below n -/
def rngD (lo : Int) (n : Nat) : List D := (List.range n).map fun (i : Nat) => D.int (lo + (i : Int))
theorem iter_rng {K : PySem.W.Frag} {m : Bool} {lo : Int} {n : Nat} : IterD K m (Itr lo n) [] (rngD lo n) := fun O H tr hG i => by
  refine ⟨fun x e => ?_, fun hl => (by simpa [rngD] using hl : n ≤ i)⟩
  unfold rngD at e
  rw [List.getElem?_map, Option.map_eq_some_iff] at e
  obtain ⟨j, ej, rfl⟩ := e
  obtain ⟨hj, ej⟩ := List.getElem?_eq_some_iff.mp ej
  simp at hj ej
  subst ej
  refine ⟨hj, fun v H' y => ?_⟩
  obtain ⟨e1, e2⟩ := y
  subst e1 e2
  exact ⟨Same.refl _, by simp [RepD]⟩
def iRange1 (ga : Env → R (List D)) : Env → R (List D) := fun s => (ga s).bind fun ds => match ds with
  | [.int n] => if n < 4611686018427387904 ∧ -4611686018427387904 ≤ n then .ok (rngD 0 n.toNat) else .no
  | _ => .no
def iRange2 (ga : Env → R (List D)) : Env → R (List D) := fun s => (ga s).bind fun ds => match ds with
  | [.int a, .int n] => if a < 4611686018427387904 ∧ -4611686018427387904 ≤ a ∧ n < 4611686018427387904 ∧ -4611686018427387904 ≤ n then .ok (rngD a (n - a).toNat) else .no
  | _ => .no
theorem finAI {K : PySem.W.Frag} {mg : Str → Option Value} {O : Addr → Prop} {H : Hp} {σ : L2.St} {env : Env} {Q : It → Hp → Prop} {k : List D → R (List D)} {m1 : Bool} (r : RepS K O H σ env) (q : FinI K mg W O m σ H Q ((ga env).bind k)) {Q1 : List V → Hp → Prop}
    (hk : ∀ ds vs H1, ga env = .ok ds → Same H H1 → RepMs K O H1 m1 ds vs → RepS K O H1 σ env → FinI K mg W O m σ H1 Q (k ds) → Q1 vs H1) : tAr K mg W m1 ga σ H Q1 := by
  refine ⟨env, O, r, ?_⟩
  revert q hk
  cases ga env with
  | ok d => exact fun q hk v H1 s z => hk d v H1 rfl s z (r.same s) (FinI.same s q)
  | exc c n => exact fun q hk => q
  | no => exact fun q hk => q
theorem di_range1 (hm : X.mg "range" = none) (ha : DA X W true [a] ga) (hg : Gl X "range" := by rfl) (hs : starEach [a] X.env = [(false, eval a X.env)] := by rfl) : DI X W m tg (.Call (.Name "range" p) [a] [] pos) (iRange1 ga) := PI.imp (pi_range1 hg hm ha hs) fun σ H R ⟨env, O, rs, q⟩ => by
  refine finAI rs q fun ds vs H1 _ s1 r1 rs1 q1 => ?_
  split at q1
  · rename_i n _
    obtain ⟨v, e, h⟩ := repMs1 r1
    rw [repInt] at h; subst h
    split at q1
    · rename_i hn
      rw [show (-(2 ^ 62) : Int) = -4611686018427387904 by decide, show ((2 : Int) ^ 62) = 4611686018427387904 by decide]
      exact ⟨n, e, hn.2, hn.1, q1 _ [] H1 (Same.refl _) (fun z hz => by cases hz) iter_rng⟩
    · exact q1.elim
  · exact q1.elim
theorem di_range2 (hm : X.mg "range" = none) (ha : DA X W true [a, b] ga) (hg : Gl X "range" := by rfl) (hs : starEach [a, b] X.env = [(false, eval a X.env), (false, eval b X.env)] := by rfl) (hs2 : starEach [b] X.env = [(false, eval b X.env)] := by rfl) : DI X W m tg (.Call (.Name "range" p) [a, b] [] pos) (iRange2 ga) := PI.imp (pi_range2 hg hm ha hs hs2) fun σ H R ⟨env, O, rs, q⟩ => by
  refine finAI rs q fun ds vs H1 _ s1 r1 rs1 q1 => ?_
  split at q1
  · rename_i a n _
    obtain ⟨v, w, e, h, h'⟩ := repMs2 r1
    rw [repInt] at h h'; subst h; subst h'
    split at q1
    · rename_i hn
      rw [show (-(2 ^ 62) : Int) = -4611686018427387904 by decide, show ((2 : Int) ^ 62) = 4611686018427387904 by decide]
      exact ⟨a, n, e, ⟨hn.2.1, hn.1, hn.2.2.2, hn.2.2.1⟩, q1 _ [] H1 (Same.refl _) (fun z hz => by cases hz) iter_rng⟩
    · exact q1.elim
  · exact q1.elim
/-- (0, x0), (1, x1), .. -/
def enumD (xs : List D) : List D := xs.mapIdx fun i x => D.tup [.int i, x]
theorem iter_enum {K : PySem.W.Frag} {m : Bool} {a : Addr} {xs : List D} : IterD K m (Ite K a) [(.ref a, .lst xs)] (enumD xs) := fun O H tr hG i => by
  obtain ⟨a', vs, e, h1, h2⟩ := repLst (hG _ List.mem_cons_self)
  cases e
  refine ⟨fun x e => ?_, fun hl => ⟨vs, .of h1, by rw [← h2.length]; simpa [enumD] using hl⟩⟩
  unfold enumD at e
  rw [List.getElem?_mapIdx, Option.map_eq_some_iff] at e
  obtain ⟨d, ed, rfl⟩ := e
  obtain ⟨v, ev, rv⟩ := h2.get ed
  refine ⟨⟨vs, v, .of h1, ev⟩, fun w H' y => ?_⟩
  obtain ⟨T, x, e1, nT, eH, y⟩ := y
  have := y vs (.of h1)
  rw [ev] at this
  cases this
  subst e1 eH
  refine ⟨Same.new' nT, ?_⟩
  exact .newT nT (.cons (by simp [RepD]) (.cons rv .nil))
def iEnumD (ga : Env → R (List D)) : Env → R (List D) := fun s => (ga s).bind fun ds => match ds with
  | [.lst xs] => .ok (enumD xs)
  | _ => .no
theorem repMsM {K : PySem.W.Frag} {O : Addr → Prop} {H : Hp} {d : D} {v : V} (h : RepM K O H m d v) : RepM K O H true d v := by
  cases m
  · exact RepD.top h
  · exact h
theorem di_enum {elts : List Expr} {kk : Nat} {tpos : Pos} (hm : X.mg "enumerate" = none) (ha : DA X W m [a] ga) (hg : Gl X "enumerate" := by rfl) (hs : starEach [a] X.env = [(false, eval a X.env)] := by rfl) : DI X W m (.Tuple elts kk tpos) (.Call (.Name "enumerate" p) [a] [] pos) (iEnumD ga) := PI.imp (pi_enum hg hm ha hs) fun σ H R ⟨env, O, rs, q⟩ => by
  refine finAI rs q fun ds vs H1 _ s1 r1 rs1 q1 => ?_
  split at q1
  · obtain ⟨v, e, h⟩ := repMs1 r1
    obtain ⟨p, us, e2, h1, h2⟩ := repLst h
    subst e2
    exact ⟨p, us, e, .of h1, q1 _ _ H1 (Same.refl _) (fun z hz => by rw [List.mem_singleton.mp hz]; exact h) iter_enum⟩
  · exact q1.elim
def zipD (xs ys : List D) : List D := List.zipWith (fun x y => D.tup [x, y]) xs ys
theorem iter_zip {K : PySem.W.Frag} {m : Bool} {a b : Addr} {xs ys : List D} : IterD K m (Itz K a b) [(.ref a, .lst xs), (.ref b, .lst ys)] (zipD xs ys) := fun O H tr hG i => by
  obtain ⟨a', vs, e, h1, h2⟩ := repLst (hG _ List.mem_cons_self)
  cases e
  obtain ⟨b', us, e, g1, g2⟩ := repLst (hG _ (List.mem_cons_of_mem _ List.mem_cons_self))
  cases e
  refine ⟨fun x e => ?_, fun hl => ⟨vs, us, .of h1, .of g1, by rw [← h2.length, ← g2.length]; simp only [zipD, List.length_zipWith] at hl; omega⟩⟩
  unfold zipD at e
  rw [List.getElem?_zipWith] at e
  cases ex : xs[i]? with
  | none => rw [ex] at e; simp at e
  | some x' =>
    cases ey : ys[i]? with
    | none => rw [ex, ey] at e; simp at e
    | some y' =>
      rw [ex, ey] at e
      simp at e
      subst e
      obtain ⟨v, ev, rv⟩ := h2.get ex
      obtain ⟨u, eu, ru⟩ := g2.get ey
      refine ⟨⟨vs, us, v, u, .of h1, .of g1, ev, eu⟩, fun w H' y => ?_⟩
      obtain ⟨T, x2, y2, e1, nT, eH, y, z⟩ := y
      have q1 := y vs (.of h1)
      have q2 := z us (.of g1)
      rw [ev] at q1
      rw [eu] at q2
      cases q1; cases q2
      subst e1 eH
      exact ⟨Same.new' nT, .newT nT (.cons rv (.cons ru .nil))⟩
def iZipD (ga : Env → R (List D)) : Env → R (List D) := fun s => (ga s).bind fun ds => match ds with
  | [.lst xs, .lst ys] => .ok (zipD xs ys)
  | _ => .no
theorem di_zip {elts : List Expr} {kk : Nat} {tpos : Pos} (hm : X.mg "zip" = none) (ha : DA X W m [a, b] ga) (hg : Gl X "zip" := by rfl) (hs : starEach [a, b] X.env = (false, eval a X.env) :: starEach [b] X.env := by rfl) (hs2 : (backTo pos (starEach [b] X.env)).any (·.1) = false := by rfl) :
    DI X W m (.Tuple elts kk tpos) (.Call (.Name "zip" p) [a, b] [] pos) (iZipD ga) := PI.imp (pi_zip hg hm ha hs hs2) fun σ H R ⟨env, O, rs, q⟩ => by
  refine finAI rs q fun ds vs H1 _ s1 r1 rs1 q1 => ?_
  split at q1
  · obtain ⟨v, w, e, h, h'⟩ := repMs2 r1
    obtain ⟨p, us, e2, h1, h2⟩ := repLst h
    obtain ⟨p', us', e2', h1', h2'⟩ := repLst h'
    subst e2 e2'
    exact ⟨p, p', us, us', e, .of h1, .of h1', q1 _ _ H1 (Same.refl _) (fun z hz => by
      rcases List.mem_cons.mp hz with hz | hz
      · subst hz; exact h
      · rw [List.mem_singleton.mp hz]; exact h') iter_zip⟩
  · exact q1.elim
end
end DV

namespace DV
open PySem L2

/-! ### list comprehensions -/
def wipeE (s : Env) : List Nat → Env
  | [] => s
  | v :: vs => (wipeE s vs).set v none
theorem wipeE_length (s : Env) : ∀ vs : List Nat, (wipeE s vs).length = s.length
  | [] => rfl
  | v :: vs => by simp [wipeE, wipeE_length s vs]
theorem wipeE_some {s : Env} {i : Nat} {sv : SV} : ∀ {vs : List Nat}, (wipeE s vs)[i]? = some (some sv) → s[i]? = some (some sv) ∧ i ∉ vs
  | [], h => ⟨h, by simp⟩
  | v :: vs, h => by
    simp only [wipeE] at h
    by_cases hi : v = i
    · subst hi
      by_cases hv : v < (wipeE s vs).length
      · rw [List.getElem?_set_self hv] at h; cases h
      · rw [List.getElem?_eq_none (by simpa using hv)] at h; cases h
    · rw [List.getElem?_set_ne hi] at h
      obtain ⟨h1, h2⟩ := wipeE_some h
      exact ⟨h1, by simp only [List.mem_cons, not_or]; exact ⟨fun e => hi e.symm, h2⟩⟩
theorem wipe_get {σ : L2.St} {i : Nat} : ∀ {vs : List Nat}, i ∉ vs → (wipe σ vs)[i]? = σ[i]?
  | [], _ => rfl
  | v :: vs, h => by
    simp only [List.mem_cons, not_or] at h
    unfold wipe
    rw [List.getElem?_set_ne (Ne.symm h.1)]
    exact wipe_get h.2
theorem wipe_at {σ : L2.St} {i : Nat} : ∀ {vs : List Nat}, i ∈ vs → i < σ.length → (wipe σ vs)[i]? = some none
  | v :: vs, h, hl => by
    unfold wipe
    by_cases hi : v = i
    · subst hi
      rw [List.getElem?_set_self (by rw [wipe_length]; exact hl)]
    · rw [List.getElem?_set_ne hi]
      rcases List.mem_cons.mp h with z | z
      · exact absurd z.symm hi
      · exact wipe_at z hl
section
variable {K : PySem.W.Frag} {O : Addr → Prop} {H : Hp} {σ : L2.St} {env : Env}
theorem RepS.wipe (r : RepS K O H σ env) (vs : List Nat) : RepS K O H (L2.wipe σ vs) (wipeE env vs) := by
  refine ⟨by rw [wipe_length, wipeE_length, r.len], fun i sv e => ?_, fun i j a su sv e1 e2 o1 o2 h1 h2 => ?_, r.trk⟩
  · obtain ⟨e1, e2⟩ := wipeE_some e
    obtain ⟨v, h1, h2⟩ := r.get i sv e1
    exact ⟨v, by rw [wipe_get e2]; exact h1, h2⟩
  · obtain ⟨e1, n1⟩ := wipeE_some e1
    obtain ⟨e2, n2⟩ := wipeE_some e2
    rw [wipe_get n1] at h1
    rw [wipe_get n2] at h2
    exact r.inj i j a su sv e1 e2 o1 o2 h1 h2
/-- fewer slots are told of -/
theorem RepS.forget (r : RepS K O H σ env) (vs : List Nat) : RepS K O H σ (wipeE env vs) := by
  refine ⟨by rw [wipeE_length, r.len], fun i sv e => r.get i sv (wipeE_some e).1, fun i j a su sv e1 e2 o1 o2 h1 h2 => r.inj i j a su sv (wipeE_some e1).1 (wipeE_some e2).1 o1 o2 h1 h2, r.trk⟩
theorem RepV.avoid {p : Addr} {sv : SV} {v : V} (n : H p = none) (h : RepV K O H sv v) : RepV K (fun a => O a ∨ a = p) H sv v := by
  cases sv with
  | d x => exact RepD.avoid n x v h
  | ol xs =>
    obtain ⟨a, vs, e, ho, h1, h2⟩ := h
    exact ⟨a, vs, e, .inl ho, h1, h2.avoid n⟩
  | od xs =>
    obtain ⟨a, vs, e, ho, h1, h2⟩ := h
    exact ⟨a, vs, e, .inl ho, h1, h2.avoid n⟩
  | ex a dx k => exact h
  | op w => exact h
theorem RepTop.avoid {p : Addr} {d : D} {v : V} (n : H p = none) (h : RepTop K O H d v) : RepTop K (fun a => O a ∨ a = p) H d v := by
  cases d <;> simp only [RepTop] at h ⊢ <;> try exact RepD.avoid n _ v h
  · obtain ⟨a, vs, e, h1, h2⟩ := h
    exact ⟨a, vs, e, h1, h2.avoid n⟩
  · obtain ⟨a, vs, e, h1, h2⟩ := h
    exact ⟨a, vs, e, h1, h2.avoid n⟩
theorem RepM.avoid {p : Addr} {m : Bool} {d : D} {v : V} (n : H p = none) (h : RepM K O H m d v) : RepM K (fun a => O a ∨ a = p) H m d v := by
  unfold RepM at h ⊢
  cases m
  · exact RepD.avoid n d v h
  · exact RepTop.avoid n h
/-- a new object that one minds -/
theorem RepS.mind {p : Addr} {o : HO} (r : RepS K O H σ env) (n : H p = none) : RepS K (fun a => O a ∨ a = p) (upd H p o) σ env := by
  refine ⟨r.len, fun i sv e => ?_, r.inj, fun a h => ?_⟩
  · obtain ⟨v, e1, h1⟩ := r.get i sv e
    exact ⟨v, e1, (h1.avoid n).same (Same.new' n)⟩
  · by_cases ha : a = p
    · subst ha; rw [upd_same]; simp
    · rw [upd_ne ha]
      exact r.trk a (h.resolve_right ha)
end
/-- nothing is raised here -/
def nx {α : Type} : R α → R α
  | .ok a => .ok a
  | _ => .no
@[simp] theorem nx_ok {α : Type} (a : α) : nx (.ok a) = .ok a := Eq.trans rfl rfl
@[simp] theorem nx_no {α : Type} : nx (.no : R α) = .no := Eq.trans rfl rfl
def lcGo (g : D → Env → R Env) (t : Env → R Bool) (elt : Env → R D) (s : Env) : List D → R (List D)
  | [] => .ok []
  | x :: xs => (nx (g x s)).bind fun s1 => (nx (t s1)).bind fun b => if b = true then (nx (elt s1)).bind fun y => (lcGo g t elt s xs).bind fun ys => .ok (y :: ys) else lcGo g t elt s xs
def nLc (it : Env → R (List D)) (g : D → Env → R Env) (t : Env → R Bool) (elt : Env → R D) (own : List Nat) : Env → R (List D) := fun s => (it s).bind fun xs => if xs.length ≤ 1000000 then lcGo g t elt (wipeE s own) xs else .no
def tYes' : Env → R Bool := fun _ => .ok true
/-- the tests of a comprehension -/
def DTs (X : Cx) (W : WX) (es : List Expr) (f : Env → R Bool) : Prop := PTs X es (tT X.K X.mg W f)
theorem PTs.imp {X : Cx} {e : List Expr} {t t' : TT} (h : PTs X e t) (i : ∀ σ H Q, t' σ H Q → t σ H Q) : PTs X e t' :=
  ⟨fun pins s σ H Q I q => h.run pins s σ H Q I (i σ H Q q)⟩
theorem dts_nil {X : Cx} {W : WX} : DTs X W [] tYes' := PTs.imp pts_nil fun σ H Q ⟨env, O, rs, q⟩ => q H (Same.refl _)
theorem dts_one {X : Cx} {W : WX} {c : Expr} {f : Env → R Bool} (h : DT X W c f) : DTs X W [c] f := pts_one h
section
variable {K : PySem.W.Frag} {mg : Str → Option Value} {W : WX} {m : Bool} {it : Env → R (List D)} {g : D → Env → R Env} {t : Env → R Bool} {elt : Env → R D} {own ts : List Nat}
theorem kept_wipe {σ σ2 : L2.St} {env env2 : Env} {ts own : List Nat} (k : Kept ts (wipe σ own) σ2 env env2) (h : ∀ j ∈ ts, j ∈ own) : wipe σ2 own = wipe σ own := by
  apply List.ext_getElem?
  intro j
  have hl : σ2.length = σ.length := k.1.trans (wipe_length _ _)
  by_cases hj : j ∈ own
  · by_cases h1 : j < σ.length
    · rw [wipe_at hj h1, wipe_at hj (by rw [hl]; exact h1)]
    · rw [List.getElem?_eq_none (by rw [wipe_length, hl]; omega), List.getElem?_eq_none (by rw [wipe_length]; omega)]
  · rw [wipe_get hj]
    exact k.2.1 j fun z => hj (h j z)
theorem Same.put {H1 H : Hp} {p : Addr} {o : HO} (s : Same H1 H) (n : H1 p = none) : Same H1 (upd H p o) := fun a u e => by
  rw [upd_ne (ne_of_none e n)]; exact s a u e
/-- the reading of a comprehension -/
theorem lc_tN (hto : ∀ j ∈ ts, j ∈ own) (σ : L2.St) (H : Hp) (Q : VK) (h : tN K mg W (nLc it g t elt own) σ H Q) :
    tLc (tI K mg W m it) (tG K ts g) (tT K mg W0 t) (tD K mg W0 false elt) own σ H Q := by
  obtain ⟨env, O, rs, q⟩ := h
  unfold nLc at q
  refine ⟨env, O, rs, ?_⟩
  revert q
  cases it env with
  | exc c n => exact fun q => q
  | no => exact fun q => q
  | ok xs =>
    intro q J G H1 s1 hG hJ D hD
    have rs1 := rs.same s1
    have q1 := FinN.same s1 q
    rw [R.bind_ok] at q1
    by_cases hz : xs.length ≤ 1000000
    · rw [if_pos hz] at q1
      cases er : lcGo g t elt (wipeE env own) xs with
      | exc c n =>
        -- never
        exfalso
        have : ∀ ys : List DV.D, lcGo g t elt (wipeE env own) ys ≠ .exc c n := by
          intro ys
          induction ys with
          | nil => intro e; cases e
          | cons y ys ih =>
            intro e
            simp only [lcGo] at e
            cases e1 : nx (g y (wipeE env own)) with
            | exc c' n' => revert e1; cases g y (wipeE env own) <;> simp [nx]
            | no => rw [e1] at e; cases e
            | ok s' =>
              rw [e1, R.bind_ok] at e
              cases e2 : nx (t s') with
              | exc c' n' => revert e2; cases t s' <;> simp [nx]
              | no => rw [e2] at e; cases e
              | ok b =>
                rw [e2, R.bind_ok] at e
                cases b with
                | false => simp only [Bool.false_eq_true, if_false] at e; exact ih e
                | true =>
                  simp only [if_true] at e
                  cases e3 : nx (elt s') with
                  | exc c' n' => revert e3; cases elt s' <;> simp [nx]
                  | no => rw [e3] at e; cases e
                  | ok z =>
                    rw [e3, R.bind_ok] at e
                    cases e4 : lcGo g t elt (wipeE env own) ys with
                    | exc c' n' => rw [e4] at e; simp only [R.bind_exc, R.exc.injEq] at e; exact ih (by rw [e4, e.1, e.2])
                    | no => rw [e4] at e; cases e
                    | ok zs => rw [e4] at e; cases e
        exact this xs er
      | no => rw [er] at q1; exact q1.elim
      | ok ys =>
        rw [er] at q1
        have rs2 : RepS K (fun a => O a ∨ a = D) (upd H1 D (.lst [])) σ env := rs1.mind hD
        refine ⟨fun i m' H => m' = xs.length - i ∧ i ≤ xs.length ∧ Same H1 H ∧ ∃ acc accv zs, H D = some (.lst accv) ∧ RepDs K (fun a => O a ∨ a = D) H acc accv ∧ acc.length ≤ i ∧ lcGo g t elt (wipeE env own) (xs.drop i) = .ok zs ∧ ys = acc ++ zs,
          ⟨xs.length, by simp, Nat.zero_le _, Same.new' hD, [], [], ys, upd_same, .nil, Nat.le_refl _, by simpa using er, by simp⟩, ?_⟩
        rintro i m' H2 ⟨rfl, hi, s2, acc, accv, zs, hDv, ra, hal, eg, ey⟩
        have tr2 : ∀ a, (O a ∨ a = D) → H2 a ≠ none := fun a ha z => by
          rcases ha with ha | ha
          · cases e : H1 a with
            | none => exact rs1.trk a ha e
            | some o => rw [s2 a o e] at z; cases z
          · subst ha; rw [hDv] at z; cases z
        have hG2 : ∀ p ∈ G, RepM K (fun a => O a ∨ a = D) H2 m p.2 p.1 := fun p hp => ((hG p hp).avoid hD).same s2
        have rsH : RepS K (fun a => O a ∨ a = D) H2 σ env := ⟨rs1.len, fun j sv e => let ⟨v, e1, h1⟩ := rs1.get j sv e; ⟨v, e1, (h1.avoid hD).same s2⟩, rs1.inj, tr2⟩
        by_cases hlt : i < xs.length
        · refine .inr ⟨((hJ _ H2 tr2 hG2 i).1 xs[i] (List.getElem?_eq_getElem hlt)).1, fun H' => ∃ m', m' < xs.length - i ∧ (m' = xs.length - (i + 1) ∧ i + 1 ≤ xs.length ∧ Same H1 H' ∧ ∃ acc accv zs, H' D = some (.lst accv) ∧ RepDs K (fun a => O a ∨ a = D) H' acc accv ∧ acc.length ≤ i + 1 ∧ lcGo g t elt (wipeE env own) (xs.drop (i + 1)) = .ok zs ∧ ys = acc ++ zs), fun _ z => z, fun v H3 y => ?_⟩
          obtain ⟨s3, rv⟩ := ((hJ _ H2 tr2 hG2 i).1 xs[i] (List.getElem?_eq_getElem hlt)).2 v H3 y
          have ed : xs.drop i = xs[i] :: xs.drop (i + 1) := List.drop_eq_getElem_cons hlt
          rw [ed] at eg
          simp only [lcGo] at eg
          refine ⟨wipeE env own, fun a => O a ∨ a = D, xs[i], (rsH.same s3).wipe own, rv, ?_⟩
          cases e1 : g xs[i] (wipeE env own) with
          | exc c n => rw [e1] at eg; cases eg
          | no => rw [e1] at eg; cases eg
          | ok env1 =>
            intro σ2 rs4 kk
            rw [e1, nx_ok, R.bind_ok] at eg
            refine ⟨kept_wipe kk hto, env1, fun a => O a ∨ a = D, rs4, ?_⟩
            cases e2 : t env1 with
            | exc c n => rw [e2] at eg; cases eg
            | no => rw [e2] at eg; cases eg
            | ok b =>
              intro H4 s4
              rw [e2, nx_ok, R.bind_ok] at eg
              have s24 : Same H2 H4 := s3.trans s4
              cases b with
              | false =>
                simp only [Bool.false_eq_true, if_false] at eg ⊢
                exact ⟨_, by omega, rfl, hlt, s2.trans s24, acc, accv, zs, s24 _ _ hDv, ra.same s24, by omega, eg, ey⟩
              | true =>
                simp only [if_true] at eg ⊢
                refine ⟨env1, fun a => O a ∨ a = D, rs4.same s4, ?_⟩
                cases e3 : elt env1 with
                | exc c n => rw [e3] at eg; cases eg
                | no => rw [e3] at eg; cases eg
                | ok y =>
                  intro yv H5 s5 ry
                  rw [e3, nx_ok, R.bind_ok] at eg
                  have s25 : Same H2 H5 := s24.trans s5
                  have ry : RepD K (fun a => O a ∨ a = D) H5 y yv := ry
                  cases e4 : lcGo g t elt (wipeE env own) (xs.drop (i + 1)) with
                  | exc c n => rw [e4] at eg; cases eg
                  | no => rw [e4] at eg; cases eg
                  | ok ws =>
                    rw [e4, R.bind_ok] at eg
                    cases eg
                    have hD5 : H5 D = some (.lst accv) := s25 _ _ hDv
                    have ra5 := ra.same s25
                    refine ⟨accv, hD5, by rw [← ra5.length]; exact lim_lt (by omega), _, by omega, rfl, hlt, DV.Same.put (s2.trans s25) hD, acc ++ [y], accv ++ [yv], ws, upd_same, ?_, by simp; omega, rfl, by rw [ey]; simp⟩
                    exact RepDs.keep (Keep.upd (.inr rfl) (by rw [hD5]; exact True.intro)) (fun _ z => z) _ _ (ra5.append (.cons ry .nil))
        · have ei : i = xs.length := by omega
          subst ei
          rw [List.drop_length] at eg
          cases eg
          rw [List.append_nil] at ey
          subst ey
          exact .inl ⟨(hJ _ H2 tr2 hG2 _).2 (Nat.le_refl _), q1 D accv H2 s2 hD hDv ra⟩
    · rw [if_neg hz] at q1; exact q1.elim
end
section
variable {X : Cx} {W : WX} {m : Bool} {el tg iter : Expr} {ifs : List Expr} {scope : Scope} {own : List (Str × Nat)} {pos : Pos} {it : Env → R (List D)} {g : D → Env → R Env} {t : Env → R Bool} {elt : Env → R D} {ts : List Nat}
/-- [elt for tg in iter if ..] -/
theorem dn_lc (hc : X.calm = true) (hN : X.N.Nodup) (hi : DI X W m tg iter it) (ok : BlkOk X.N X.env.scope scope own)
    (hg : ∀ (s : Shared) (H : Hp) (C : Addr) (cl : List (Str × Addr)) (fp : List Addr), DG (X.blk s H scope (compEnvC scope cl C X.env) fp) tg ts g) (ht : ∀ (s : Shared) (H : Hp) (C : Addr) (cl : List (Str × Addr)) (fp : List Addr), DTs (X.blk s H scope (compEnvC scope cl C X.env) fp) W0 ifs t)
    (he : ∀ (s : Shared) (H : Hp) (C : Addr) (cl : List (Str × Addr)) (fp : List Addr), DE (X.blk s H scope (compEnvC scope cl C X.env) fp) W0 false el elt) (hto : ∀ j ∈ ts, j ∈ own.map (·.2)) (hs : ∀ x, foldedSetIterable iter X.env x = pure x := by intro _; rfl) {os : List Nat} (hos : own.map (·.2) = os := by rfl) :
    DN X W (.ListComp el [⟨tg, iter, ifs, 0⟩] scope pos) (nLc it g t elt os) := hos ▸
  PE.imp (pe_lc (wi := tI X.K X.mg W m it) (g := tG X.K ts g) (tt := tT X.K X.mg W0 t) (te := tD X.K X.mg W0 false elt) hc hN hi ok hg ht he hs) (lc_tN hto)
end
end DV

namespace DV
open PySem L2

/-! ### statements -/
inductive Out where
  | nx (e : Env) | rt (d : D) | ro (xs : List D) | rk (kvs : List (Key × D)) | bk (e : Env) | ct (e : Env) | exc (c : Str) (n : Int) (e : Env) | no
/-- the state between statements: H0, O0 the entry's; G what else stands -/
def SOK (K : PySem.W.Frag) (H0 : Hp) (O0 : Addr → Prop) (G : List (V × D)) (env : Env) (σ : L2.St) (H : Hp) : Prop :=
  ∃ O, RepS K O H σ env ∧ (∀ a, O0 a → O a) ∧ Same H0 H ∧ (∀ p ∈ G, RepD K O H p.2 p.1) ∧ ∀ (i : Nat) sv a, env[i]? = some (some sv) → sv.own = true → σ[i]? = some (some (.ref a)) → H0 a = none
def FinS (K : PySem.W.Frag) (mg : Str → Option Value) (W : WX) (H0 : Hp) (O0 : Addr → Prop) (G : List (V × D)) (Dd : Ends) : Out → Prop
  | .nx e => ∀ σ' H', SOK K H0 O0 G e σ' H' → Dd.nx σ' H'
  | .bk e => ∀ σ' H', SOK K H0 O0 G e σ' H' → Dd.bk σ' H'
  | .ct e => ∀ σ' H', SOK K H0 O0 G e σ' H' → Dd.ct σ' H'
  | .rt d => ∀ v H', Same H0 H' → RepD K O0 H' d v → Dd.rt v H'
  | .ro xs => ∀ p vs H', Same H0 H' → H0 p = none → H' p = some (.lst vs) → RepDs K (fun a => O0 a ∨ a = p) H' xs vs → Dd.rt (.ref p) H'
  | .rk xs => ∀ p vs H', Same H0 H' → H0 p = none → H' p = some (.dK vs) → RepKs K (fun a => O0 a ∨ a = p) H' xs vs → Dd.rt (.ref p) H'
  | .exc c n e => ∀ C dx σ' H', mg c = some (.ref C) → SOK K H0 O0 G e σ' H' → H' dx = some (.xd [(("at" : Str), .int n)]) → W (.ref C) (some dx) σ' H'
  | .no => False
def tS (K : PySem.W.Frag) (mg : Str → Option Value) (W : WX) (H0 : Hp) (O0 : Addr → Prop) (G : List (V × D)) (F : Env → Out) : TS := fun Dd σ H => ∃ env, SOK K H0 O0 G env σ H ∧ FinS K mg W H0 O0 G Dd (F env)
structure Ent where
  H0 : Hp
  O0 : Addr → Prop
  tr : ∀ a, O0 a → H0 a ≠ none
def DS (X : Cx) (W : WX) (B : Ent) (st : Stmt) (F : Env → Out) : Prop := ∀ G, PS X st (tS X.K X.mg W B.H0 B.O0 G F)
def DSs (X : Cx) (W : WX) (B : Ent) (st : List Stmt) (F : Env → Out) : Prop := ∀ G, PSs X st (tS X.K X.mg W B.H0 B.O0 G F)

def Out.seq : Out → (Env → Out) → Out
  | .nx e, g => g e
  | o, _ => o
@[simp] theorem Out.seq_nx (e : Env) (g : Env → Out) : (Out.nx e).seq g = g e := Eq.trans rfl rfl
@[simp] theorem Out.seq_rt (d : D) (g : Env → Out) : (Out.rt d).seq g = .rt d := Eq.trans rfl rfl
@[simp] theorem Out.seq_ro (d : List D) (g : Env → Out) : (Out.ro d).seq g = .ro d := Eq.trans rfl rfl
@[simp] theorem Out.seq_no (g : Env → Out) : (Out.no).seq g = .no := Eq.trans rfl rfl
@[simp] theorem Out.seq_bk (e : Env) (g : Env → Out) : (Out.bk e).seq g = .bk e := Eq.trans rfl rfl
@[simp] theorem Out.seq_ct (e : Env) (g : Env → Out) : (Out.ct e).seq g = .ct e := Eq.trans rfl rfl
@[simp] theorem Out.seq_exc (c : Str) (n : Int) (e : Env) (g : Env → Out) : (Out.exc c n e).seq g = .exc c n e := Eq.trans rfl rfl
def sNext : Env → Out := fun s => .nx s
def sSeq (F G : Env → Out) : Env → Out := fun s => (F s).seq G
section
variable {K : PySem.W.Frag} {H0 : Hp} {O0 : Addr → Prop} {G : List (V × D)} {env : Env} {σ : L2.St} {H H' : Hp} {mg : Str → Option Value} {W : WX} {B : Ent}
theorem SOK.same (s : Same H H') (h : SOK K H0 O0 G env σ H) : SOK K H0 O0 G env σ H' := by
  obtain ⟨O, r, z, s0, g, n⟩ := h
  exact ⟨O, r.same s, z, s0.trans s, fun p hp => (g p hp).same s, n⟩
/-- from an expression's end to a statement's -/
theorem sE {m : Bool} {f : Env → R D} {k : D → Out} {Dd : Ends} (h : SOK K H0 O0 G env σ H) (q : FinS K mg W H0 O0 G Dd (match f env with | .ok d => k d | .exc c n => .exc c n env | .no => .no)) {Q1 : VK}
    (hk : ∀ d v H1 O, f env = .ok d → Same H H1 → RepM K O H1 m d v → RepS K O H1 σ env → (∀ a, O0 a → O a) → Same H0 H1 → (∀ p ∈ G, RepD K O H1 p.2 p.1) → (∀ (i : Nat) sv a, env[i]? = some (some sv) → sv.own = true → σ[i]? = some (some (.ref a)) → H0 a = none) → FinS K mg W H0 O0 G Dd (k d) → Q1 v H1) :
    tD K mg W m f σ H Q1 := by
  obtain ⟨O, r, z, s0, g, n⟩ := h
  refine ⟨env, O, r, ?_⟩
  cases e : f env with
  | ok d =>
    rw [e] at q
    exact fun v H1 s1 rv => hk d v H1 O e s1 rv (r.same s1) z (s0.trans s1) (fun p hp => (g p hp).same s1) n q
  | exc c n' =>
    rw [e] at q
    exact fun C dx H1 e1 s1 a => q C dx σ H1 e1 ⟨O, r.same s1, z, s0.trans s1, fun p hp => (g p hp).same s1, n⟩ a
  | no => rw [e] at q; exact q.elim
end
section
variable {X : Cx} {W : WX} {B : Ent} {st : Stmt} {rest : List Stmt} {F F' : Env → Out} {e : Expr} {f : Env → R D} {pos : Pos}
theorem DS.eq {F F' : Env → Out} (h : DS X W B st F) (i : ∀ s, F' s = F s) : DS X W B st F' := by
  have : F' = F := funext i
  rw [this]; exact h
theorem dss_nil : DSs X W B [] sNext := fun G => PSs.imp pss_nil fun Dd σ H ⟨env, h, q⟩ => q σ H h
theorem fin_seq {K : PySem.W.Frag} {mg : Str → Option Value} {H0 : Hp} {O0 : Addr → Prop} {G : List (V × D)} {Dd : Ends} {o : Out} {F' : Env → Out} (q : FinS K mg W H0 O0 G Dd (o.seq F')) :
    FinS K mg W H0 O0 G { Dd with nx := tS K mg W H0 O0 G F' Dd } o := by
  cases o with
  | nx e => exact fun σ' H' h => ⟨e, h, q⟩
  | _ => exact q
theorem dss_cons (h1 : DS X W B st F) (h2 : DSs X W B rest F') : DSs X W B (st :: rest) (sSeq F F') := fun G => PSs.imp (pss_cons (h1 G) (h2 G)) fun Dd σ H ⟨env, h, q⟩ => ⟨env, h, fin_seq q⟩
theorem dss_one (h1 : DS X W B st F) : DSs X W B [st] F := fun G => pss_one (h1 G)
theorem ds_pass : DS X W B (.Pass pos) sNext := fun G => PS.imp ps_pass fun Dd σ H ⟨env, h, q⟩ => q σ H h
theorem ds_break : DS X W B (.Break pos) (fun s => .bk s) := fun G => PS.imp ps_break fun Dd σ H ⟨env, h, q⟩ => q σ H h
theorem ds_continue : DS X W B (.Continue pos) (fun s => .ct s) := fun G => PS.imp ps_continue fun Dd σ H ⟨env, h, q⟩ => q σ H h
/-- never reached -/
theorem ds_never : DS X W B st (fun _ => .no) := fun G => PS.imp ps_never fun Dd σ H ⟨env, h, q⟩ => q
theorem dss_never {sts : List Stmt} : DSs X W B sts (fun _ => .no) := fun G => PSs.imp pss_never fun Dd σ H ⟨env, h, q⟩ => q
/-- a slot's own list, given away from here on -/
def frz (i : Nat) : Env → Env := fun s => match s[i]? with
  | some (some (.ol xs)) => s.set i (some (.d (.lst xs)))
  | some (some (.od xs)) => s.set i (some (.d (.dct xs)))
  | _ => s
theorem SOK.frz {K : PySem.W.Frag} {H0 : Hp} {O0 : Addr → Prop} {G : List (V × D)} {env : Env} {σ : L2.St} {H : Hp} (tr : ∀ a, O0 a → H0 a ≠ none) (i : Nat) (h : SOK K H0 O0 G env σ H) : SOK K H0 O0 G (DV.frz i env) σ H := by
  have key : ∀ (a : Addr) (d : D) (sv0 : SV), env[i]? = some (some sv0) → sv0.own = true → σ[i]? = some (some (.ref a)) → (∀ O, RepS K O H σ env → RepD K (fun b => O b ∧ b ≠ a) H d (.ref a)) → SOK K H0 O0 G (env.set i (some (.d d))) σ H := by
    intro a d sv0 ei own0 eσ hd
    obtain ⟨O, r, z, s0, g, n⟩ := h
    have hi : i < env.length := (List.getElem?_eq_some_iff.mp ei).1
    have na : H0 a = none := n i _ a ei own0 eσ
    refine ⟨fun b => O b ∧ b ≠ a, ⟨by simp [r.len], fun j sv e => ?_, fun j k b su sv e1 e2 o1 o2 h1 h2 => ?_, fun b hb => r.trk b hb.1⟩, fun b hb => ⟨z b hb, fun e => ?_⟩, s0, fun p hp => RepD.keep Keep.refl (fun _ z => z.1) _ _ (g p hp), fun j sv b e o1 h1 => ?_⟩
    · by_cases hj : i = j
      · subst hj
        rw [List.getElem?_set_self hi] at e
        cases e
        exact ⟨_, eσ, hd O r⟩
      · rw [List.getElem?_set_ne hj] at e
        obtain ⟨v, e1, rv⟩ := r.get j sv e
        refine ⟨v, e1, ?_⟩
        cases sv with
        | d x => exact RepD.keep Keep.refl (fun _ z => z.1) _ _ rv
        | ex a dx k => exact rv
        | op w => exact rv
        | ol xs =>
          obtain ⟨b, vs, eb, ho, h1, h2⟩ := rv
          refine ⟨b, vs, eb, ⟨ho, fun q => ?_⟩, h1, RepDs.keep Keep.refl (fun _ z => z.1) _ _ h2⟩
          subst q
          subst eb
          exact hj (r.inj i j b _ _ ei e own0 rfl eσ e1)
        | od xs =>
          obtain ⟨b, vs, eb, ho, h1, h2⟩ := rv
          refine ⟨b, vs, eb, ⟨ho, fun q => ?_⟩, h1, RepKs.keep Keep.refl (fun _ z => z.1) _ _ h2⟩
          subst q
          subst eb
          exact hj (r.inj i j b _ _ ei e own0 rfl eσ e1)
    · have nj : i ≠ j := fun q => by
        subst q
        rw [List.getElem?_set_self hi] at e1
        cases e1; cases o1
      have nk : i ≠ k := fun q => by
        subst q
        rw [List.getElem?_set_self hi] at e2
        cases e2; cases o2
      rw [List.getElem?_set_ne nj] at e1
      rw [List.getElem?_set_ne nk] at e2
      exact r.inj j k b su sv e1 e2 o1 o2 h1 h2
    · subst e
      exact tr b hb na
    · have nj : i ≠ j := fun q => by
        subst q
        rw [List.getElem?_set_self hi] at e
        cases e; cases o1
      rw [List.getElem?_set_ne nj] at e
      exact n j sv b e o1 h1
  unfold DV.frz
  split
  · rename_i xs ei
    have h' := h
    obtain ⟨O, r, _⟩ := h'
    obtain ⟨v, eσ, a, vs, ev, ho, h1, h2⟩ := r.get i _ ei
    subst ev
    refine key a (.lst xs) _ ei rfl eσ fun O' r' => ?_
    obtain ⟨v', eσ', a', vs', ev', ho', h1', h2'⟩ := r'.get i _ ei
    rw [eσ] at eσ'
    cases eσ'
    cases ev'
    simp only [RepD]
    exact ⟨a, vs', rfl, fun z => z.2 rfl, h1', RepDs.keep Keep.refl (fun _ z => z.1) _ _ h2'⟩
  · rename_i xs ei
    have h' := h
    obtain ⟨O, r, _⟩ := h'
    obtain ⟨v, eσ, a, vs, ev, ho, h1, h2⟩ := r.get i _ ei
    subst ev
    refine key a (.dct xs) _ ei rfl eσ fun O' r' => ?_
    obtain ⟨v', eσ', a', vs', ev', ho', h1', h2'⟩ := r'.get i _ ei
    rw [eσ] at eσ'
    cases eσ'
    cases ev'
    simp only [RepD]
    exact ⟨a, vs', rfl, fun z => z.2 rfl, .inl h1', RepKs.keep Keep.refl (fun _ z => z.1) _ _ h2'⟩
  · exact h
/-- the statement behind a gift -/
theorem ds_frz (i : Nat) (h : DS X W B st F) : DS X W B st (fun s => F (frz i s)) := fun G => PS.imp (h G) fun Dd σ H ⟨env, hs, q⟩ => ⟨frz i env, hs.frz B.tr i, q⟩
theorem ds_wipe (vs : List Nat) (h : DS X W B st F) : DS X W B st (fun s => F (wipeE s vs)) := fun G => PS.imp (h G) fun Dd σ H ⟨env, ⟨O, r, z, s0, g, n⟩, q⟩ =>
  ⟨wipeE env vs, ⟨O, r.forget vs, z, s0, g, fun i sv a e o1 h1 => n i sv a (wipeE_some e).1 o1 h1⟩, q⟩

/-! return, assignment -/
def sRet (f : Env → R D) : Env → Out := fun s => match f s with
  | .ok d => .rt d
  | .exc c n => .exc c n s
  | .no => .no
theorem ds_ret (he : DE X W false e f) : DS X W B (.Return (some e) pos) (sRet f) := fun G => PS.imp (ps_ret he) fun Dd σ H ⟨env, h, q⟩ => by
  refine sE (k := fun d => .rt d) h q fun d v H1 O _ s1 rv rs z s0 g n q1 => ?_
  exact q1 v H1 s0 (RepD.keep Keep.refl z _ _ rv)
theorem ds_retN : DS X W B (.Return none pos) (fun _ => .rt .non) := fun G => PS.imp ps_retN fun Dd σ H ⟨env, ⟨O, r, z, s0, g, n⟩, q⟩ => q _ _ s0 (by simp [RepD])
/-- return of a slot's own list -/
def sRetO (i : Nat) : Env → Out := fun s => match s[i]? with
  | some (some (.ol xs)) => .ro xs
  | some (some (.od xs)) => .rk xs
  | some (some (.d d)) => .rt d
  | _ => .no
theorem ds_retO {i : Nat} {x : Str} {p : Pos} (hv : PE X (.Name x p) (tVar i)) : DS X W B (.Return (some (.Name x p)) pos) (sRetO i) := fun G => PS.imp (ps_ret hv) fun Dd σ H ⟨env, ⟨O, r, z, s0, g, n⟩, q⟩ => by
  unfold sRetO at q
  split at q
  · rename_i xs ei
    obtain ⟨v, eσ, a, vs, ev, ho, h1, h2⟩ := r.get i _ ei
    subst ev
    refine ⟨_, eσ, q a vs H s0 (n i _ a ei rfl eσ) h1 (RepDs.keep Keep.refl (fun b hb => ?_) _ _ h2)⟩
    rcases hb with hb | hb
    · exact z b hb
    · subst hb; exact ho
  · rename_i xs ei
    obtain ⟨v, eσ, a, vs, ev, ho, h1, h2⟩ := r.get i _ ei
    subst ev
    refine ⟨_, eσ, q a vs H s0 (n i _ a ei rfl eσ) h1 (RepKs.keep Keep.refl (fun b hb => ?_) _ _ h2)⟩
    rcases hb with hb | hb
    · exact z b hb
    · subst hb; exact ho
  · rename_i d ei
    obtain ⟨v, eσ, rv⟩ := r.get i _ ei
    exact ⟨v, eσ, q v H s0 (RepD.keep Keep.refl z _ _ rv)⟩
  · exact q.elim
/-- a statement's end from a target's -/
theorem SOK.put {K : PySem.W.Frag} {H0 : Hp} {O0 : Addr → Prop} {G : List (V × D)} {env env' : Env} {σ σ' : L2.St} {H : Hp} {O : Addr → Prop} {ts : List Nat} (rs : RepS K O H σ' env') (k : Kept ts σ σ' env env') (z : ∀ a, O0 a → O a) (s0 : Same H0 H) (g : ∀ p ∈ G, RepD K O H p.2 p.1)
    (n : ∀ (i : Nat) sv a, env[i]? = some (some sv) → sv.own = true → σ[i]? = some (some (.ref a)) → H0 a = none) : SOK K H0 O0 G env' σ' H :=
  ⟨O, rs, z, s0, g, fun i sv a e o1 h1 => by
    obtain ⟨e1, e2⟩ := k.2.2 i sv e o1
    exact n i sv a e1 o1 (by rw [← e2]; exact h1)⟩
def sSet (i : Nat) (f : Env → R D) : Env → Out := fun s => match f s with
  | .ok d => if i < s.length then .nx (s.set i (some (.d d))) else .no
  | .exc c n => .exc c n s
  | .no => .no
theorem t_set {K : PySem.W.Frag} {mg : Str → Option Value} {H0 : Hp} {O0 : Addr → Prop} {G : List (V × D)} {i : Nat} {f : Env → R D} (Dd : Ends) (σ : L2.St) (H : Hp) (h : tS K mg W H0 O0 G (sSet i f) Dd σ H) : tAsg (tD K mg W false f) (gName i) Dd σ H := by
  obtain ⟨env, h, q⟩ := h
  refine sE (k := fun d => if i < env.length then .nx (env.set i (some (.d d))) else .no) h q fun d v H1 O _ s1 rv rs z s0 g n q1 => ?_
  split at q1
  · rename_i hi
    exact q1 _ _ (SOK.put (rs.put rv hi) (Kept.put (d := d) (v := v) hi) z s0 g n)
  · exact q1.elim
theorem ds_set {i : Nat} {x : Str} {p : Pos} (hp : ∀ t, PE X e t → PS X (.Assign [.Name x p] e pos) (tAsg t (gName i))) (he : DE X W false e f) : DS X W B (.Assign [.Name x p] e pos) (sSet i f) := fun G => PS.imp (hp _ he) t_set
/-- name = a new list, its own -/
def sNew (i : Nat) (f : Env → R (List D)) : Env → Out := fun s => match f s with
  | .ok xs => if i < s.length then .nx (s.set i (some (.ol xs))) else .no
  | .exc c n => .exc c n s
  | .no => .no
theorem RepS.own {K : PySem.W.Frag} {O : Addr → Prop} {H : Hp} {σ : L2.St} {env : Env} {i : Nat} {p : Addr} {xs : List D} {vs : List V} {H' : Hp} (r : RepS K O H σ env) (s : Same H H') (n : H p = none) (hp : H' p = some (.lst vs)) (h : RepDs K (fun a => O a ∨ a = p) H' xs vs) (hi : i < env.length) :
    RepS K (fun a => O a ∨ a = p) H' (σ.set i (some (.ref p))) (env.set i (some (.ol xs))) := by
  have hs : i < σ.length := by rw [r.len]; exact hi
  have fresh : ∀ (j : Nat) sv, env[j]? = some (some sv) → sv.own = true → σ[j]? ≠ some (some (.ref p)) := fun j sv e o1 z => by
    obtain ⟨v, e1, rv⟩ := r.get j sv e
    rw [z] at e1; cases e1
    cases sv with
    | d x => cases o1
    | ex a dx k => cases o1
    | op w => cases o1
    | ol ys =>
      obtain ⟨b, us, eb, ho, h1, h2⟩ := rv
      cases eb
      rw [n] at h1; cases h1
    | od ys =>
      obtain ⟨b, us, eb, ho, h1, h2⟩ := rv
      cases eb
      rw [n] at h1; cases h1
  refine ⟨by simp [r.len], fun j sv e => ?_, fun j k a su sv e1 e2 o1 o2 h1 h2 => ?_, fun a ha => ?_⟩
  · by_cases hj : i = j
    · subst hj
      rw [List.getElem?_set_self hi] at e
      cases e
      exact ⟨_, List.getElem?_set_self hs, p, vs, rfl, .inr rfl, hp, h⟩
    · rw [List.getElem?_set_ne hj] at e
      obtain ⟨w, e1, r1⟩ := r.get j sv e
      exact ⟨w, by rw [List.getElem?_set_ne hj]; exact e1, (r1.avoid n).same s⟩
  · by_cases hj : i = j
    · by_cases hk : i = k
      · exact hj.symm.trans hk
      · exfalso
        subst hj
        rw [List.getElem?_set_self hs] at h1
        cases h1
        rw [List.getElem?_set_ne hk] at e2 h2
        exact fresh k sv e2 o2 h2
    · by_cases hk : i = k
      · exfalso
        subst hk
        rw [List.getElem?_set_self hs] at h2
        cases h2
        rw [List.getElem?_set_ne hj] at e1 h1
        exact fresh j su e1 o1 h1
      · rw [List.getElem?_set_ne hj] at e1 h1
        rw [List.getElem?_set_ne hk] at e2 h2
        exact r.inj j k a su sv e1 e2 o1 o2 h1 h2
  · rcases ha with ha | ha
    · cases e : H a with
      | none => exact absurd e (r.trk a ha)
      | some o => rw [s a o e]; simp
    · subst ha; rw [hp]; simp
theorem t_new {K : PySem.W.Frag} {mg : Str → Option Value} {H0 : Hp} {O0 : Addr → Prop} {G : List (V × D)} {i : Nat} {f : Env → R (List D)} (Dd : Ends) (σ : L2.St) (H : Hp) (h : tS K mg W H0 O0 G (sNew i f) Dd σ H) : tAsg (tN K mg W f) (gName i) Dd σ H := by
  obtain ⟨env, ⟨O, r, z, s0, g, n⟩, q⟩ := h
  refine ⟨env, O, r, ?_⟩
  unfold sNew at q
  cases e : f env with
  | exc c n' =>
    rw [e] at q
    exact fun C dx H1 e1 s1 a => q C dx σ H1 e1 ⟨O, r.same s1, z, s0.trans s1, fun p hp => (g p hp).same s1, n⟩ a
  | no => rw [e] at q; exact q.elim
  | ok xs =>
    rw [e] at q
    intro p vs H1 s1 np hp rd
    dsimp only at q
    split at q
    · rename_i hi
      have hs : i < σ.length := by rw [r.len]; exact hi
      refine q _ _ ⟨fun a => O a ∨ a = p, r.own s1 np hp rd hi, fun a ha => .inl (z a ha), s0.trans s1, fun t ht => ((RepD.avoid np _ _ (g t ht))).same s1, fun j sv a e o1 h1 => ?_⟩
      by_cases hj : i = j
      · subst hj
        rw [List.getElem?_set_self hs] at h1
        cases h1
        exact Same.back s0 np
      · rw [List.getElem?_set_ne hj] at e h1
        exact n j sv a e o1 h1
    · exact q.elim
theorem ds_new {i : Nat} {x : Str} {p : Pos} {f : Env → R (List D)} (hp : ∀ t, PE X e t → PS X (.Assign [.Name x p] e pos) (tAsg t (gName i))) (he : DN X W e f) : DS X W B (.Assign [.Name x p] e pos) (sNew i f) := fun G => PS.imp (hp _ he) t_new
/-- targets = value -/
def sAsg (g : D → Env → R Env) (f : Env → R D) : Env → Out := fun s => match f s with
  | .ok d => (match g d s with
    | .ok s' => .nx s'
    | _ => .no)
  | .exc c n => .exc c n s
  | .no => .no
theorem ds_asg {tg : Expr} {ts : List Nat} {g : D → Env → R Env} (hp : ∀ t u, PE X e t → PG X tg u → PS X (.Assign [tg] e pos) (tAsg t u)) (he : DE X W false e f) (hg : DG X tg ts g) : DS X W B (.Assign [tg] e pos) (sAsg g f) := fun G => PS.imp (hp _ _ he hg) fun Dd σ H ⟨env, h, q⟩ => by
  refine sE (k := fun d => match g d env with | .ok s' => .nx s' | _ => .no) h q fun d v H1 O _ s1 rv rs z s0 gg n q1 => ?_
  refine ⟨env, O, d, rs, rv, ?_⟩
  revert q1
  cases g d env with
  | exc c n => exact fun q => q.elim
  | no => exact fun q => q.elim
  | ok env' => exact fun q1 σ' rs' k => q1 _ _ (SOK.put rs' k z s0 gg n)
def sDrop (f : Env → R D) : Env → Out := fun s => match f s with
  | .ok _ => .nx s
  | .exc c n => .exc c n s
  | .no => .no
theorem ds_expr (hp : ∀ t, PE X e t → PS X (.Expr e pos) (tDrop t)) (he : DE X W false e f) : DS X W B (.Expr e pos) (sDrop f) := fun G => PS.imp (hp _ he) fun Dd σ H ⟨env, h, q⟩ => by
  refine sE (k := fun _ => .nx env) h q fun d v H1 O _ s1 rv rs z s0 g n q1 => ?_
  exact q1 σ H1 ⟨O, rs, z, s0, g, n⟩

/-! if, for, while -/
def sIf (t : Env → R Bool) (F F' : Env → Out) : Env → Out := fun s => match t s with
  | .ok b => if b = true then F s else F' s
  | .exc c n => .exc c n s
  | .no => .no
theorem sT {K : PySem.W.Frag} {mg : Str → Option Value} {H0 : Hp} {O0 : Addr → Prop} {G : List (V × D)} {env : Env} {σ : L2.St} {H : Hp} {t : Env → R Bool} {k : Bool → Out} {Dd : Ends} (h : SOK K H0 O0 G env σ H) (q : FinS K mg W H0 O0 G Dd (match t env with | .ok d => k d | .exc c n => .exc c n env | .no => .no)) {Q1 : Bool → Hp → Prop}
    (hk : ∀ d H1, t env = .ok d → SOK K H0 O0 G env σ H1 → FinS K mg W H0 O0 G Dd (k d) → Q1 d H1) : tT K mg W t σ H Q1 := by
  have h' := h
  obtain ⟨O, r, z, s0, g, n⟩ := h'
  refine ⟨env, O, r, ?_⟩
  cases e : t env with
  | ok d => rw [e] at q; exact fun H1 s1 => hk d H1 e (h.same s1) q
  | exc c n' => rw [e] at q; exact fun C dx H1 e1 s1 a => q C dx σ H1 e1 (h.same s1) a
  | no => rw [e] at q; exact q.elim
theorem ds_if {c : Expr} {a b : List Stmt} {t : Env → R Bool} (hc : DT X W c t) (ha : DSs X W B a F) (hb : DSs X W B b F') : DS X W B (.If c a b pos) (sIf t F F') := fun G => PS.imp (ps_if hc (ha G) (hb G)) fun Dd σ H ⟨env, h, q⟩ => by
  refine sT (k := fun b => if b = true then F env else F' env) h q fun d H1 _ h1 q1 => ?_
  cases d with
  | true => rw [if_pos rfl] at q1 ⊢; exact ⟨env, h1, q1⟩
  | false => rw [if_neg Bool.false_ne_true] at q1 ⊢; exact ⟨env, h1, q1⟩
/-- the turns of a for; wp: slots forgotten behind each turn -/
def forD (g : D → Env → R Env) (F : Env → Out) (wp : List Nat) : List D → Env → Out
  | [], s => .nx s
  | x :: xs, s => match g x s with
    | .ok s1 => (match F s1 with
      | .nx s2 => forD g F wp xs (wipeE s2 wp)
      | .ct s2 => forD g F wp xs (wipeE s2 wp)
      | .bk s2 => .nx s2
      | o => o)
    | _ => .no
def sFor (it : Env → R (List D)) (g : D → Env → R Env) (F : Env → Out) (wp : List Nat) : Env → Out := fun s => match it s with
  | .ok xs => forD g F wp xs (wipeE s wp)
  | .exc c n => .exc c n s
  | .no => .no
theorem SOK.forget {K : PySem.W.Frag} {H0 : Hp} {O0 : Addr → Prop} {G : List (V × D)} {env : Env} {σ : L2.St} {H : Hp} (h : SOK K H0 O0 G env σ H) (vs : List Nat) : SOK K H0 O0 G (wipeE env vs) σ H := by
  obtain ⟨O, r, z, s0, g, n⟩ := h
  exact ⟨O, r.forget vs, z, s0, g, fun i sv a e o1 h1 => n i sv a (wipeE_some e).1 o1 h1⟩
theorem SOK.less {K : PySem.W.Frag} {H0 : Hp} {O0 : Addr → Prop} {G G' : List (V × D)} {env : Env} {σ : L2.St} {H : Hp} (h : SOK K H0 O0 G env σ H) (w : ∀ p ∈ G', p ∈ G) : SOK K H0 O0 G' env σ H := by
  obtain ⟨O, r, z, s0, g, n⟩ := h
  exact ⟨O, r, z, s0, fun p hp => g p (w p hp), n⟩
theorem ds_for {tg iter : Expr} {body : List Stmt} {it : Env → R (List D)} {g : D → Env → R Env} {ts : List Nat} (wp : List Nat) (hp : PassesOwn (model X.prog X.w) X.A X.env X.xe) (hc : X.calm = true) (hi : DI X W false tg iter it) (hg : DG X tg ts g) (hb : DSs X W B body F)
    (hs : ∀ x, foldedSetIterable iter X.env x = pure x := by intro _; rfl) : DS X W B (.For tg iter body [] pos) (sFor it g F wp) := by
  intro G
  refine ⟨fun pins s σ H Dd I hw => ?_⟩
  -- the body under what the walk leans on: chosen behind the iterator
  obtain ⟨env, h, q⟩ := hw
  have main : ∀ (GI : List (V × D)) (xs : List D) (J : It), IterD X.K false J GI xs → ∀ (H1 : Hp) (h1 : SOK X.K B.H0 B.O0 (GI ++ G) (wipeE env wp) σ H1), FinS X.K X.mg W B.H0 B.O0 G Dd (forD g F wp xs (wipeE env wp)) →
      ∃ Wv : Nat → Nat → L2.St → Hp → Prop, (∃ m, Wv 0 m σ H1) ∧ ∀ i m σ H, Wv i m σ H → (J.stop i H ∧ Dd.nx σ H) ∨ (J.go i H ∧ ∃ N : L2.St → Hp → Prop, (∀ σ' H', N σ' H' → ∃ m', m' < m ∧ Wv (i + 1) m' σ' H') ∧ ∀ x H', J.yld i H x H' →
        tG X.K ts g x σ H' fun σ2 H2 => (fun D2 σ2 H2 => ∃ e2, SOK X.K B.H0 B.O0 (GI ++ G) e2 σ2 H2 ∧ FinS X.K X.mg W B.H0 B.O0 (GI ++ G) D2 (F e2)) { Dd with nx := N, ct := N, bk := Dd.nx } σ2 H2) := by
    intro GI xs J hJ H1 h1 q1
    refine ⟨fun i m σ H => m = xs.length - i ∧ i ≤ xs.length ∧ ∃ e, SOK X.K B.H0 B.O0 (GI ++ G) e σ H ∧ FinS X.K X.mg W B.H0 B.O0 G Dd (forD g F wp (xs.drop i) e), ⟨xs.length, by simp, Nat.zero_le _, _, h1, by simpa using q1⟩, ?_⟩
    rintro i m σ2 H2 ⟨rfl, hi, e, he, qe⟩
    have he' := he
    obtain ⟨O, r, z, s0, gg, n⟩ := he'
    have hJ2 := hJ O H2 r.trk (fun p hp => gg p (List.mem_append_left _ hp)) i
    by_cases hlt : i < xs.length
    · refine .inr ⟨(hJ2.1 _ (List.getElem?_eq_getElem hlt)).1, fun σ' H' => ∃ m', m' < xs.length - i ∧ (m' = xs.length - (i + 1) ∧ i + 1 ≤ xs.length ∧ ∃ e, SOK X.K B.H0 B.O0 (GI ++ G) e σ' H' ∧ FinS X.K X.mg W B.H0 B.O0 G Dd (forD g F wp (xs.drop (i + 1)) e)), fun _ _ z => z, fun v H3 y => ?_⟩
      obtain ⟨s3, rv⟩ := (hJ2.1 _ (List.getElem?_eq_getElem hlt)).2 v H3 y
      rw [List.drop_eq_getElem_cons hlt] at qe
      simp only [forD] at qe
      refine ⟨e, O, xs[i], r.same s3, rv, ?_⟩
      cases eg : g xs[i] e with
      | exc c n => rw [eg] at qe; exact qe.elim
      | no => rw [eg] at qe; exact qe.elim
      | ok e1 =>
        intro σ4 r4 k4
        rw [eg] at qe
        dsimp only at qe
        refine ⟨e1, SOK.put r4 k4 z (s0.trans s3) (fun p hp => (gg p hp).same s3) n, ?_⟩
        cases eF : F e1 with
        | nx e2 =>
          rw [eF] at qe
          exact fun σ5 H5 h5 => ⟨_, by omega, rfl, hlt, _, h5.forget wp, qe⟩
        | ct e2 =>
          rw [eF] at qe
          exact fun σ5 H5 h5 => ⟨_, by omega, rfl, hlt, _, h5.forget wp, qe⟩
        | bk e2 =>
          rw [eF] at qe
          exact fun σ5 H5 h5 => qe _ _ (h5.less fun p hp => List.mem_append_right _ hp)
        | rt d => rw [eF] at qe; exact qe
        | ro d => rw [eF] at qe; exact qe
        | rk d => rw [eF] at qe; exact qe
        | exc c n e2 =>
          rw [eF] at qe
          exact fun C dx σ5 H5 a h5 b => qe C dx σ5 H5 a (h5.less fun p hp => List.mem_append_right _ hp) b
        | no => rw [eF] at qe; exact qe
    · have ei : i = xs.length := by omega
      subst ei
      rw [List.drop_length] at qe
      exact .inl ⟨hJ2.2 (Nat.le_refl _), qe _ _ (he.less fun p hp => List.mem_append_right _ hp)⟩
  -- the body's rule for every GI at once
  have body : PSs X body (fun D2 σ2 H2 => ∃ (GI : List (V × D)) (e2 : Env), SOK X.K B.H0 B.O0 (GI ++ G) e2 σ2 H2 ∧ FinS X.K X.mg W B.H0 B.O0 (GI ++ G) D2 (F e2)) := ⟨fun pins s σ H D2 I ⟨GI, e2, hh, qq⟩ => (hb (GI ++ G)).run pins s σ H D2 I ⟨e2, hh, qq⟩⟩
  refine (ps_for hp hc hi hg body hs).run pins s σ H Dd I ?_
  have h' := h
  obtain ⟨O, r, z, s0, gg, n⟩ := h'
  refine ⟨env, O, r, ?_⟩
  unfold sFor at q
  cases ei : it env with
  | exc c n' =>
    rw [ei] at q
    exact fun C dx H1 e1 s1 a => q C dx σ H1 e1 (h.same s1) a
  | no => rw [ei] at q; exact q.elim
  | ok xs =>
    rw [ei] at q
    intro J GI H1 s1 hG hJ
    obtain ⟨Wv, w0, step⟩ := main GI xs J hJ H1 ⟨O, (r.same s1).forget wp, z, s0.trans s1, fun p hp => (List.mem_append.mp hp).elim (fun hp => hG p hp) fun hp => (gg p hp).same s1, fun i sv a e o1 h1 => n i sv a (wipeE_some e).1 o1 h1⟩ q
    refine ⟨Wv, w0, fun i m σ H w => ?_⟩
    rcases step i m σ H w with a | ⟨a, N, hN, b⟩
    · exact .inl a
    · refine .inr ⟨a, N, hN, fun x H' y => ?_⟩
      obtain ⟨e0, O0', d, r0, rd0, m0⟩ := b x H' y
      refine ⟨e0, O0', d, r0, rd0, ?_⟩
      revert m0
      cases g d e0 with
      | exc c n => exact fun z => z
      | no => exact fun z => z
      | ok e1 => exact fun m0 σ' r' k' => let ⟨e2, h2, q2⟩ := m0 σ' r' k'; ⟨GI, e2, h2, q2⟩
/-- the turns of a while, at most n -/
def whileD (t : Env → R Bool) (F : Env → Out) (wp : List Nat) : Nat → Env → Out
  | 0, _ => .no
  | n + 1, s => match t s with
    | .ok true => (match F s with
      | .nx s2 => whileD t F wp n (wipeE s2 wp)
      | .ct s2 => whileD t F wp n (wipeE s2 wp)
      | .bk s2 => .nx s2
      | o => o)
    | .ok false => .nx s
    | .exc c k => .exc c k s
    | .no => .no
def sWhile (t : Env → R Bool) (F : Env → Out) (wp : List Nat) (n : Nat) : Env → Out := fun s => whileD t F wp n s
theorem ds_while {c : Expr} {body : List Stmt} {t : Env → R Bool} (wp : List Nat) (fuel : Env → Nat) (hp : PassesOwn (model X.prog X.w) X.A X.env X.xe) (hc : DT X W c t) (hb : DSs X W B body F) : DS X W B (.While c body [] pos) (fun s => whileD t F wp (fuel s) s) := fun G => PS.imp (ps_while hp hc (hb G)) fun Dd σ H ⟨env, h, q⟩ => by
  refine ⟨fun m σ H => ∃ e, SOK X.K B.H0 B.O0 G e σ H ∧ FinS X.K X.mg W B.H0 B.O0 G Dd (whileD t F wp m e), ⟨fuel env, env, h, q⟩, fun m σ H ⟨e, he, qe⟩ => ?_⟩
  cases m with
  | zero => exact qe.elim
  | succ m =>
    simp only [whileD] at qe
    have he' := he
    obtain ⟨O, r, z, s0, gg, n⟩ := he'
    refine ⟨e, O, r, ?_⟩
    cases et : t e with
    | exc c' n' => rw [et] at qe; exact fun C dx H1 e1 s1 a => qe C dx σ H1 e1 (he.same s1) a
    | no => rw [et] at qe; exact qe.elim
    | ok b =>
      rw [et] at qe
      intro H1 s1
      cases b with
      | false => rw [if_neg Bool.false_ne_true]; exact qe _ _ (he.same s1)
      | true =>
        rw [if_pos rfl]
        refine ⟨fun σ' H' => ∃ m', m' < m + 1 ∧ ∃ e, SOK X.K B.H0 B.O0 G e σ' H' ∧ FinS X.K X.mg W B.H0 B.O0 G Dd (whileD t F wp m' e), fun _ _ z => z, e, he.same s1, ?_⟩
        dsimp only at qe
        cases eF : F e with
        | nx e2 => rw [eF] at qe; exact fun σ5 H5 h5 => ⟨m, Nat.lt_succ_self _, _, h5.forget wp, qe⟩
        | ct e2 => rw [eF] at qe; exact fun σ5 H5 h5 => ⟨m, Nat.lt_succ_self _, _, h5.forget wp, qe⟩
        | bk e2 => rw [eF] at qe; exact qe
        | rt d => rw [eF] at qe; exact qe
        | ro d => rw [eF] at qe; exact qe
        | rk d => rw [eF] at qe; exact qe
        | exc c n e2 => rw [eF] at qe; exact qe
        | no => rw [eF] at qe; exact qe
end
end DV

namespace DV
open PySem L2 PySem.Spec PyProof.Rows

/-! ### a def and its calls -/
inductive FR where
  | val (d : D) | ol (xs : List D) | od (kvs : List (Key × D)) | exc (c : Str) (n : Int) | no
def FR.R : FR → R D
  | .val d => .ok d
  | .ol xs => .ok (.lst xs)
  | .od xs => .ok (.dct xs)
  | .exc c n => .exc c n
  | .no => .no
def Out.fr : Out → FR
  | .nx _ => .val .non
  | .rt d => .val d
  | .ro xs => .ol xs
  | .rk xs => .od xs
  | .exc c n _ => .exc c n
  | _ => .no
@[simp] theorem FR.R_val (d : D) : (FR.val d).R = .ok d := Eq.trans rfl rfl
@[simp] theorem FR.R_ol (d : List D) : (FR.ol d).R = .ok (.lst d) := Eq.trans rfl rfl
@[simp] theorem FR.R_od (d : List (Key × D)) : (FR.od d).R = .ok (.dct d) := Eq.trans rfl rfl
@[simp] theorem FR.R_exc (c : Str) (n : Int) : (FR.exc c n).R = .exc c n := Eq.trans rfl rfl
def FinF (K : PySem.W.Frag) (mg : Str → Option Value) (O : Addr → Prop) (H : Hp) (Q : VK) (E : XK) : FR → Prop
  | .val d => ∀ v H', Same H H' → RepD K O H' d v → Q v H'
  | .ol xs => ∀ p vs H', Same H H' → H p = none → H' p = some (.lst vs) → RepDs K (fun a => O a ∨ a = p) H' xs vs → Q (.ref p) H'
  | .od xs => ∀ p vs H', Same H H' → H p = none → H' p = some (.dK vs) → RepKs K (fun a => O a ∨ a = p) H' xs vs → Q (.ref p) H'
  | .exc c n => ∀ C dx H', mg c = some (.ref C) → Same H H' → H' dx = some (.xd [(("at" : Str), .int n)]) → E (.ref C) (some dx) H'
  | .no => False
/-- the promise of a def that reckons F -/
def spD (K : PySem.W.Frag) (mg : Str → Option Value) (n : Nat) (F : List D → FR) : Sp := fun vs H Q E => vs.length = n ∧ ∃ O ds, (∀ a, O a → H a ≠ none) ∧ RepDs K O H ds vs ∧ FinF K mg O H Q E (F ds)
def argE (N : Nat) (ds : List D) : Env := ds.map (fun d => some (.d d)) ++ List.replicate (N - ds.length) none
def fnD (N n : Nat) (Fb : Env → Out) : List D → FR := fun ds => if ds.length = n then (Fb (argE N ds)).fr else .no
theorem start_get {N : List Str} {vs : List V} {i : Nat} {v : V} (h : vs[i]? = some v) : (L2.start N vs)[i]? = some (some v) := by
  unfold L2.start
  have hi : i < vs.length := (List.getElem?_eq_some_iff.mp h).1
  rw [List.getElem?_append_left (by simpa using hi), List.getElem?_map, h]; rfl
theorem argE_get {N : Nat} {ds : List D} {i : Nat} {sv : SV} (h : (argE N ds)[i]? = some (some sv)) : ∃ d, ds[i]? = some d ∧ sv = .d d := by
  unfold argE at h
  by_cases hi : i < ds.length
  · rw [List.getElem?_append_left (by simpa using hi), List.getElem?_map, Option.map_eq_some_iff] at h
    obtain ⟨d, e1, e2⟩ := h
    exact ⟨d, e1, by simpa using e2.symm⟩
  · rw [List.getElem?_append_right (by simpa using hi)] at h
    obtain ⟨_, h⟩ := List.getElem?_eq_some_iff.mp h
    simp at h
theorem SOK.start {K : PySem.W.Frag} {N : List Str} {O : Addr → Prop} {H : Hp} {ds : List D} {vs : List V} (tr : ∀ a, O a → H a ≠ none) (r : RepDs K O H ds vs) : SOK K H O [] (argE N.length ds) (L2.start N vs) H := by
  refine ⟨O, ⟨by simp [L2.start, argE, r.length], fun i sv e => ?_, fun i j a su sv e1 _ o1 _ _ _ => ?_, tr⟩, fun _ z => z, Same.refl _, (fun p hp => nomatch hp), fun i sv a e o1 _ => ?_⟩
  · obtain ⟨d, e1, rfl⟩ := argE_get e
    obtain ⟨v, e2, rv⟩ := r.get e1
    exact ⟨v, start_get e2, rv⟩
  · obtain ⟨d, _, rfl⟩ := argE_get e1
    cases o1
  · obtain ⟨d, _, rfl⟩ := argE_get e
    cases o1
section
variable {P : Program} {w : World} {K : PySem.W.Frag} {mg : Str → Option Value} {base : Heap}
/-- what a body's rule is asked for -/
def BodyOk (P : Program) (w : World) (K : PySem.W.Frag) (mg : Str → Option Value) (base : Heap) (N : List Str) (qual : Str) (st : Stmt) (f : Addr) (k : Nat) (gd : Prop) (Fb : Env → Out) : Prop :=
  ∀ (cdv : Value) (A : Around) (outer : List PySem.Env) (s : Shared) (H : Hp) (E : XK) (B : Ent), Room k (A.deeper (envOfC qual (defScope st) s.heap.objs.size f cdv)) → (gd → A.guards = some []) →
    DSs (cxOf (L2N.CX P w) P w K mg base N qual (defScope st) f cdv A outer s H E) (fun cls d _ H => E cls d H) B (defBody st) Fb
theorem body_end {N ps : List Str} {qual : Str} {st : Stmt} {f : Addr} {k : Nat} {gd : Prop} {Fb : Env → Out} (hb : BodyOk P w K mg base N qual st f k gd Fb) (cdv : Value) (A : Around) (outer : List PySem.Env) (s : Shared) (H : Hp) (vs : List V) (Q : VK) (E : XK)
    (hr : Room k (A.deeper (envOfC qual (defScope st) s.heap.objs.size f cdv))) (hg : gd → A.guards = some []) (hs : spD K mg ps.length (fnD N.length ps.length Fb) vs H Q E) :
    ∃ t, PSs (cxOf (L2N.CX P w) P w K mg base N qual (defScope st) f cdv A outer s H E) (defBody st) t ∧ t { nx := fun _ H' => Q .non H', rt := Q } (L2.start N vs) H := by
  obtain ⟨hl, O, ds, tr, r, q⟩ := hs
  refine ⟨_, hb cdv A outer s H E ⟨H, O, tr⟩ hr hg [], argE N.length ds, SOK.start tr r, ?_⟩
  unfold fnD at q
  rw [if_pos (r.length.trans hl)] at q
  show FinS K mg _ H O [] _ (Fb (argE N.length ds))
  revert q
  cases Fb (argE N.length ds) with
  | nx e =>
    intro q σ' H' h
    obtain ⟨O', _, _, s0, _⟩ := h
    exact q _ _ s0 (by simp [RepD])
  | rt d => exact fun q => q
  | ro d => exact fun q => q
  | rk d => exact fun q => q
  | bk e => exact fun q => q.elim
  | ct e => exact fun q => q.elim
  | exc c n e =>
    intro q C dx σ' H' a h b
    obtain ⟨O', _, _, s0, _⟩ := h
    exact q C dx H' a s0 b
  | no => exact fun q => q
theorem fn_ok {x qual : Str} {st : Stmt} {f : Addr} {fd : FuncData} {N ps : List Str} {k : Nat} {Fb : Env → Out} (F : Fun K x qual st f fd) (S : FnScope N ps (defScope st)) (hb : BodyOk P w K mg base N qual st f k False Fb) :
    FnOk P w K mg base (L2N.CX P w) (k + 1) f fd ps (spD K mg ps.length (fnD N.length ps.length Fb)) :=
  match fd, F.ex with
  | _, ⟨oc, od, kV, doc, pm, an, cdv, ct, osl, rfl, lk, hcd⟩ => fn_of lk hcd S (fun vs H Q E h => h.1) fun A outer s H vs Q E hr hs => body_end hb cdv A outer s H vs Q E hr (fun z => z.elim) hs
/-- nothing is let out -/
theorem takes0N {X : Cx} : L2N.Takes X (fun _ _ _ _ => False) := fun _ _ x => by
  obtain ⟨_, _, _, _, _, _, _, _, _, _, _, _, _, _, _, _, z⟩ := x
  exact z.elim
end
section
variable {X : Cx} {W : WX} {B : Ent} {m : Bool} {k n : Nat} {f : Addr} {fd : FuncData} {ps : List Str} {Fn : List D → FR} {x : Str} {p pos : Pos} {e : Expr} {es : List Expr} {ga : Env → R (List D)}
/-- what one knows of a def of the text, to call it -/
structure CallOk (P : Program) (w : World) (K : PySem.W.Frag) (mg : Str → Option Value) (base : Heap) (k n : Nat) (x : Str) (Fn : List D → FR) : Prop where
  ex : ∃ (f : Addr) (fd : FuncData) (ps : List Str), FnOk P w K mg base (L2N.CX P w) k f fd ps (spD K mg n Fn) ∧ mg x = some (.ref f) ∧ PySem.W.keepIn K (.ref f) = true ∧ Binds K fd ps []
def eCall (Fn : List D → FR) (ga : Env → R (List D)) : Env → R D := fun s => (ga s).bind fun ds => (Fn ds).R
theorem pe_callD (C : CallOk X.prog X.w X.K X.mg X.base k n x Fn) (hr : Room k X.A) (tk : L2N.Takes X W) {t : TA} (ha : PA X (e :: es) t) (hg : Gl X x) (hdb : (x == ("__debug__" : Str)) = false := by decide) (he : starEach (e :: es) X.env = (false, eval e X.env) :: starEach es X.env := by rfl) (hpl : (backTo pos (starEach es X.env)).any (·.1) = false := by rfl) :
    PE X (.Call (.Name x p) (e :: es) [] pos) (tCallS (spD X.K X.mg n Fn) (WE W) t) := by
  obtain ⟨f, fd, ps, F, hm, hk, hb⟩ := C.ex
  exact pe_callS F hr hg hm hk hb (fun σ => L2N.passAt tk σ) ha hdb he hpl
theorem fn_len {n N : Nat} {Fb : Env → Out} {ds : List D} (h : fnD N n Fb ds ≠ .no) : ds.length = n := by
  unfold fnD at h
  split at h
  · assumption
  · exact absurd rfl h
/-- a function of n arguments -/
def Arity (n : Nat) (Fn : List D → FR) : Prop := ∀ ds, Fn ds ≠ .no → ds.length = n
theorem fnD_arity {n N : Nat} {Fb : Env → Out} : Arity n (fnD N n Fb) := fun ds h => fn_len h
theorem de_call (C : CallOk X.prog X.w X.K X.mg X.base k n x Fn) (ar : Arity n Fn) (hr : Room k X.A) (tk : L2N.Takes X W) (ha : DA X W false (e :: es) ga) (hg : Gl X x) (hdb : (x == ("__debug__" : Str)) = false := by decide) (he : starEach (e :: es) X.env = (false, eval e X.env) :: starEach es X.env := by rfl) (hpl : (backTo pos (starEach es X.env)).any (·.1) = false := by rfl) :
    DE X W m (.Call (.Name x p) (e :: es) [] pos) (eCall Fn ga) := PE.imp (pe_callD C hr tk ha hg hdb he hpl) fun σ H Q ⟨env, O, rs, q⟩ => by
  refine finA (m1 := false) rs q fun ds vs H1 _ s1 r1 rs1 q1 => ?_
  have r2 := RepMs.ds r1
  have hn : Fn ds ≠ .no := fun z => by rw [z] at q1; exact q1.elim
  refine ⟨r2.length.symm.trans (ar ds hn), O, ds, rs1.trk, r2, ?_⟩
  revert q1
  cases Fn ds with
  | val d => exact fun q1 v H' s r => q1 v H' s (.ofD r)
  | ol xs => exact fun q1 p vs H' s n hp r => q1 _ H' s (.ofD (by
      simp only [RepD]
      exact ⟨p, vs, rfl, rs1.nfree n, hp, r.of_new⟩))
  | od xs => exact fun q1 p vs H' s n hp r => q1 _ H' s (.ofD (by
      simp only [RepD]
      exact ⟨p, vs, rfl, rs1.nfree n, .inl hp, RepKs.keep Keep.refl (fun _ z => .inl z) _ _ r⟩))
  | exc c n => exact fun q1 C dx H' a s b => q1 C dx H' a s b
  | no => exact fun q1 => q1
/-- a call whose list is one's own from here on -/
def nCall (Fn : List D → FR) (ga : Env → R (List D)) : Env → R (List D) := fun s => (ga s).bind fun ds => match Fn ds with
  | .ol xs => .ok xs
  | .exc c n => .exc c n
  | _ => .no
theorem dn_call (C : CallOk X.prog X.w X.K X.mg X.base k n x Fn) (ar : Arity n Fn) (hr : Room k X.A) (tk : L2N.Takes X W) (ha : DA X W false (e :: es) ga) (hg : Gl X x) (hdb : (x == ("__debug__" : Str)) = false := by decide) (he : starEach (e :: es) X.env = (false, eval e X.env) :: starEach es X.env := by rfl) (hpl : (backTo pos (starEach es X.env)).any (·.1) = false := by rfl) :
    DN X W (.Call (.Name x p) (e :: es) [] pos) (nCall Fn ga) := PE.imp (pe_callD C hr tk ha hg hdb he hpl) fun σ H Q ⟨env, O, rs, q⟩ => by
  unfold nCall at q
  refine ⟨env, O, rs, ?_⟩
  revert q
  cases ga env with
  | exc c n => exact fun q => q
  | no => exact fun q => q
  | ok ds =>
    intro q vs H1 s1 r1
    have rs1 := rs.same s1
    have q1 := FinN.same s1 q
    rw [R.bind_ok] at q1
    have r2 := RepMs.ds r1
    have hn : Fn ds ≠ .no := fun z => by rw [z] at q1; exact q1.elim
    refine ⟨r2.length.symm.trans (ar ds hn), O, ds, rs1.trk, r2, ?_⟩
    revert q1
    cases Fn ds with
    | val d => exact fun q1 => q1.elim
    | ol xs => exact fun q1 => q1
    | od xs => exact fun q1 => q1.elim
    | exc c n => exact fun q1 C dx H' a s b => q1 C dx H' a s b
    | no => exact fun q1 => q1
/-- return f(..): what is the callee's own stays one's own -/
def sPar (i j : Nat) (ga : Env → R (List D)) : Env → Out := fun s => match ga s with
  | .ok [x, y] => if i < s.length ∧ j < s.length then .nx ((s.set i (some (.d x))).set j (some (.d y))) else .no
  | .ok _ => .no
  | .exc c n => .exc c n s
  | .no => .no
/-- a, b = e1, e2 -/
theorem ds_par {st : Stmt} {i j : Nat} {es : List Expr} (hp : ∀ t, PA X es t → PS X st (tPar i j t)) (ha : DA X W false es ga) : DS X W B st (sPar i j ga) := fun G => PS.imp (hp _ ha) fun Dd σ H ⟨env, h, q⟩ => by
  have h' := h
  obtain ⟨O, rs, z, s0, g, nn⟩ := h'
  unfold sPar at q
  refine ⟨env, O, rs, ?_⟩
  revert q
  cases ga env with
  | exc c n => exact fun q C dx H1 e1 s1 a => q C dx σ H1 e1 (h.same s1) a
  | no => exact fun q => q.elim
  | ok ds =>
    intro q vs H1 s1 r1
    have rs1 := rs.same s1
    have g1 : ∀ p ∈ G, RepD X.K O H1 p.2 p.1 := fun p hp => (g p hp).same s1
    match ds, q, r1 with
    | [x, y], q, r1 =>
      obtain ⟨v, w, e, rv, rw'⟩ := repMs2 r1
      subst e
      have q : FinS X.K X.mg W B.H0 B.O0 G Dd (if i < env.length ∧ j < env.length then .nx ((env.set i (some (.d x))).set j (some (.d y))) else .no) := q
      by_cases hij : i < env.length ∧ j < env.length
      · rw [if_pos hij] at q
        have rv : RepD X.K O H1 x v := rv
        have rw' : RepD X.K O H1 y w := rw'
        refine ⟨v, w, rfl, q _ _ (SOK.put ((rs1.put rv hij.1).put rw' (by simpa using hij.2)) ((Kept.put (d := x) (v := v) hij.1).trans (Kept.put (d := y) (v := w) (by simpa using hij.2))) z (s0.trans s1) g1 nn)⟩
      · rw [if_neg hij] at q; exact q.elim
    | [], q, _ => exact q.elim
    | [_], q, _ => exact q.elim
    | _ :: _ :: _ :: _, q, _ => exact q.elim
/-- return f(..): what is the callee's own stays one's own -/
def sRetC (Fn : List D → FR) (ga : Env → R (List D)) : Env → Out := fun s => match ga s with
  | .ok ds => (match Fn ds with
    | .val d => .rt d
    | .ol xs => .ro xs
    | .od xs => .rk xs
    | .exc c n => .exc c n s
    | .no => .no)
  | .exc c n => .exc c n s
  | .no => .no
theorem ds_retC {pos' : Pos} (C : CallOk X.prog X.w X.K X.mg X.base k n x Fn) (ar : Arity n Fn) (hr : Room k X.A) (tk : L2N.Takes X W) (ha : DA X W false (e :: es) ga) (hg : Gl X x) (hdb : (x == ("__debug__" : Str)) = false := by decide) (he : starEach (e :: es) X.env = (false, eval e X.env) :: starEach es X.env := by rfl) (hpl : (backTo pos (starEach es X.env)).any (·.1) = false := by rfl) :
    DS X W B (.Return (some (.Call (.Name x p) (e :: es) [] pos)) pos') (sRetC Fn ga) := fun G => PS.imp (ps_ret (pe_callD C hr tk ha hg hdb he hpl)) fun Dd σ H ⟨env, h, q⟩ => by
  have h' := h
  obtain ⟨O, rs, z, s0, g, nn⟩ := h'
  unfold sRetC at q
  refine ⟨env, O, rs, ?_⟩
  revert q
  cases ga env with
  | exc c n => exact fun q C dx H1 e1 s1 a => q C dx σ H1 e1 (h.same s1) a
  | no => exact fun q => q.elim
  | ok ds =>
    intro q vs H1 s1 r1
    have rs1 := rs.same s1
    have h1 := h.same s1
    dsimp only at q
    have r2 := RepMs.ds r1
    have hn : Fn ds ≠ .no := fun z => by rw [z] at q; exact q.elim
    refine ⟨r2.length.symm.trans (ar ds hn), O, ds, rs1.trk, r2, ?_⟩
    have s01 := s0.trans s1
    revert q
    cases Fn ds with
    | val d => exact fun q v H' s r => q v H' (s01.trans s) (RepD.keep Keep.refl z _ _ r)
    | ol xs => exact fun q p vs H' s n hp r => q p vs H' (s01.trans s) (Same.back s01 n) hp (RepDs.keep Keep.refl (fun b hb => hb.elim (fun hb => .inl (z b hb)) .inr) _ _ r)
    | od xs => exact fun q p vs H' s n hp r => q p vs H' (s01.trans s) (Same.back s01 n) hp (RepKs.keep Keep.refl (fun b hb => hb.elim (fun hb => .inl (z b hb)) .inr) _ _ r)
    | exc c n => exact fun q C dx H' a s b => q C dx σ H' a (h1.same s) b
    | no => exact fun q => q
end

/-! ### one's own list changes -/
theorem SOK.mut {K : PySem.W.Frag} {H0 : Hp} {O0 : Addr → Prop} {G : List (V × D)} {env : Env} {σ : L2.St} {H : Hp} {i : Nat} {xs xs' : List D} {O : Addr → Prop} (r : RepS K O H σ env) (z : ∀ a, O0 a → O a) (s0 : Same H0 H) (g : ∀ p ∈ G, RepD K O H p.2 p.1)
    (n : ∀ (i : Nat) sv a, env[i]? = some (some sv) → sv.own = true → σ[i]? = some (some (.ref a)) → H0 a = none) {a : Addr} {vs vs' : List V} (ei : env[i]? = some (some (.ol xs))) (eσ : σ[i]? = some (some (.ref a))) (ho : O a) (ha : H a = some (.lst vs)) (h' : RepDs K O H xs' vs') :
    SOK K H0 O0 G (env.set i (some (.ol xs'))) σ (upd H a (.lst vs')) := by
  have hi : i < env.length := (List.getElem?_eq_some_iff.mp ei).1
  have kp : Keep O H (upd H a (.lst vs')) := Keep.upd ho (by rw [ha]; exact True.intro)
  refine ⟨O, ⟨by simp [r.len], fun j sv e => ?_, fun j k b su sv e1 e2 o1 o2 h1 h2 => ?_, fun b hb => ?_⟩, z, DV.Same.put s0 (n i _ a ei rfl eσ), fun p hp => RepD.keep kp (fun _ z => z) _ _ (g p hp), fun j sv b e o1 h1 => ?_⟩
  · by_cases hj : i = j
    · subst hj
      rw [List.getElem?_set_self hi] at e
      cases e
      exact ⟨_, eσ, a, vs', rfl, ho, upd_same, RepDs.keep kp (fun _ z => z) _ _ h'⟩
    · rw [List.getElem?_set_ne hj] at e
      obtain ⟨v, e1, rv⟩ := r.get j sv e
      refine ⟨v, e1, ?_⟩
      cases sv with
      | d x => exact RepD.keep kp (fun _ z => z) _ _ rv
      | ex b dx k => exact ⟨rv.1, by rw [upd_ne (fun q => by have := rv.2; rw [q, ha] at this; cases this)]; exact rv.2⟩
      | op w => exact rv
      | ol ys =>
        obtain ⟨b, us, eb, hb, h1, h2⟩ := rv
        subst eb
        have ne : b ≠ a := fun q => hj (r.inj i j a _ _ ei e rfl rfl eσ (by rw [e1, q]))
        exact ⟨b, us, rfl, hb, by rw [upd_ne ne]; exact h1, RepDs.keep kp (fun _ z => z) _ _ h2⟩
      | od ys =>
        obtain ⟨b, us, eb, hb, h1, h2⟩ := rv
        subst eb
        have ne : b ≠ a := fun q => hj (r.inj i j a _ _ ei e rfl rfl eσ (by rw [e1, q]))
        exact ⟨b, us, rfl, hb, by rw [upd_ne ne]; exact h1, RepKs.keep kp (fun _ z => z) _ _ h2⟩
  · have f : ∀ (j : Nat) sv, (env.set i (some (.ol xs')))[j]? = some (some sv) → sv.own = true → ∃ su, env[j]? = some (some su) ∧ su.own = true := fun j sv e o => by
      by_cases hj : i = j
      · subst hj; exact ⟨_, ei, rfl⟩
      · rw [List.getElem?_set_ne hj] at e; exact ⟨sv, e, o⟩
    obtain ⟨x1, e1', p1⟩ := f j su e1 o1
    obtain ⟨x2, e2', p2⟩ := f k sv e2 o2
    exact r.inj j k b x1 x2 e1' e2' p1 p2 h1 h2
  · by_cases hb' : b = a
    · subst hb'; rw [upd_same]; simp
    · rw [upd_ne hb']; exact r.trk b hb
  · by_cases hj : i = j
    · subst hj
      exact n i _ b ei rfl h1
    · rw [List.getElem?_set_ne hj] at e; exact n j sv b e o1 h1
def sApp (i : Nat) (f : Env → R D) : Env → Out := fun s => match s[i]? with
  | some (some (.ol xs)) => (match f s with
    | .ok d => if xs.length < 1000000 then .nx (s.set i (some (.ol (xs ++ [d])))) else .no
    | .exc c n => .exc c n s
    | .no => .no)
  | _ => .no
def sExt (i : Nat) (f : Env → R D) : Env → Out := fun s => match s[i]? with
  | some (some (.ol xs)) => (match f s with
    | .ok (.lst ys) => if xs.length + ys.length ≤ 1000000 then .nx (s.set i (some (.ol (xs ++ ys)))) else .no
    | .ok _ => .no
    | .exc c n => .exc c n s
    | .no => .no)
  | _ => .no
section
variable {X : Cx} {W : WX} {B : Ent} {i : Nat} {x : Str} {p apos cpos pos : Pos} {e : Expr} {f : Env → R D}
theorem ds_append (hp : ∀ t, PA X [e] t → PS X (.Expr (.Call (.Attribute (.Name x p) "append" apos) [e] [] cpos) pos) (tDrop (tBM X.K "list" rAppend (tVar i) t)))
    (he : DE X W false e f) (hs : starEach [e] X.env = (false, eval e X.env) :: starEach [] X.env := by rfl) :
    DS X W B (.Expr (.Call (.Attribute (.Name x p) "append" apos) [e] [] cpos) pos) (sApp i f) := fun G => PS.imp (hp _ (pa_cons he pa_nil hs)) fun Dd σ H ⟨env, h, q⟩ => by
  have h0 := h
  obtain ⟨O, r, z, s0, g, n⟩ := h
  unfold sApp at q
  split at q
  · rename_i xs ei
    obtain ⟨v, eσ, a, vs, ev, ho, ha, rx⟩ := r.get i _ ei
    subst ev
    refine ⟨_, eσ, .inl ⟨rfl, vs, .of ha⟩, ?_⟩
    refine sE (k := fun d => if xs.length < 1000000 then .nx (env.set i (some (.ol (xs ++ [d])))) else .no) h0 q fun d v H1 O1 _ s1 rv rs z1 s01 g1 n1 q1 => ?_
    obtain ⟨v2, eσ2, a2, vs2, ev2, ho2, ha2, rx2⟩ := rs.get i _ ei
    rw [eσ] at eσ2
    cases eσ2
    cases ev2
    split at q1
    · rename_i hz
      refine ⟨a, vs2, v, rfl, rfl, ha2, by rw [← rx2.length]; exact lim_lt hz, q1 _ _ (SOK.mut rs z1 s01 g1 n1 ei eσ ho2 ha2 (rx2.append (.cons rv .nil)))⟩
    · exact q1.elim
  · exact q.elim
theorem ds_extend (hp : ∀ t, PA X [e] t → PS X (.Expr (.Call (.Attribute (.Name x p) "extend" apos) [e] [] cpos) pos) (tDrop (tBM X.K "list" rExtend (tVar i) t)))
    (he : DE X W true e f) (hs : starEach [e] X.env = (false, eval e X.env) :: starEach [] X.env := by rfl) :
    DS X W B (.Expr (.Call (.Attribute (.Name x p) "extend" apos) [e] [] cpos) pos) (sExt i f) := fun G => PS.imp (hp _ (pa_cons he pa_nil hs)) fun Dd σ H ⟨env, h, q⟩ => by
  have h0 := h
  obtain ⟨O, r, z, s0, g, n⟩ := h
  unfold sExt at q
  split at q
  · rename_i xs ei
    obtain ⟨v, eσ, a, vs, ev, ho, ha, rx⟩ := r.get i _ ei
    subst ev
    refine ⟨_, eσ, .inl ⟨rfl, vs, .of ha⟩, ?_⟩
    refine sE (Dd := Dd) (k := fun d => match d with | .lst ys => if xs.length + ys.length ≤ 1000000 then .nx (env.set i (some (.ol (xs ++ ys)))) else .no | _ => .no) h0 ?_ fun d v H1 O1 _ s1 rv rs z1 s01 g1 n1 q1 => ?_
    · revert q
      cases f env with
      | ok d => cases d <;> exact fun q => q
      | exc c k => exact fun q => q
      | no => exact fun q => q
    obtain ⟨v2, eσ2, a2, vs2, ev2, ho2, ha2, rx2⟩ := rs.get i _ ei
    rw [eσ] at eσ2
    cases eσ2
    cases ev2
    split at q1
    · obtain ⟨b, us, eb, hb, rb⟩ := repLst rv
      subst eb
      split at q1
      · rename_i hz
        refine ⟨a, b, vs2, us, rfl, rfl, ha2, hb, by rw [← rx2.length, ← rb.length]; exact lim_le hz, q1 _ _ (SOK.mut rs z1 s01 g1 n1 ei eσ ho2 ha2 (rx2.append rb))⟩
      · exact q1.elim
    · exact q1.elim
  · exact q.elim
end
end DV

namespace DV
open PySem L2 PySem.Spec PyProof.Rows

/-! ### == and repr of data -/
mutual
def D.pd : D → PyData
  | .non => .none
  | .bl b => .bool b
  | .int i => .int i
  | .str x => .str x
  | .lst xs => .list (D.pds xs)
  | .tup xs => .tuple (D.pds xs)
  | .dct _ => .none
  | .scr _ => .none
def D.pds : List D → List PyData
  | [] => []
  | x :: xs => x.pd :: D.pds xs
end
mutual
/-- no dicts -/
def D.plain : D → Bool
  | .non | .bl _ | .int _ | .str _ => true
  | .lst xs => D.plains xs
  | .tup xs => D.plains xs
  | .dct _ => false
  | .scr _ => false
def D.plains : List D → Bool
  | [] => true
  | x :: xs => x.plain && D.plains xs
end
section
variable {K : PySem.W.Frag} {O : Addr → Prop} {H : Hp}
mutual
theorem RepD.dp : ∀ (d : D) (v : V), d.plain = true → RepD K O H d v → Dp K H v d.pd
  | .non, v, _, h => by simp only [RepD] at h; subst h; simp only [D.pd]; exact .non
  | .bl b, v, _, h => by simp only [RepD] at h; subst h; simp only [D.pd]; exact .bl b
  | .int i, v, _, h => by simp only [RepD] at h; subst h; simp only [D.pd]; exact .int i
  | .str x, v, _, h => by simp only [RepD] at h; subst h; simp only [D.pd]; exact .str x
  | .lst xs, v, hp, h => by
    simp only [RepD] at h
    obtain ⟨a, vs, e, _, hs, hr⟩ := h
    subst e
    simp only [D.pd]
    simp only [D.plain] at hp
    exact .lst (.of hs) (RepDs.dp xs vs hp hr)
  | .tup xs, v, hp, h => by
    simp only [RepD] at h
    obtain ⟨a, vs, e, hs, hr⟩ := h
    subst e
    simp only [D.pd]
    simp only [D.plain] at hp
    exact .tup hs (RepDs.dp xs vs hp hr)
  | .dct _, v, hp, h => by simp [D.plain] at hp
  | .scr _, v, hp, h => by simp [D.plain] at hp
theorem RepDs.dp : ∀ (ds : List D) (vs : List V), D.plains ds = true → RepDs K O H ds vs → DpAll K H vs (D.pds ds)
  | [], vs, _, h => by simp only [RepDs] at h; subst h; simp only [D.pds]; exact .nil
  | x :: xs, vs, hp, h => by
    simp only [RepDs] at h
    obtain ⟨v, r, e, h1, h2⟩ := h
    subst e
    simp only [D.plains, Bool.and_eq_true] at hp
    simp only [D.pds]
    exact .cons (RepD.dp x v hp.1 h1) (RepDs.dp xs r hp.2 h2)
end
theorem RepM.dp {m : Bool} {d : D} {v : V} (hp : d.plain = true) (h : RepM K O H m d v) : Dp K H v d.pd := by
  cases m
  · exact RepD.dp d v hp h
  · have h : RepTop K O H d v := h
    cases d <;> simp only [RepTop] at h <;> try exact RepD.dp _ v hp h
    · obtain ⟨a, vs, e, hs, hr⟩ := h
      subst e
      simp only [D.pd]
      simp only [D.plain] at hp
      exact .lst (.of hs) (RepDs.dp _ vs hp hr)
    · simp [D.plain] at hp
end
/-! == != in, not in: of data without dicts, any texts (KE.DataEq) -/
def eqvD (x y : D) : Bool := PyData.eqv x.pd y.pd
def eqOk (x y : D) : Prop := x.plain = true ∧ y.plain = true ∧ min x.pd.depth y.pd.depth ≤ 60
instance (x y : D) : Decidable (eqOk x y) := by unfold eqOk; infer_instance
def eqD (x y : D) : R D := if eqOk x y then .ok (.bl (eqvD x y)) else .no
def neD (x y : D) : R D := if eqOk x y then .ok (.bl (!eqvD x y)) else .no
def inOk (x : D) (ys : List D) : Prop := x.plain = true ∧ D.plains ys = true ∧ min (PyData.depthAll (D.pds ys)) x.pd.depth ≤ 60
instance (x : D) (ys : List D) : Decidable (inOk x ys) := by unfold inOk; infer_instance
def isIn (x : D) (ys : List D) : Bool := ys.any fun y => eqvD y x
def inD : D → D → R D
  | x, .lst ys => if inOk x ys then .ok (.bl (isIn x ys)) else .no
  | x, .tup ys => if inOk x ys then .ok (.bl (isIn x ys)) else .no
  | _, _ => .no
def ninD : D → D → R D
  | x, .lst ys => if inOk x ys then .ok (.bl (!isIn x ys)) else .no
  | x, .tup ys => if inOk x ys then .ok (.bl (!isIn x ys)) else .no
  | _, _ => .no
theorem eqD_nx : ∀ x y c n, eqD x y ≠ .exc c n := fun x y c n => by unfold eqD; split <;> simp
theorem neD_nx : ∀ x y c n, neD x y ≠ .exc c n := fun x y c n => by unfold neD; split <;> simp
theorem inD_nx : ∀ x y c n, inD x y ≠ .exc c n := fun x y c n => by cases y <;> simp only [inD] <;> (try split) <;> simp
theorem ninD_nx : ∀ x y c n, ninD x y ≠ .exc c n := fun x y c n => by cases y <;> simp only [ninD] <;> (try split) <;> simp
mutual
theorem D.pd_plain : ∀ d : D, d.plain = true → d.pd.plain = true
  | .non, _ => rfl
  | .bl _, _ => rfl
  | .int _, _ => rfl
  | .str _, _ => rfl
  | .lst xs, h => by simp only [D.pd, PyData.plain]; exact D.pds_plain xs (by simpa [D.plain] using h)
  | .tup xs, h => by simp only [D.pd, PyData.plain]; exact D.pds_plain xs (by simpa [D.plain] using h)
  | .dct _, h => by simp [D.plain] at h
  | .scr _, h => by simp [D.plain] at h
theorem D.pds_plain : ∀ d : List D, D.plains d = true → PyData.plainAll (D.pds d) = true
  | [], _ => rfl
  | x :: xs, h => by
    simp only [D.plains, Bool.and_eq_true] at h
    simp only [D.pds, PyData.plainAll, D.pd_plain x h.1, D.pds_plain xs h.2, Bool.and_self]
end
theorem D.pds_map : ∀ ys : List D, D.pds ys = ys.map D.pd
  | [] => rfl
  | x :: xs => by simp only [D.pds, List.map_cons, D.pds_map xs]
def rEqP (K : PySem.W.Frag) : R2 := fun x y H Q => ∃ d e, Dp K H x d ∧ Dp K H y e ∧ d.plain = true ∧ e.plain = true ∧ min d.depth e.depth ≤ 60 ∧ Q (.bl (PyData.eqv d e)) H
def rNeP (K : PySem.W.Frag) : R2 := fun x y H Q => ∃ d e, Dp K H x d ∧ Dp K H y e ∧ d.plain = true ∧ e.plain = true ∧ min d.depth e.depth ≤ 60 ∧ Q (.bl (!PyData.eqv d e)) H
def rInP (K : PySem.W.Frag) : R2 := fun x y H Q => ∃ d ys, Dp K H x d ∧ (Dp K H y (.list ys) ∨ Dp K H y (.tuple ys)) ∧ d.plain = true ∧ PyData.plainAll ys = true ∧ min (PyData.depthAll ys) d.depth ≤ 60 ∧ Q (.bl (ys.any fun e => PyData.eqv e d)) H
def rNinP (K : PySem.W.Frag) : R2 := fun x y H Q => ∃ d ys, Dp K H x d ∧ (Dp K H y (.list ys) ∨ Dp K H y (.tuple ys)) ∧ d.plain = true ∧ PyData.plainAll ys = true ∧ min (PyData.depthAll ys) d.depth ≤ 60 ∧ Q (.bl (!ys.any fun e => PyData.eqv e d)) H
section
variable {X : Cx}
theorem op_eqP (hu : X.A.units + 64 < cLine) : OpR X (compareOp .Eq) (rEqP X.K) := by
  intro pins s σ H x y v u Q I rx ry h
  obtain ⟨d, e, hd, he, sd, se, hm, q⟩ := h
  obtain ⟨as, r1⟩ := Dp.reads I d x v hd rx
  obtain ⟨bs, r2⟩ := Dp.reads I e y u he ry
  exact SeqAt.eq_plain r1 r2 sd se (by omega) ⟨.bl _, H, I, rfl, q⟩
theorem op_neP (hu : X.A.units + 64 < cLine) : OpR X (compareOp .NotEq) (rNeP X.K) := by
  intro pins s σ H x y v u Q I rx ry h
  obtain ⟨d, e, hd, he, sd, se, hm, q⟩ := h
  obtain ⟨as, r1⟩ := Dp.reads I d x v hd rx
  obtain ⟨bs, r2⟩ := Dp.reads I e y u he ry
  exact SeqAt.ne_plain r1 r2 sd se (by omega) ⟨.bl _, H, I, rfl, q⟩
theorem op_inP (hu : X.A.units + 64 < cLine) : OpR X (compareOp .In) (rInP X.K) := by
  intro pins s σ H x y v u Q I rx ry h
  obtain ⟨d, ys, hd, he, sd, se, hm, q⟩ := h
  obtain ⟨as, r1⟩ := Dp.reads I d x v hd rx
  rcases he with he | he
  · obtain ⟨bs, r2⟩ := Dp.reads I _ y u he ry
    exact SeqAt.in_list_data r2 r1 se sd (by omega) ⟨.bl _, H, I, rfl, q⟩
  · obtain ⟨bs, r2⟩ := Dp.reads I _ y u he ry
    exact SeqAt.in_tuple_data r2 r1 se sd (by omega) ⟨.bl _, H, I, rfl, q⟩
theorem op_ninP (hu : X.A.units + 64 < cLine) : OpR X (compareOp .NotIn) (rNinP X.K) := by
  intro pins s σ H x y v u Q I rx ry h
  obtain ⟨d, ys, hd, he, sd, se, hm, q⟩ := h
  obtain ⟨as, r1⟩ := Dp.reads I d x v hd rx
  rcases he with he | he
  · obtain ⟨bs, r2⟩ := Dp.reads I _ y u he ry
    exact SeqAt.notIn_list_data r2 r1 se sd (by omega) ⟨.bl _, H, I, rfl, q⟩
  · obtain ⟨bs, r2⟩ := Dp.reads I _ y u he ry
    exact SeqAt.notIn_tuple_data r2 r1 se sd (by omega) ⟨.bl _, H, I, rfl, q⟩
end
theorem o2_eq {K : PySem.W.Frag} : Op2 K (rEqP K) eqD := fun mg O m σ env H Q x y v w r hx hy q => by
  unfold eqD at q
  split at q
  · rename_i h
    exact ⟨_, _, hx.dp h.1, hy.dp h.2.1, D.pd_plain _ h.1, D.pd_plain _ h.2.1, h.2.2, q.val (by simp [RepD, eqvD])⟩
  · exact q.elim
theorem o2_ne {K : PySem.W.Frag} : Op2 K (rNeP K) neD := fun mg O m σ env H Q x y v w r hx hy q => by
  unfold neD at q
  split at q
  · rename_i h
    exact ⟨_, _, hx.dp h.1, hy.dp h.2.1, D.pd_plain _ h.1, D.pd_plain _ h.2.1, h.2.2, q.val (by simp [RepD, eqvD])⟩
  · exact q.elim
theorem isIn_pd (x : D) (ys : List D) : ((D.pds ys).any fun e => PyData.eqv e x.pd) = isIn x ys := by
  rw [D.pds_map, List.any_map]; rfl
theorem o2_in {K : PySem.W.Frag} : Op2 K (rInP K) inD := fun mg O m σ env H Q x y v w r hx hy q => by
  cases y <;> simp only [inD] at q <;> try exact q.elim
  · rename_i ys
    split at q
    · rename_i h
      exact ⟨_, D.pds ys, hx.dp h.1, .inl (hy.dp (d := .lst ys) (by simpa [D.plain] using h.2.1)), D.pd_plain _ h.1, D.pds_plain _ h.2.1, h.2.2, by rw [isIn_pd]; exact q.val (by simp [RepD, eqvD])⟩
    · exact q.elim
  · rename_i ys
    split at q
    · rename_i h
      exact ⟨_, D.pds ys, hx.dp h.1, .inr (hy.dp (d := .tup ys) (by simpa [D.plain] using h.2.1)), D.pd_plain _ h.1, D.pds_plain _ h.2.1, h.2.2, by rw [isIn_pd]; exact q.val (by simp [RepD, eqvD])⟩
    · exact q.elim
theorem o2_nin {K : PySem.W.Frag} : Op2 K (rNinP K) ninD := fun mg O m σ env H Q x y v w r hx hy q => by
  cases y <;> simp only [ninD] at q <;> try exact q.elim
  · rename_i ys
    split at q
    · rename_i h
      exact ⟨_, D.pds ys, hx.dp h.1, .inl (hy.dp (d := .lst ys) (by simpa [D.plain] using h.2.1)), D.pd_plain _ h.1, D.pds_plain _ h.2.1, h.2.2, by rw [isIn_pd]; exact q.val (by simp [RepD, eqvD])⟩
    · exact q.elim
  · rename_i ys
    split at q
    · rename_i h
      exact ⟨_, D.pds ys, hx.dp h.1, .inr (hy.dp (d := .tup ys) (by simpa [D.plain] using h.2.1)), D.pd_plain _ h.1, D.pds_plain _ h.2.1, h.2.2, by rw [isIn_pd]; exact q.val (by simp [RepD, eqvD])⟩
    · exact q.elim
section
variable {X : Cx} {W : WX} {m : Bool} {a b : Expr} {f g : Env → R D} {pos p : Pos} {k : Nat} {e : Expr} {ga : Env → R (List D)}
theorem de_eq (hr : Room k X.A) (ha : DE X W true a f) (hb : DE X W true b g) : DE X W m (.Compare a [.Eq] [b] pos) (e2 eqD f g) := de_cmp (op_eqP hr.units) o2_eq eqD_nx (nomark _) ha hb
theorem de_ne (hr : Room k X.A) (ha : DE X W true a f) (hb : DE X W true b g) : DE X W m (.Compare a [.NotEq] [b] pos) (e2 neD f g) := de_cmp (op_neP hr.units) o2_ne neD_nx (nomark _) ha hb
theorem de_in (hr : Room k X.A) (ha : DE X W true a f) (hb : DE X W true b g) (hm : behindInMarks .In b = false := by with_unfolding_all rfl) : DE X W m (.Compare a [.In] [b] pos) (e2 inD f g) := de_cmp (op_inP hr.units) o2_in inD_nx hm ha hb
theorem de_nin (hr : Room k X.A) (ha : DE X W true a f) (hb : DE X W true b g) (hm : behindInMarks .NotIn b = false := by with_unfolding_all rfl) : DE X W m (.Compare a [.NotIn] [b] pos) (e2 ninD f g) := de_cmp (op_ninP hr.units) o2_nin ninD_nx hm ha hb
/-- repr -/
def rRepr (K : PySem.W.Frag) : List V → Hp → VK → Prop := fun xs H Q => ∃ x d, xs = [x] ∧ Dp K H x d ∧ d.showable = true ∧ d.hasDict = false ∧ d.depth ≤ 60 ∧ d.shown.length ≤ sizeLine ∧ Q (.str d.shown) H
theorem call_repr (hr : Room k X.A) (hg : X.A.guards = some []) : CallR X (.builtin "repr") (rRepr X.K) := by
  intro pins s σ H xs us Q I r h
  obtain ⟨x, d, rfl, hd, hs, hn, hp, hz, q⟩ := h
  obtain ⟨u, rfl, ru⟩ := vals1 r
  have go : ∀ a : Addr, u = .ref a → wpAny (model X.prog X.w) X.A (call (.builtin "repr") [u]) (EP X pins σ Q) X.xe s := fun a e => by
    subst e
    obtain ⟨as, rd⟩ := Dp.reads I d x _ hd ru
    refine repr_of_reads' rd hs (PyData.noDict_hsm hn) hg (by have := hr.units; omega) (fun _ _ e => e) (fun h' u tk hk => ?_) hz
    exact ⟨.str d.shown, H, I.kept (t' := tk) hk, ⟨u, rfl⟩, q⟩
  cases hd with
  | non =>
    obtain rfl : u = Value.none := ru
    exact PySem.P.repr_of_none ⟨.str _, H, I.tok _, ⟨_, rfl⟩, q⟩
  | bl b =>
    obtain rfl : u = Value.bool b := ru
    exact PySem.P.repr_of_bool ⟨.str _, H, I.tok _, ⟨_, rfl⟩, q⟩
  | int i =>
    obtain ⟨t, rfl⟩ := ru
    exact PySem.P.repr_of_int (of_decide_eq_true hs) ⟨.str _, H, I.tok _, ⟨_, rfl⟩, q⟩
  | str z =>
    obtain ⟨t, rfl⟩ := ru
    exact PySem.P.repr_of_str ⟨.str _, H, I.tok _, ⟨_, rfl⟩, q⟩ hz
  | @lst a _ _ _ _ => exact go a ru
  | @tup a _ _ _ _ => exact go a ru
def reprD : List D → R D
  | [d] => if d.plain = true ∧ d.pd.showable = true ∧ d.pd.hasDict = false ∧ d.pd.depth ≤ 60 ∧ d.pd.shown.length ≤ 1000000 then .ok (.str d.pd.shown) else .no
  | _ => .no
theorem reprD_nx : NX reprD := fun x c n => by unfold reprD; split <;> (try split) <;> simp
theorem on_repr {K : PySem.W.Frag} : OpN K (rRepr K) reprD := fun mg O m σ env H Q ds vs r hx q => by
  unfold reprD at q
  split at q
  · obtain ⟨v, e, h⟩ := repMs1 hx
    split at q
    · rename_i hz
      exact ⟨v, _, e, h.dp hz.1, hz.2.1, hz.2.2.1, hz.2.2.2.1, lim_le hz.2.2.2.2, q.val (by simp [RepD, eqvD])⟩
    · exact q.elim
  · exact q.elim
theorem de_repr (hm : X.mg "repr" = none) (hr : Room k X.A) (hgd : X.A.guards = some []) (ha : DA X W true [e] ga) (hg : Gl X "repr" := by rfl) (he : starEach [e] X.env = (false, eval e X.env) :: starEach [] X.env := by rfl) : DE X W m (.Call (.Name "repr" p) [e] [] pos) (eB reprD ga) :=
  de_callB (call_repr hr hgd) on_repr reprD_nx hg hm (by decide +kernel) ha (by decide) (by decide) he rfl
end

/-! ### y = [ .. for .. ], as a statement of its own -/
section
variable {X : Cx} {W : WX} {B : Ent} {m : Bool} {el tg iter : Expr} {ifs : List Expr} {scope : Scope} {own : List (Str × Nat)} {pos spos py : Pos} {it : Env → R (List D)} {g : D → Env → R Env} {t : Env → R Bool} {elt : Env → R D} {ts : List Nat} {i : Nat} {y : Str}
theorem t_new' {K : PySem.W.Frag} {mg : Str → Option Value} {H0 : Hp} {O0 : Addr → Prop} {G : List (V × D)} {i : Nat} {f : Env → R (List D)} (Dd : Ends) (σ : L2.St) (H : Hp) (h : tS K mg W H0 O0 G (sSet i (eL f)) Dd σ H) : tAsg (tN K mg W f) (gName i) Dd σ H := tN_of (m := false) σ H _ (t_set Dd σ H h)
theorem ps_lcD (hc : X.calm = true) (hN : X.N.Nodup) (hy : X.N[i]? = some y) (hyl : X.env.scope.names.lookup y = some .local) (hsw : swapsWith (.ListComp el [⟨tg, iter, ifs, 0⟩] scope pos) (some (.Name y py)) spos.line X.env = pure true) (hi : DI X W m tg iter it) (ok : BlkOk X.N X.env.scope scope own)
    (hg : ∀ (s : Shared) (H : Hp) (C : Addr) (cl : List (Str × Addr)) (fp : List Addr), DG (X.blk s H scope (compEnvC scope cl C X.env) fp) tg ts g) (ht : ∀ (s : Shared) (H : Hp) (C : Addr) (cl : List (Str × Addr)) (fp : List Addr), DTs (X.blk s H scope (compEnvC scope cl C X.env) fp) W0 ifs t)
    (he : ∀ (s : Shared) (H : Hp) (C : Addr) (cl : List (Str × Addr)) (fp : List Addr), DE (X.blk s H scope (compEnvC scope cl C X.env) fp) W0 false el elt) (hto : ∀ j ∈ ts, j ∈ own.map (·.2)) (hs : ∀ x, foldedSetIterable iter X.env x = pure x := by intro _; rfl) {os : List Nat} (hos : own.map (·.2) = os := by rfl) :
    PS X (.Assign [.Name y py] (.ListComp el [⟨tg, iter, ifs, 0⟩] scope pos) spos) (tAsg (tN X.K X.mg W (nLc it g t elt os)) (gName i)) := hos ▸
  PS.imp (ps_setLc (wi := tI X.K X.mg W m it) (g := tG X.K ts g) (tt := tT X.K X.mg W0 t) (te := tD X.K X.mg W0 false elt) hc hN hy hyl hsw hi ok hg ht he hs) fun D σ H h => lc_tN hto σ H _ h
theorem ds_setLc {f : Env → R (List D)} {st : Stmt} (h : PS X st (tAsg (tN X.K X.mg W f) (gName i))) : DS X W B st (sSet i (eL f)) := fun G => PS.imp h t_new'
theorem ds_newLc {f : Env → R (List D)} {st : Stmt} (h : PS X st (tAsg (tN X.K X.mg W f) (gName i))) : DS X W B st (sNew i f) := fun G => PS.imp h t_new
end

/-! ### sorted, max, min of ints; list(..) -/
def sortI (ns : List Int) : List Int := ns.mergeSort fun a b => decide (a ≤ b)
theorem sortI_perm (ns : List Int) : (sortI ns).Perm ns := List.mergeSort_perm _ _
theorem sortI_sorted (ns : List Int) : (sortI ns).Pairwise (· ≤ ·) := by
  have h := List.pairwise_mergeSort (le := fun a b : Int => decide (a ≤ b)) (fun a b c => by simpa using Int.le_trans) (fun a b => by simpa using Int.le_total a b) ns
  exact h.imp (by simp)
theorem sortI_eq {ns l : List Int} (hp : l.Perm ns) (hs : l.Pairwise (· ≤ ·)) : l = sortI ns := PySem.W.ksm_same (hp.trans (sortI_perm ns).symm) hs (sortI_sorted ns)
def maxL : Int → List Int → Int := fun a l => l.foldl max a
def minL : Int → List Int → Int := fun a l => l.foldl min a
theorem maxL_mem : ∀ (l : List Int) (a : Int), maxL a l ∈ a :: l ∧ ∀ y ∈ a :: l, y ≤ maxL a l
  | [], a => by simp [maxL]
  | b :: l, a => by
    obtain ⟨h1, h2⟩ := maxL_mem l (max a b)
    have e : maxL a (b :: l) = maxL (max a b) l := rfl
    rw [e]
    refine ⟨?_, fun y hy => ?_⟩
    · rcases List.mem_cons.mp h1 with h | h
      · rw [h]
        by_cases c : a ≤ b
        · rw [Int.max_eq_right c]; simp
        · rw [Int.max_eq_left (by omega)]; simp
      · exact List.mem_cons_of_mem _ (List.mem_cons_of_mem _ h)
    · have h3 := h2 (max a b) List.mem_cons_self
      rcases List.mem_cons.mp hy with rfl | hy
      · omega
      · rcases List.mem_cons.mp hy with rfl | hy
        · omega
        · exact h2 y (List.mem_cons_of_mem _ hy)
theorem minL_mem : ∀ (l : List Int) (a : Int), minL a l ∈ a :: l ∧ ∀ y ∈ a :: l, minL a l ≤ y
  | [], a => by simp [minL]
  | b :: l, a => by
    obtain ⟨h1, h2⟩ := minL_mem l (min a b)
    have e : minL a (b :: l) = minL (min a b) l := rfl
    rw [e]
    refine ⟨?_, fun y hy => ?_⟩
    · rcases List.mem_cons.mp h1 with h | h
      · rw [h]
        by_cases c : a ≤ b
        · rw [Int.min_eq_left c]; simp
        · rw [Int.min_eq_right (by omega)]; simp
      · exact List.mem_cons_of_mem _ (List.mem_cons_of_mem _ h)
    · have h3 := h2 (min a b) List.mem_cons_self
      rcases List.mem_cons.mp hy with rfl | hy
      · omega
      · rcases List.mem_cons.mp hy with rfl | hy
        · omega
        · exact h2 y (List.mem_cons_of_mem _ hy)
def max1D : List D → R D
  | [.lst xs] => match ints? xs with
    | some (n :: ns) => .ok (.int (maxL n ns))
    | _ => .no
  | _ => .no
def min1D : List D → R D
  | [.lst xs] => match ints? xs with
    | some (n :: ns) => .ok (.int (minL n ns))
    | _ => .no
  | _ => .no
def sortD : List D → R (List D)
  | [.lst xs] => match ints? xs with
    | some ns => .ok ((sortI ns).map D.int)
    | none => .no
  | _ => .no
def listD : List D → R (List D)
  | [.lst xs] => .ok xs
  | [.tup xs] => .ok xs
  | _ => .no
theorem max1D_nx : NX max1D := fun x c n => by unfold max1D; split <;> (try split) <;> simp
theorem min1D_nx : NX min1D := fun x c n => by unfold min1D; split <;> (try split) <;> simp
/-- a built-in that makes a new list -/
def OpL (K : PySem.W.Frag) (r : List V → Hp → VK → Prop) (k : List D → R (List D)) : Prop := ∀ (mg : Str → Option Value) (O : Addr → Prop) (σ : L2.St) (env : Env) (H : Hp) (Q : VK) (ds : List D) (vs : List V),
  RepS K O H σ env → RepMs K O H true ds vs → FinN K mg W0 O σ H Q (k ds) → r vs H Q
def nB (k : List D → R (List D)) (g : Env → R (List D)) : Env → R (List D) := fun s => (g s).bind k
section
variable {K : PySem.W.Frag}
theorem on_max1 : OpN K (rMax K) max1D := fun mg O m σ env H Q ds vs r hx q => by
  unfold max1D at q
  split at q
  · obtain ⟨v, e, h⟩ := repMs1 hx
    split at q
    · rename_i n ns en
      rw [ints?_eq en] at h
      obtain ⟨a, us, e2, h1, h2⟩ := repLst h
      have := repInts h2
      subst this e2
      refine ⟨a, n :: ns, e, .of h1, by simp, fun k hk hy => ?_⟩
      obtain ⟨p1, p2⟩ := maxL_mem ns n
      have := hy _ p1
      have := p2 _ hk
      obtain rfl : k = maxL n ns := by omega
      exact q.val (by simp [RepD])
    · exact q.elim
  · exact q.elim
theorem on_min1 : OpN K (rMin K) min1D := fun mg O m σ env H Q ds vs r hx q => by
  unfold min1D at q
  split at q
  · obtain ⟨v, e, h⟩ := repMs1 hx
    split at q
    · rename_i n ns en
      rw [ints?_eq en] at h
      obtain ⟨a, us, e2, h1, h2⟩ := repLst h
      have := repInts h2
      subst this e2
      refine ⟨a, n :: ns, e, .of h1, by simp, fun k hk hy => ?_⟩
      obtain ⟨p1, p2⟩ := minL_mem ns n
      have := hy _ p1
      have := p2 _ hk
      obtain rfl : k = minL n ns := by omega
      exact q.val (by simp [RepD])
    · exact q.elim
  · exact q.elim
theorem ol_sort : OpL K (rSortedI K) sortD := fun mg O σ env H Q ds vs r hx q => by
  unfold sortD at q
  split at q
  · obtain ⟨v, e, h⟩ := repMs1 hx
    split at q
    · rename_i ns en
      rw [ints?_eq en] at h
      obtain ⟨a, us, e2, h1, h2⟩ := repLst h
      have := repInts h2
      subst this e2
      refine ⟨a, ns, e, .of h1, fun l p hp hs n => ?_⟩
      rw [sortI_eq hp hs]
      exact q.put (RepDs.ofInts _) n
    · exact q.elim
  · exact q.elim
theorem ol_list : OpL K (fun xs H Q => ∃ p ys, xs = [.ref p] ∧ (SqL K H p ys ∨ SqT K H p ys) ∧ ∀ l, H l = none → Q (.ref l) (upd H l (.lst ys))) listD := fun mg O σ env H Q ds vs r hx q => by
  unfold listD at q
  split at q
  · obtain ⟨v, e, h⟩ := repMs1 hx
    obtain ⟨a, us, e2, h1, h2⟩ := repLst h
    subst e2
    exact ⟨a, us, e, .inl (.of h1), fun l n => q.put h2 n⟩
  · obtain ⟨v, e, h⟩ := repMs1 hx
    rw [repTup] at h
    obtain ⟨a, us, e2, h1, h2⟩ := h
    subst e2
    exact ⟨a, us, e, .inr h1, fun l n => q.put h2 n⟩
  · exact q.elim
end
theorem sortD_nx : ∀ x c n, sortD x ≠ .exc c n := fun x c n => by unfold sortD; split <;> (try split) <;> simp
theorem listD_nx : ∀ x c n, listD x ≠ .exc c n := fun x c n => by unfold listD; split <;> simp
theorem FinN.w0 {K : PySem.W.Frag} {mg : Str → Option Value} {W : WX} {O : Addr → Prop} {σ : L2.St} {H : Hp} {Q : VK} {r : R (List D)} (h : ∀ c n, r ≠ .exc c n) (q : FinN K mg W O σ H Q r) : FinN K mg W0 O σ H Q r := by
  cases r with
  | ok d => exact q
  | exc c n => exact absurd rfl (h c n)
  | no => exact q
section
variable {X : Cx} {W : WX} {m : Bool} {e : Expr} {es : List Expr} {g : Env → R (List D)} {pos p : Pos} {x : Str} {id T : String} {r : List V → Hp → VK → Prop} {k : List D → R (List D)}
theorem finAN {K : PySem.W.Frag} {mg : Str → Option Value} {O : Addr → Prop} {H : Hp} {σ : L2.St} {env : Env} {Q : VK} {m1 : Bool} (r : RepS K O H σ env) (q : FinN K mg W O σ H Q ((g env).bind k)) {Q1 : List V → Hp → Prop}
    (hk : ∀ ds vs H1, g env = .ok ds → Same H H1 → RepMs K O H1 m1 ds vs → RepS K O H1 σ env → FinN K mg W O σ H1 Q (k ds) → Q1 vs H1) : tAr K mg W m1 g σ H Q1 := by
  refine ⟨env, O, r, ?_⟩
  revert q hk
  cases g env with
  | ok d => exact fun q hk v H1 s z => hk d v H1 rfl s z (r.same s) (FinN.same s q)
  | exc c n => exact fun q hk => q
  | no => exact fun q hk => q
theorem dn_callB (hc : CallR X (.builtin id) r) (hk : OpL X.K r k) (nx : ∀ x c n, k x ≠ .exc c n) (hg : Gl X x) (hm : X.mg x = none) (hv : bootBuiltins x = some (.builtin id)) (ha : DA X W true (e :: es) g) (hn : x ≠ "__name__" := by decide) (hdb : (x == ("__debug__" : Str)) = false := by decide)
    (he : starEach (e :: es) X.env = (false, eval e X.env) :: starEach es X.env := by rfl) (hpl : (backTo pos (starEach es X.env)).any (·.1) = false := by rfl) : DN X W (.Call (.Name x p) (e :: es) [] pos) (nB k g) :=
  PE.imp (pe_callB hc hg hm hv ha hn hdb he hpl) fun σ H Q ⟨env, O, rs, q⟩ => finAN rs q fun ds vs H1 _ s1 r1 rs1 q1 => hk X.mg O σ env H1 Q ds vs rs1 r1 (q1.w0 (nx ds))
theorem dn_callTy (hc : CallR X (.type T) r) (hk : OpL X.K r k) (nx : ∀ x c n, k x ≠ .exc c n) (hg : Gl X x) (hm : X.mg x = none) (hv : bootBuiltins x = some (.type T)) (ha : DA X W true (e :: es) g) (hn : x ≠ "__name__" := by decide) (hdb : (x == ("__debug__" : Str)) = false := by decide)
    (he : starEach (e :: es) X.env = (false, eval e X.env) :: starEach es X.env := by rfl) (hpl : (backTo pos (starEach es X.env)).any (·.1) = false := by rfl) : DN X W (.Call (.Name x p) (e :: es) [] pos) (nB k g) :=
  PE.imp (pe_callTy hc hg hm hv ha hn hdb he hpl) fun σ H Q ⟨env, O, rs, q⟩ => finAN rs q fun ds vs H1 _ s1 r1 rs1 q1 => hk X.mg O σ env H1 Q ds vs rs1 r1 (q1.w0 (nx ds))
theorem de_max1 (hm : X.mg "max" = none) (hc : X.calm = true) (ha : DA X W true [e] g) (hg : Gl X "max" := by rfl) (he : starEach [e] X.env = (false, eval e X.env) :: starEach [] X.env := by rfl) : DE X W m (.Call (.Name "max" p) [e] [] pos) (eB max1D g) :=
  de_callB (cr_max hc) on_max1 max1D_nx hg hm (by decide +kernel) ha (by decide) (by decide) he rfl
theorem de_min1 (hm : X.mg "min" = none) (hc : X.calm = true) (ha : DA X W true [e] g) (hg : Gl X "min" := by rfl) (he : starEach [e] X.env = (false, eval e X.env) :: starEach [] X.env := by rfl) : DE X W m (.Call (.Name "min" p) [e] [] pos) (eB min1D g) :=
  de_callB (cr_min hc) on_min1 min1D_nx hg hm (by decide +kernel) ha (by decide) (by decide) he rfl
theorem dn_sorted (hm : X.mg "sorted" = none) (ha : DA X W true [e] g) (hg : Gl X "sorted" := by rfl) (he : starEach [e] X.env = (false, eval e X.env) :: starEach [] X.env := by rfl) : DN X W (.Call (.Name "sorted" p) [e] [] pos) (nB sortD g) :=
  dn_callB cr_sortedI ol_sort sortD_nx hg hm (by decide +kernel) ha (by decide) (by decide) he rfl
theorem dn_list (hm : X.mg "list" = none) (ha : DA X W true [e] g) (hg : Gl X "list" := by rfl) (he : starEach [e] X.env = (false, eval e X.env) :: starEach [] X.env := by rfl) : DN X W (.Call (.Name "list" p) [e] [] pos) (nB listD g) :=
  dn_callTy call_list_of ol_list listD_nx hg hm (by decide +kernel) ha (by decide) (by decide) he rfl
end
end DV

namespace DV
open PySem L2 PySem.Spec PyProof.Rows

/-! ### the law's own def: called by the machine's caller, where no repr runs -/
section
variable {P : Program} {w : World} {K : PySem.W.Frag} {mg : Str → Option Value} {base : Heap}
/-- one run of a def -/
theorem run_once {x qual : Str} {st : Stmt} {f : Addr} {fd : FuncData} {N ps : List Str} {k : Nat} {Fb : Env → Out} (Fu : Fun K x qual st f fd) (S : FnScope N ps (defScope st)) (hb : BodyOk P w K mg base N qual st f k True Fb)
    {A : Around} {outer : List PySem.Env} {s : Shared} {H : Hp} {args : Args} {us : List Value} {vs : List V} {Q : VK} {E : XK} (hr : Room (k + 1) A) (hg : A.guards = some []) (e0 : Env0 P w K mg base A outer s H) (bd : BindsTo s fd args (ps.zip us)) (rv : Vals vs us)
    (hs : spD K mg ps.length (fnD N.length ps.length Fb) vs H Q E) : codeAny (model P w) A (.call (.ref f) args) (CR (L2N.CX P w) outer P w H s Q E) s := by
  obtain ⟨oc, od, kV, doc, pm, an, cdv, ct, osl, rfl, lk, hcd⟩ := Fu.ex
  have hkeep : ∀ b o, base.get? b = some o → s.heap.get? b = some o := fun b o e => (e0.bs b o e).1
  have KX : K.In s.heap := e0.mod.kin.keeps hkeep
  have hkd : ∀ y ∈ ps.zip us, (defScope st).names.lookup y.1 = some .local ∨ ((defScope st).names.lookup y.1 = some .cell ∧ ((cellsFrom (s.heap.objs.size + 1) (defScope st).names []).lookup y.1).isSome = true) := by
    rintro ⟨n, v⟩ hy
    have hn : n ∈ ps := (List.of_mem_zip hy).1
    exact (S.par n hn).imp id fun q => ⟨q, PySem.W.cellsFrom_some _ _ _ (.inl q)⟩
  refine codeAny_call_function hr.depth (KX _ _ lk) rfl S.co S.gen rfl (PySem.W.codeRec_of KX hcd) (bd _ _ _ _ (wpAny_newFunctionEnv_cells S.kind hkd fun env he s1 ic => ?_))
  subst he
  refine ⟨(e0.mod.nolimit.keeps hkeep).keeps ic.toInCall.keep, codeAny_func ?_⟩
  obtain ⟨t, ht, hq⟩ := body_end hb cdv A outer s H vs Q E (hr.deeper _) (fun _ => hg) hs
  have J : Inv (cxOf (L2N.CX P w) P w K mg base N qual (defScope st) f cdv A outer s H E) [] (L2.start N vs) H s1 := inv_start S hr.hd e0 hs.1 rv ic
  refine wpAny_mono (ht.run [] s1 (L2.start N vs) H _ J hq) (fun fl s' hsp => ?_) fun e s' he => he
  have last : ∀ {σ' : L2.St} {H' : Hp} {v : V} {u : Value}, Inv (cxOf (L2N.CX P w) P w K mg base N qual (defScope st) f cdv A outer s H E) [] σ' H' s' → RelV v u → Q v H' → CE outer P w H s Q u s' :=
    fun J' ru q => ⟨_, _, J'.os, J'.bare, J'.base, J'.hok, ru, q⟩
  cases fl with
  | next => obtain ⟨σ', H', J', q⟩ := hsp; exact last (v := .non) (u := Value.none) J' rfl q
  | ret u => obtain ⟨v, σ', H', J', ru, q⟩ := hsp; exact last J' ru q
  | brk =>
    obtain ⟨_, _, _, z⟩ := hsp
    exact False.elim z
  | cont =>
    obtain ⟨_, _, _, z⟩ := hsp
    exact False.elim z

theorem ints_scr {ns : List Int} {vs : List Value} (h : IntsAre vs ns) : Vals (ns.map V.int) vs := L2.vals_ints h

/-- what the law's def reckons of a script: True -/
def Holds1 (N : Nat) (Fb : Env → Out) (n : Nat) : Prop := ∀ ns : List Int, ns.length ≤ n → ∃ F, fnD N 1 Fb [.scr ns] = F ∧ F.R = .ok (.bl true)

theorem law_run {x qual : Str} {st : Stmt} {f a : Addr} {fd : FuncData} {N : List Str} {y : Str} {k n : Nat} {Fb : Env → Out} {mb : Str → Option Value} {s : Shared} {vs : List Value} {ns : List Int} (Fu : Fun K x qual st f fd) (S : FnScope N [y] (defScope st)) (hr : Room (k + 1) callerA)
    (hb : ∀ base : Heap, K.In base → base.Ns mainGlobals mg → BodyOk P w K mg base N qual st f k True Fb) (hl : Holds1 N.length Fb n) (hn : n ≤ sizeLine) (bd : ∀ (s : Shared) (u : Value), BindsTo s fd ⟨[u], []⟩ [(y, u)])
    (KX : K.In s.heap) (g1 : s.heap.Ns mainGlobals mg) (g2 : s.heap.Ns builtinsNs mb) (g3 : ∀ x : Str, x ≠ "__name__" → mb x = bootBuiltins x) (g4 : s.heap.NoLimit) (g5 : s.gens = #[])
    (ha : s.heap.get? a = some { cls := .type "list", data := .seq vs.toArray }) (hi : IntsAre vs ns) (hz : ns.length ≤ n) :
    codeAny (model P w) callerA (.call (.ref f) ⟨[.ref a], []⟩) (fun r s' => r = .ok (.ret (.bool true)) ∧ OldK s.heap s'.heap ∧ s'.os = s.os ∧ AllBare s'.gens) s := by
  -- the abstract heap knows the script at most
  have go : ∀ H : Hp, ScrO K H a (ns.map V.int) → (∀ b u, H b = some u → b = a ∧ K.lookup a = none ∧ ∃ o xs, u = .frz o (.lst xs)) → HOk P w H s.heap →
      codeAny (model P w) callerA (.call (.ref f) ⟨[.ref a], []⟩) (fun r s' => r = .ok (.ret (.bool true)) ∧ OldK s.heap s'.heap ∧ s'.os = s.os ∧ AllBare s'.gens) s := by
    intro H hS hA hok
    have free_dict : ∀ {b : Addr} {o : Obj} {es : Array DictEntry} {ep : Nat}, s.heap.get? b = some o → o.data = .dict es ep → H b = none := by
      intro b o es ep e d
      cases q : H b with
      | none => rfl
      | some u =>
        obtain ⟨rfl, _⟩ := hA b u q
        rw [ha] at e
        cases e
        exact (nomatch d)
    have nsH : ∀ {b : Addr} {m : Str → Option Value}, s.heap.Ns b m → (hidT s.heap H).Ns b m := by
      rintro b m ⟨o, es, ep, e, d, r⟩
      exact ⟨o, es, ep, hidT_get e (free_dict e d), d, r⟩
    have kH : K.In (hidT s.heap H) := fun b o e => by
      refine hidT_get (KX b o e) ?_
      cases q : H b with
      | none => rfl
      | some u =>
        obtain ⟨rfl, hk, _⟩ := hA b u q
        rw [hk] at e
        cases e
    obtain ⟨mc, n1, n2⟩ := g4
    have modH : Mod K mg (hidT s.heap H) := ⟨kH, nsH g1, ⟨mb, nsH g2, g3⟩, ⟨mc, nsH n1, n2⟩⟩
    have e0 : Env0 P w K mg (hidT s.heap H) callerA [] s H :=
      { frames := rfl, mod := modH, bs := fun b o e => of_hidT e, bsz := Nat.le_of_eq (hidT_size _ _), funs := trivial, frf := fun b hb => (nomatch hb), hok := hok, bare := .of_eq g5 }
    obtain ⟨F, eF, eR⟩ := hl ns hz
    have spl : spD K mg 1 (fnD N.length 1 Fb) [.ref a] H (fun v _ => v = .bl true) fun _ _ _ => False := by
      refine ⟨rfl, fun _ => False, [.scr ns], fun _ z => z.elim, .cons (by simp only [RepD]; exact ⟨a, rfl, hS⟩) .nil, ?_⟩
      rw [eF]
      revert eR
      cases F with
      | val d =>
        intro eR v H' _ r
        cases eR
        simpa [RepD] using r
      | ol xs => intro eR; cases eR
      | od xs => intro eR; cases eR
      | exc c n => intro eR; cases eR
      | no => intro eR; cases eR
    refine codeAny_mono (run_once (us := [.ref a]) (vs := [.ref a]) (outer := []) Fu S (hb _ kH (nsH g1)) hr rfl e0 (bd s (.ref a)) (.cons rfl .nil) spl) fun r s' hq => ?_
    cases r with
    | error e =>
      obtain ⟨_, _, _, _, _, _, _, _, _, _, _, _, z⟩ := hq
      exact z.elim
    | ok fl =>
      cases fl with
      | ret u =>
        obtain ⟨v, H', os, bare, un, hok', ru, q⟩ := hq
        have q : v = .bl true := q
        subst q
        obtain rfl : u = Value.bool true := ru
        refine ⟨rfl, OldK.of_keep fun b o e => ?_, os, bare⟩
        cases q : H b with
        | none => exact un.keep b o e q (fun z => nomatch z) (by simp)
        | some u =>
          obtain ⟨rfl, _, o', xs, rfl⟩ := hA b u q
          obtain ⟨e1, _⟩ := hok b _ q
          obtain ⟨e2, _⟩ := hok' b _ (un.frzs b o' _ q)
          rw [e] at e1
          cases e1
          exact e2
      | next => exact hq.elim
      | brk => exact hq.elim
      | cont => exact hq.elim
  have rv := ints_scr hi
  have hlen : ns.length ≤ sizeLine := Nat.le_trans hz hn
  cases hk : K.lookup a with
  | some o =>
    have e := KX a o hk
    rw [ha] at e
    cases e
    refine go (fun _ => none) (.inr (.inr ⟨_, vs.toArray, _, hk, rfl, rfl, rfl, ?_, by simpa using rv⟩)) (fun b u z => nomatch z) fun b u z => nomatch z
    rw [List.size_toArray, hi.length]; exact hlen
  | none =>
    refine go (fun b => if b = a then some (.frz { cls := .type "list", data := .seq vs.toArray } (.lst (ns.map V.int))) else none) (.inl ⟨_, if_pos rfl⟩) (fun b u z => ?_) fun b u z => ?_
    · have z : (if b = a then some (HO.frz { cls := .type "list", data := .seq vs.toArray } (.lst (ns.map V.int))) else none) = some u := z
      split at z
      · rename_i hb
        cases z
        exact ⟨hb, hk, _, _, rfl⟩
      · cases z
    · have z : (if b = a then some (HO.frz { cls := .type "list", data := .seq vs.toArray } (.lst (ns.map V.int))) else none) = some u := z
      split at z
      · rename_i hb
        cases z
        subst hb
        exact ⟨ha, by rw [List.length_map]; exact hlen, vs, _, rv, ha⟩
      · cases z
end
/-- the end of a law's proof: behind the head, from the bodies and the law reckoned -/
theorem law_end {l : PySem.W.OpenLaw} {n k : Nat} {q : Program} {loose : List Str} {XP : (Str → Option Value) → Heap → Prop} {YP : World → Heap → Prop} {d : DefRec} {K : Params → PySem.W.Frag} {N : List Str} {x y qual : Str} {st : Stmt} {Fb : Env → Out}
    (hn : l.most = some n) (hn2 : n ≤ sizeLine) (hdf : d.params.defaults = []) (hr : Room (k + 1) callerA) (S : FnScope N [y] (defScope st)) (hY : ∀ (w : World) (h : Heap), YP w h → (K w.params).In h) (hl : Holds1 N.length Fb n)
    (F : ∀ (w : World) (mg : Str → Option Value) (fa : Addr) (h : Heap), (K w.params).In h → h.Ns mainGlobals mg → mg d.name = some (.ref fa) →
      ∃ fd : FuncData, (∀ (s : Shared) (u : Value), BindsTo s fd ⟨[u], []⟩ [(y, u)]) ∧ Fun (K w.params) x qual st fa fd ∧
        ∀ base : Heap, (K w.params).In base → base.Ns mainGlobals mg → BodyOk l.prog w (K w.params) mg base N qual st fa k True Fb) :
    PySem.W.WalkO q loose XP YP l.row.toRowW d [] (fun f vs => PySem.call f vs) := by
  refine Att.attach_call hn hdf fun w s₀ s₁ mg mb fa o pm cd doc a vs ns G Y ho hd hcd hmg hobj hints hlen hg => ?_
  have KX := hY w _ Y
  obtain ⟨fd, bd, Fu, hb⟩ := F w mg fa _ KX G.T.g hmg
  exact law_run Fu S hr hb hl hn2 bd KX G.T.g G.T.b G.T.builtins G.T.nolimit hg hobj hints hlen
end DV

namespace DV
open PySem L2 PySem.Spec PyProof.Rows

/-! ### a, b = e1, e2 with new lists among the values -/
section
variable {K : PySem.W.Frag} {O O' : Addr → Prop} {H H' : Hp}
mutual
theorem RepD.more (n : ∀ a, O' a → O a ∨ H a = none) : ∀ (d : D) (v : V), RepD K O H d v → RepD K O' H d v
  | .non, _, h => h
  | .bl _, _, h => h
  | .int _, _, h => h
  | .str _, _, h => h
  | .lst xs, v, h => by
    simp only [RepD] at h ⊢
    obtain ⟨a, vs, e, ho, hs, hr⟩ := h
    refine ⟨a, vs, e, fun z => (n a z).elim ho fun z => ?_, hs, RepDs.more n xs vs hr⟩
    rw [z] at hs; cases hs
  | .tup xs, v, h => by
    simp only [RepD] at h ⊢
    obtain ⟨a, vs, e, hs, hr⟩ := h
    exact ⟨a, vs, e, hs, RepDs.more n xs vs hr⟩
  | .dct kvs, v, h => by
    simp only [RepD] at h ⊢
    obtain ⟨a, vs, e, ho, hs, hr⟩ := h
    refine ⟨a, vs, e, fun z => (n a z).elim ho fun z => ?_, hs, RepKs.more n kvs vs hr⟩
    rcases hs with h1 | ⟨o, h1⟩
    · rw [z] at h1; cases h1
    · rw [z] at h1; cases h1
  | .scr ns, v, h => by
    simp only [RepD] at h ⊢
    exact h
theorem RepDs.more (n : ∀ a, O' a → O a ∨ H a = none) : ∀ (ds : List D) (vs : List V), RepDs K O H ds vs → RepDs K O' H ds vs
  | [], _, h => by simp only [RepDs] at h ⊢; exact h
  | x :: xs, vs, h => by
    simp only [RepDs] at h ⊢
    obtain ⟨v, r, e, h1, h2⟩ := h
    exact ⟨v, r, e, RepD.more n x v h1, RepDs.more n xs r h2⟩
theorem RepKs.more (n : ∀ a, O' a → O a ∨ H a = none) : ∀ (ds : List (Key × D)) (vs : List (Key × V)), RepKs K O H ds vs → RepKs K O' H ds vs
  | [], _, h => by simp only [RepKs] at h ⊢; exact h
  | (c, x) :: xs, vs, h => by
    simp only [RepKs] at h ⊢
    obtain ⟨v, r, e, h1, h2⟩ := h
    exact ⟨v, r, e, RepD.more n x v h1, RepKs.more n xs r h2⟩
end
/-- O' is O and what is new since H -/
structure Mo (O O' : Addr → Prop) (H H' : Hp) : Prop where
  sub : ∀ a, O a → O' a
  new : ∀ a, O' a → O a ∨ H a = none
  trk : ∀ a, O' a → H' a ≠ none
theorem RepV.more (m : Mo O O' H H') (s : Same H H') {sv : SV} {v : V} (h : RepV K O H sv v) : RepV K O' H' sv v := by
  cases sv with
  | d x => exact (RepD.more m.new x v h).same s
  | ex a dx k => exact ⟨h.1, s _ _ h.2⟩
  | op w => exact h
  | ol xs =>
    obtain ⟨a, vs, e, ho, h1, h2⟩ := h
    exact ⟨a, vs, e, m.sub _ ho, s _ _ h1, (RepDs.more m.new _ _ h2).same s⟩
  | od xs =>
    obtain ⟨a, vs, e, ho, h1, h2⟩ := h
    exact ⟨a, vs, e, m.sub _ ho, s _ _ h1, (RepKs.more m.new _ _ h2).same s⟩
theorem RepS.more {σ : L2.St} {env : Env} (m : Mo O O' H H') (s : Same H H') (h : RepS K O H σ env) : RepS K O' H' σ env :=
  ⟨h.len, fun i sv e => let ⟨v, e1, r⟩ := h.get i sv e; ⟨v, e1, r.more m s⟩, h.inj, m.trk⟩
theorem RepS.mo {σ : L2.St} {env : Env} (h : RepS K O H σ env) : Mo O O H H := ⟨fun _ z => z, fun _ z => .inl z, h.trk⟩
def RepVs (K : PySem.W.Frag) (O : Addr → Prop) (H : Hp) : List SV → List V → Prop
  | [], vs => vs = []
  | x :: xs, vs => ∃ v r, vs = v :: r ∧ RepV K O H x v ∧ RepVs K O H xs r
theorem RepVs.more (m : Mo O O' H H') (s : Same H H') : ∀ {xs : List SV} {vs : List V}, RepVs K O H xs vs → RepVs K O' H' xs vs
  | [], _, h => h
  | x :: xs, vs, ⟨v, r, e, h1, h2⟩ => ⟨v, r, e, h1.more m s, RepVs.more m s h2⟩
theorem RepVs.length : ∀ {xs : List SV} {vs : List V}, RepVs K O H xs vs → xs.length = vs.length
  | [], _, h => by rw [h]; rfl
  | x :: xs, vs, ⟨v, r, e, h1, h2⟩ => by rw [e, List.length_cons, List.length_cons, RepVs.length h2]
/-- p is the reference of an own one among them -/
def OwnIn (p : Addr) : List SV → List V → Prop
  | sv :: svs, v :: vs => (sv.own = true ∧ v = .ref p) ∨ OwnIn p svs vs
  | _, _ => False
/-- the own ones are new since H, and apart -/
def News (H : Hp) : List SV → List V → Prop
  | sv :: svs, v :: vs => (sv.own = true → ∃ p, v = .ref p ∧ H p = none ∧ ¬ OwnIn p svs vs) ∧ News H svs vs
  | _, _ => True
theorem OwnIn.none : ∀ {svs : List SV} {vs : List V} {p : Addr}, News H svs vs → OwnIn p svs vs → H p = none
  | [], _, _, _, h => h.elim
  | _ :: _, [], _, _, h => h.elim
  | sv :: svs, v :: vs, p, ⟨n1, n2⟩, .inl ⟨o, e⟩ => by
    obtain ⟨q, e1, hq, _⟩ := n1 o
    subst e
    cases e1; exact hq
  | sv :: svs, v :: vs, p, ⟨n1, n2⟩, .inr h => OwnIn.none n2 h
theorem News.back (s : Same H H') : ∀ {svs : List SV} {vs : List V}, News H' svs vs → News H svs vs
  | [], _, _ => trivial
  | _ :: _, [], _ => trivial
  | sv :: svs, v :: vs, ⟨n1, n2⟩ => ⟨fun o => let ⟨p, e, h, k⟩ := n1 o; ⟨p, e, Same.back s h, k⟩, News.back s n2⟩
end
def FinW (K : PySem.W.Frag) (mg : Str → Option Value) (W : WX) (O : Addr → Prop) (σ : L2.St) (H : Hp) (Q : List V → Hp → Prop) : R (List SV) → Prop
  | .ok svs => ∀ vs H' O', Same H H' → Mo O O' H H' → RepVs K O' H' svs vs → News H svs vs → Q vs H'
  | .exc c n => ∀ C dx H', mg c = some (.ref C) → Same H H' → H' dx = some (.xd [(("at" : Str), .int n)]) → W (.ref C) (some dx) σ H'
  | .no => False
def tW (K : PySem.W.Frag) (mg : Str → Option Value) (W : WX) (f : Env → R (List SV)) : TA := fun σ H Q => ∃ env O, RepS K O H σ env ∧ FinW K mg W O σ H Q (f env)
def DWs (X : Cx) (W : WX) (es : List Expr) (f : Env → R (List SV)) : Prop := PA X es (tW X.K X.mg W f)
def wNil : Env → R (List SV) := fun _ => .ok []
def wCons (f : Env → R D) (g : Env → R (List SV)) : Env → R (List SV) := fun s => (f s).bind fun x => (g s).bind fun xs => .ok (.d x :: xs)
def wNew (f : Env → R (List D)) (g : Env → R (List SV)) : Env → R (List SV) := fun s => (f s).bind fun x => (g s).bind fun xs => .ok (.ol x :: xs)
section
variable {X : Cx} {W : WX} {e : Expr} {es : List Expr} {f : Env → R D} {fn : Env → R (List D)} {g : Env → R (List SV)}
theorem dw_nil : DWs X W [] wNil := PA.imp pa_nil fun σ H Q ⟨env, O, rs, q⟩ => q [] H O (Same.refl _) rs.mo rfl trivial
theorem dw_cons (he : DE X W false e f) (hr : DWs X W es g) (hs : starEach (e :: es) X.env = (false, eval e X.env) :: starEach es X.env := by rfl) : DWs X W (e :: es) (wCons f g) := PA.imp (pa_cons he hr hs) fun σ H Q ⟨env, O, rs, q⟩ => by
  unfold wCons at q
  refine ⟨env, O, rs, ?_⟩
  revert q
  cases f env with
  | exc c n => exact fun q => q
  | no => exact fun q => q
  | ok d =>
    intro q v H1 s1 r1
    have r1 : RepD X.K O H1 d v := r1
    rw [R.bind_ok] at q
    refine ⟨env, O, rs.same s1, ?_⟩
    revert q
    cases g env with
    | exc c n => exact fun q C dx H2 e2 s2 a => q C dx H2 e2 (s1.trans s2) a
    | no => exact fun q => q
    | ok svs =>
      intro q vs H2 O2 s2 m2 r2 n2
      have n3 := News.back s1 n2
      exact q _ H2 O2 (s1.trans s2) ⟨m2.sub, fun a z => (m2.new a z).imp id (Same.back s1), m2.trk⟩ ⟨v, vs, rfl, (RepD.more m2.new d v r1).same s2, r2⟩ ⟨fun o => (by cases o), n3⟩
theorem dw_new (he : DN X W e fn) (hr : DWs X W es g) (hs : starEach (e :: es) X.env = (false, eval e X.env) :: starEach es X.env := by rfl) : DWs X W (e :: es) (wNew fn g) := PA.imp (pa_cons he hr hs) fun σ H Q ⟨env, O, rs, q⟩ => by
  unfold wNew at q
  refine ⟨env, O, rs, ?_⟩
  revert q
  cases fn env with
  | exc c n => exact fun q => q
  | no => exact fun q => q
  | ok xs =>
    intro q p us H1 s1 np hp r1
    rw [R.bind_ok] at q
    have m1 : Mo O (fun a => O a ∨ a = p) H H1 := ⟨fun a z => .inl z, fun a z => z.imp id fun e => by rw [e]; exact np, fun a z => z.elim (fun z => (rs.same s1).trk a z) fun e => by rw [e, hp]; simp⟩
    refine ⟨env, fun a => O a ∨ a = p, rs.more m1 s1, ?_⟩
    revert q
    cases g env with
    | exc c n => exact fun q C dx H2 e2 s2 a => q C dx H2 e2 (s1.trans s2) a
    | no => exact fun q => q
    | ok svs =>
      intro q vs H2 O2 s2 m2 r2 n2
      have n3 := News.back s1 n2
      refine q _ H2 O2 (s1.trans s2) ⟨fun a z => m2.sub a (.inl z), fun a z => (m2.new a z).elim (m1.new a) fun z => .inr (Same.back s1 z), m2.trk⟩ ⟨.ref p, vs, rfl, ⟨p, us, rfl, m2.sub p (.inr rfl), s2 _ _ hp, (RepDs.more m2.new _ _ r1).same s2⟩, r2⟩ ⟨fun _ => ⟨p, rfl, np, fun z => ?_⟩, n3⟩
      have := OwnIn.none n2 z
      rw [hp] at this; cases this
end

/-! stores in order -/
def setN {α : Type} : List Nat → List α → List (Option α) → List (Option α)
  | i :: is, v :: vs, s => setN is vs (s.set i (some v))
  | _, _, s => s
def okN : List Nat → Nat → Bool
  | [], _ => true
  | i :: is, n => decide (i < n) && okN is n
theorem RepS.puts {K : PySem.W.Frag} {O : Addr → Prop} {H H0 : Hp} : ∀ (is : List Nat) (svs : List SV) (vs : List V) {σ : L2.St} {env : Env}, RepS K O H σ env → RepVs K O H svs vs → News H0 svs vs → svs.length = is.length → okN is env.length = true →
    (∀ (j : Nat) su p, env[j]? = some (some su) → su.own = true → σ[j]? = some (some (.ref p)) → ¬ OwnIn p svs vs) →
    RepS K O H (setN is vs σ) (setN is svs env) ∧ ∀ (j : Nat) su p, (setN is svs env)[j]? = some (some su) → su.own = true → (setN is vs σ)[j]? = some (some (.ref p)) → OwnIn p svs vs ∨ (env[j]? = some (some su) ∧ σ[j]? = some (some (.ref p)))
  | [], svs, vs, σ, env, r, rv, nw, hl, hk, ap => by
    have : svs = [] := List.length_eq_zero_iff.mp hl
    subst this
    have : vs = [] := rv
    subst this
    exact ⟨r, fun j su p e o h => .inr ⟨e, h⟩⟩
  | i :: is, [], vs, σ, env, r, rv, nw, hl, hk, ap => by cases hl
  | i :: is, sv :: svs, vs, σ, env, r, rv, nw, hl, hk, ap => by
    obtain ⟨v, us, e, r1, r2⟩ := rv
    subst e
    simp only [okN, Bool.and_eq_true, decide_eq_true_eq] at hk
    have hi : i < env.length := hk.1
    have hs : i < σ.length := by rw [r.len]; exact hi
    have step : RepS K O H (σ.set i (some v)) (env.set i (some sv)) := by
      refine ⟨by simp [r.len], fun j su e => ?_, fun j k a su sw e1 e2 o1 o2 h1 h2 => ?_, r.trk⟩
      · by_cases hj : i = j
        · subst hj
          rw [List.getElem?_set_self hi] at e
          cases e
          exact ⟨v, List.getElem?_set_self hs, r1⟩
        · rw [List.getElem?_set_ne hj] at e
          obtain ⟨w, e1, r3⟩ := r.get j su e
          exact ⟨w, by rw [List.getElem?_set_ne hj]; exact e1, r3⟩
      · by_cases hj : i = j
        · by_cases hk : i = k
          · exact hj.symm.trans hk
          · exfalso
            subst hj
            rw [List.getElem?_set_self hs] at h1
            rw [List.getElem?_set_self hi] at e1
            cases e1
            cases h1
            rw [List.getElem?_set_ne hk] at e2 h2
            exact ap k sw a e2 o2 h2 (.inl ⟨o1, rfl⟩)
        · by_cases hk : i = k
          · exfalso
            subst hk
            rw [List.getElem?_set_self hs] at h2
            rw [List.getElem?_set_self hi] at e2
            cases e2
            cases h2
            rw [List.getElem?_set_ne hj] at e1 h1
            exact ap j su a e1 o1 h1 (.inl ⟨o2, rfl⟩)
          · rw [List.getElem?_set_ne hj] at e1 h1
            rw [List.getElem?_set_ne hk] at e2 h2
            exact r.inj j k a su sw e1 e2 o1 o2 h1 h2
    obtain ⟨g1, g2⟩ := RepS.puts is svs us step r2 nw.2 (by simpa using hl) (by simpa using hk.2) fun j su p e o h z => by
      by_cases hj : i = j
      · subst hj
        rw [List.getElem?_set_self hs] at h
        rw [List.getElem?_set_self hi] at e
        cases e
        cases h
        obtain ⟨q, e1, _, k⟩ := nw.1 o
        cases e1
        exact k z
      · rw [List.getElem?_set_ne hj] at e h
        exact ap j su p e o h (.inr z)
    refine ⟨g1, fun j su p e o h => ?_⟩
    rcases g2 j su p e o h with z | ⟨e1, h1⟩
    · exact .inl (.inr z)
    · by_cases hj : i = j
      · subst hj
        rw [List.getElem?_set_self hs] at h1
        rw [List.getElem?_set_self hi] at e1
        cases e1
        cases h1
        exact .inl (.inl ⟨o, rfl⟩)
      · rw [List.getElem?_set_ne hj] at e1 h1
        exact .inr ⟨e1, h1⟩
/-- what a statement that stores values in order asks -/
def tStore (is : List Nat) (ta : TA) : TS := fun Dd σ H => ta σ H fun vs H1 => vs.length = is.length ∧ ∀ H2, Same H1 H2 → Dd.nx (setN is vs σ) H2
def sStore (is : List Nat) (ws : Env → R (List SV)) : Env → Out := fun s => match ws s with
  | .ok svs => if svs.length = is.length ∧ okN is s.length = true then .nx (setN is svs s) else .no
  | .exc c n => .exc c n s
  | .no => .no
section
variable {X : Cx} {W : WX} {B : Ent} {st : Stmt} {es : List Expr} {ws : Env → R (List SV)} {is : List Nat}
theorem ds_store (hp : ∀ t, PA X es (tW X.K X.mg W t) → PS X st (tStore is (tW X.K X.mg W t))) (ha : DWs X W es ws) : DS X W B st (sStore is ws) := fun G => PS.imp (hp _ ha) fun Dd σ H ⟨env, h, q⟩ => by
  have h' := h
  obtain ⟨O, rs, z, s0, g, nn⟩ := h'
  unfold sStore at q
  refine ⟨env, O, rs, ?_⟩
  revert q
  cases ws env with
  | exc c n => exact fun q C dx H1 e1 s1 a => q C dx σ H1 e1 (h.same s1) a
  | no => exact fun q => q.elim
  | ok svs =>
    intro q vs H1 O1 s1 m1 r1 n1
    dsimp only at q
    split at q
    · rename_i hk
      refine ⟨by rw [← r1.length]; exact hk.1, fun H2 s2 => ?_⟩
      have s12 := s1.trans s2
      have m2 : Mo O1 O1 H1 H2 := ⟨fun _ z => z, fun _ z => .inl z, fun a z e => m1.trk a z (Same.back s2 e)⟩
      have m12 : Mo O O1 H H2 := ⟨m1.sub, m1.new, m2.trk⟩
      obtain ⟨g1, g2⟩ := RepS.puts is svs vs (rs.more m12 s12) (r1.more m2 s2) n1 hk.1 hk.2 fun j su p e o hh zz => by
        have a := OwnIn.none n1 zz
        obtain ⟨w, e1, rv⟩ := rs.get j su e
        rw [hh] at e1; cases e1
        cases su with
        | d x => cases o
        | ex a dx k => cases o
        | op w => cases o
        | ol ys =>
          obtain ⟨b, us, eb, ho, h1, h2⟩ := rv
          cases eb
          rw [a] at h1; cases h1
        | od ys =>
          obtain ⟨b, us, eb, ho, h1, h2⟩ := rv
          cases eb
          rw [a] at h1; cases h1
      refine q _ _ ⟨O1, g1, fun a ha => m1.sub a (z a ha), s0.trans s12, fun p hp => (RepD.more m1.new _ _ (g p hp)).same s12, fun j su p e o hh => ?_⟩
      rcases g2 j su p e o hh with zz | ⟨e1, h1⟩
      · exact Same.back s0 (OwnIn.none n1 zz)
      · exact nn j su p e1 o h1
    · exact q.elim
theorem tW_mono {K : PySem.W.Frag} {mg : Str → Option Value} {f : Env → R (List SV)} {σ : L2.St} {H : Hp} {Q Q' : List V → Hp → Prop} (i : ∀ vs H', Q vs H' → Q' vs H') (h : tW K mg W f σ H Q) : tW K mg W f σ H Q' := by
  obtain ⟨env, O, rs, q⟩ := h
  refine ⟨env, O, rs, ?_⟩
  revert q
  cases f env with
  | exc c n => exact fun q => q
  | no => exact fun q => q
  | ok svs => exact fun q vs H1 O1 s1 m1 r1 n1 => i _ _ (q vs H1 O1 s1 m1 r1 n1)
/-- the words of the hand layer, as stores in order -/
theorem store2 {i j : Nat} (hp : ∀ t, PA X es t → PS X st (tPar i j t)) : ∀ t, PA X es (tW X.K X.mg W t) → PS X st (tStore [i, j] (tW X.K X.mg W t)) := fun t h => by
  refine PS.imp (hp _ h) fun Dd σ H q => tW_mono (fun vs H1 ⟨hl, k⟩ => ?_) q
  match vs, hl with
  | [v, w], _ => exact ⟨v, w, rfl, k H1 (Same.refl _)⟩
theorem store3 {i j l : Nat} (hp : ∀ t, PA X es t → PS X st (tPar3 i j l t)) : ∀ t, PA X es (tW X.K X.mg W t) → PS X st (tStore [i, j, l] (tW X.K X.mg W t)) := fun t h => by
  refine PS.imp (hp _ h) fun Dd σ H q => tW_mono (fun vs H1 ⟨hl, k⟩ => ?_) q
  match vs, hl with
  | [u, v, w], _ => exact ⟨u, v, w, rfl, k H1 (Same.refl _)⟩
/-- names as targets, in order -/
def tNames (is : List Nat) : TGs := fun vs σ H Q => vs.length = is.length ∧ Q (setN is vs σ) H
theorem pn_nil : PGs X [] (tNames []) := PGs.imp pgs_nil fun vs σ H Q ⟨h, q⟩ => by
  have : vs = [] := List.length_eq_zero_iff.mp h
  subst this
  exact ⟨rfl, q⟩
theorem pn_cons {e : Expr} {es : List Expr} {i : Nat} {is : List Nat} (h1 : PG X e (gName i)) (h2 : PGs X es (tNames is)) (hs : (assignEach (e :: es) X.env).map (·.2) = assign e X.env :: (assignEach es X.env).map (·.2) := by rfl) : PGs X (e :: es) (tNames (i :: is)) := PGs.imp (pgs_cons h1 h2 hs) fun vs σ H Q ⟨h, q⟩ => by
  match vs, h, q with
  | v :: r, h, q => exact ⟨v, r, rfl, by simpa using h, q⟩
theorem storeT {tgs : List Expr} {k k2 : Nat} {pt pe : Pos} (hc : X.calm = true) (hg : PGs X tgs (tNames is)) (hz : is.length ≤ 1000)
    (hp : ∀ t u, PE X (.Tuple es k2 pe) t → PG X (.Tuple tgs k pt) u → PS X st (tAsg t u)) (hn : (assignEach tgs X.env).length = is.length := by rfl) (hst : (assignEach tgs X.env).findIdx? (·.1) = none := by rfl) : ∀ t, PA X es (tW X.K X.mg W t) → PS X st (tStore is (tW X.K X.mg W t)) := fun t h => by
  refine PS.imp (hp _ _ (pe_tup h) (pg_tup hc hg hn hst)) fun Dd σ H q => ?_
  refine tW_mono (fun vs H1 ⟨hl, k⟩ => ?_) q
  refine ⟨by rw [hl]; exact lim_le (by omega), fun p np => ?_⟩
  refine ⟨p, vs, rfl, .inl (.inl ?_), hl, hl, k _ (Same.new' np)⟩
  exact upd_same
end
end DV

namespace DV
open PySem L2 PySem.Spec PyProof.Rows

/-! ### reckoning: what the words of the layer give, for simp -/
def gv : Option (Option SV) → R D
  | some (some (.d x)) => .ok x
  | _ => .no
def gvo : Option (Option SV) → R D
  | some (some (.d x)) => .ok x
  | some (some (.ol xs)) => .ok (.lst xs)
  | some (some (.od xs)) => .ok (.dct xs)
  | _ => .no
@[simp] theorem gv_d (x : D) : gv (some (some (.d x))) = .ok x := Eq.trans rfl rfl
@[simp] theorem gvo_d (x : D) : gvo (some (some (.d x))) = .ok x := Eq.trans rfl rfl
@[simp] theorem gvo_ol (x : List D) : gvo (some (some (.ol x))) = .ok (.lst x) := Eq.trans rfl rfl
@[simp] theorem gvo_od (x : List (Key × D)) : gvo (some (some (.od x))) = .ok (.dct x) := Eq.trans rfl rfl
@[simp] theorem eVar_ap (i : Nat) (s : Env) : eVar i s = gv s[i]? := Eq.trans rfl rfl
@[simp] theorem eOwn_ap (i : Nat) (s : Env) : eOwn i s = gvo s[i]? := Eq.trans rfl rfl
@[simp] theorem eC_ap (d : D) (s : Env) : eC d s = .ok d := Eq.trans rfl rfl
@[simp] theorem e2_ap (k : D → D → R D) (f g : Env → R D) (s : Env) : e2 k f g s = (f s).bind fun x => (g s).bind fun y => k x y := Eq.trans rfl rfl
@[simp] theorem e1_ap (k : D → R D) (f : Env → R D) (s : Env) : e1 k f s = (f s).bind k := Eq.trans rfl rfl
@[simp] theorem addD_int (i j : Int) : addD (.int i) (.int j) = .ok (.int (i + j)) := Eq.trans rfl rfl
@[simp] theorem addD_lst (xs ys : List D) : addD (.lst xs) (.lst ys) = if xs.length + ys.length ≤ 1000000 then .ok (.lst (xs ++ ys)) else .no := Eq.trans rfl rfl
@[simp] theorem addD_str (xs ys : Str) : addD (.str xs) (.str ys) = if xs.length + ys.length ≤ 1000000 then .ok (.str (xs ++ ys)) else .no := Eq.trans rfl rfl
@[simp] theorem addD_tup (xs ys : List D) : addD (.tup xs) (.tup ys) = if xs.length + ys.length ≤ 1000000 then .ok (.tup (xs ++ ys)) else .no := Eq.trans rfl rfl
@[simp] theorem subD_int (i j : Int) : subD (.int i) (.int j) = .ok (.int (i - j)) := Eq.trans rfl rfl
@[simp] theorem mulD_int (i j : Int) : mulD (.int i) (.int j) = if (-18446744073709551616 < i ∧ i < 18446744073709551616) ∨ (-18446744073709551616 < j ∧ j < 18446744073709551616) then .ok (.int (i * j)) else .no := Eq.trans rfl rfl
@[simp] theorem mulD_lst (xs : List D) (k : Int) : mulD (.lst xs) (.int k) = if -9223372036854775808 ≤ k ∧ k < 9223372036854775808 ∧ xs.length * k.toNat ≤ 1000000 then .ok (.lst (List.replicate k.toNat xs).flatten) else .no := Eq.trans rfl rfl
@[simp] theorem fdivD_int (i j : Int) : fdivD (.int i) (.int j) = if 0 < j ∧ j < 18446744073709551616 then .ok (.int (i / j)) else .no := Eq.trans rfl rfl
@[simp] theorem modD_int (i j : Int) : modD (.int i) (.int j) = if 0 < j then .ok (.int (i % j)) else .no := Eq.trans rfl rfl
@[simp] theorem powD_int (i j : Int) : powD (.int i) (.int j) = if 0 ≤ j ∧ j ≤ 1000000 ∧ -18446744073709551616 < i ∧ i < 18446744073709551616 then .ok (.int (i ^ j.toNat)) else .no := Eq.trans rfl rfl
@[simp] theorem negD_int (i : Int) : negD (.int i) = .ok (.int (-i)) := Eq.trans rfl rfl
@[simp] theorem ltD_int (i j : Int) : ltD (.int i) (.int j) = .ok (.bl (decide (i < j))) := Eq.trans rfl rfl
@[simp] theorem leD_int (i j : Int) : leD (.int i) (.int j) = .ok (.bl (decide (i ≤ j))) := Eq.trans rfl rfl
@[simp] theorem gtD_int (i j : Int) : gtD (.int i) (.int j) = .ok (.bl (decide (j < i))) := Eq.trans rfl rfl
@[simp] theorem geD_int (i j : Int) : geD (.int i) (.int j) = .ok (.bl (decide (j ≤ i))) := Eq.trans rfl rfl
@[simp] theorem isND_ap (d : D) : isND d = .ok (.bl (isNonD d)) := Eq.trans rfl rfl
@[simp] theorem notND_ap (d : D) : notND d = .ok (.bl (!isNonD d)) := Eq.trans rfl rfl
@[simp] theorem isNonD_non : isNonD .non = true := Eq.trans rfl rfl
@[simp] theorem isNonD_int (i : Int) : isNonD (.int i) = false := Eq.trans rfl rfl
@[simp] theorem isNonD_lst (i : List D) : isNonD (.lst i) = false := Eq.trans rfl rfl
@[simp] theorem isNonD_tup (i : List D) : isNonD (.tup i) = false := Eq.trans rfl rfl
def e3k (k' : D → D → R D) (y : D) (h : Env → R D) (s : Env) : D → R D
  | .bl true => (h s).bind fun w => k' y w
  | .bl false => .ok (.bl false)
  | _ => .no
@[simp] theorem e3k_t (k' : D → D → R D) (y : D) (h : Env → R D) (s : Env) : e3k k' y h s (.bl true) = (h s).bind fun w => k' y w := Eq.trans rfl rfl
@[simp] theorem e3k_f (k' : D → D → R D) (y : D) (h : Env → R D) (s : Env) : e3k k' y h s (.bl false) = .ok (.bl false) := Eq.trans rfl rfl
@[simp] theorem e3c_ap (k k' : D → D → R D) (f g h : Env → R D) (s : Env) : e3c k k' f g h s = (f s).bind fun x => (g s).bind fun y => (k x y).bind (e3k k' y h s) := by
  unfold e3c
  congr
/-- a chain of two on ints -/
theorem e3k_dec (k' : D → D → R D) (y : D) (h : Env → R D) (s : Env) (p : Prop) [Decidable p] {q : Prop} [Decidable q] (hq : ((h s).bind fun w => k' y w) = .ok (.bl (decide q))) : e3k k' y h s (.bl (decide p)) = .ok (.bl (decide (p ∧ q))) := by
  by_cases hp : p
  · simp [hp, hq]
  · simp [hp]
@[simp] theorem asB_bl (b : Bool) : asB (.bl b) = .ok b := Eq.trans rfl rfl
@[simp] theorem tOf_ap (f : Env → R D) (s : Env) : tOf f s = (f s).bind asB := Eq.trans rfl rfl
@[simp] theorem tNot_ap (t : Env → R Bool) (s : Env) : tNot' t s = (t s).bind fun b => .ok (!b) := Eq.trans rfl rfl
@[simp] theorem tAnd_ap (t u : Env → R Bool) (s : Env) : tAnd' t u s = (t s).bind fun b => if b = true then u s else .ok false := Eq.trans rfl rfl
@[simp] theorem tOr_ap (t u : Env → R Bool) (s : Env) : tOr' t u s = (t s).bind fun b => if b = true then .ok true else u s := Eq.trans rfl rfl
@[simp] theorem tYes_ap (s : Env) : tYes' s = .ok true := Eq.trans rfl rfl
def eAk (g : Env → R D) (s : Env) : D → R D
  | .bl true => g s
  | .bl false => .ok (.bl false)
  | _ => .no
def eOk (g : Env → R D) (s : Env) : D → R D
  | .bl true => .ok (.bl true)
  | .bl false => g s
  | _ => .no
@[simp] theorem eAk_t (g : Env → R D) (s : Env) : eAk g s (.bl true) = g s := Eq.trans rfl rfl
@[simp] theorem eAk_f (g : Env → R D) (s : Env) : eAk g s (.bl false) = .ok (.bl false) := Eq.trans rfl rfl
@[simp] theorem eOk_t (g : Env → R D) (s : Env) : eOk g s (.bl true) = .ok (.bl true) := Eq.trans rfl rfl
@[simp] theorem eOk_f (g : Env → R D) (s : Env) : eOk g s (.bl false) = g s := Eq.trans rfl rfl
@[simp] theorem eAnd_ap (f g : Env → R D) (s : Env) : eAndV f g s = (f s).bind (eAk g s) := by unfold eAndV; congr
@[simp] theorem eOr_ap (f g : Env → R D) (s : Env) : eOrV f g s = (f s).bind (eOk g s) := by unfold eOrV; congr
theorem eAk_dec (g : Env → R D) (s : Env) {p q : Prop} [Decidable p] [Decidable q] (h : p → g s = .ok (.bl (decide q))) : eAk g s (.bl (decide p)) = .ok (.bl (decide (p ∧ q))) := by
  by_cases hp : p
  · simp [hp, h hp]
  · simp [hp]
@[simp] theorem notD_bl (b : Bool) : notD (.bl b) = .ok (.bl (!b)) := Eq.trans rfl rfl
@[simp] theorem eIf_ap (t : Env → R Bool) (f g : Env → R D) (s : Env) : eIf t f g s = (t s).bind fun b => if b = true then f s else g s := Eq.trans rfl rfl
@[simp] theorem aNil_ap (s : Env) : aNil s = .ok [] := Eq.trans rfl rfl
@[simp] theorem aCons_ap (f : Env → R D) (g : Env → R (List D)) (s : Env) : aCons f g s = (f s).bind fun x => (g s).bind fun xs => .ok (x :: xs) := Eq.trans rfl rfl
@[simp] theorem eL_ap (f : Env → R (List D)) (s : Env) : eL f s = (f s).bind fun xs => .ok (.lst xs) := Eq.trans rfl rfl
@[simp] theorem nLst_ap (g : Env → R (List D)) (s : Env) : nLst g s = (g s).bind fun xs => if xs.length ≤ 1000000 then .ok xs else .no := Eq.trans rfl rfl
@[simp] theorem eTup_ap (g : Env → R (List D)) (s : Env) : eTup g s = (g s).bind fun xs => if xs.length ≤ 1000000 then .ok (.tup xs) else .no := Eq.trans rfl rfl
@[simp] theorem eB_ap (k : List D → R D) (g : Env → R (List D)) (s : Env) : eB k g s = (g s).bind k := Eq.trans rfl rfl
@[simp] theorem nB_ap (k : List D → R (List D)) (g : Env → R (List D)) (s : Env) : nB k g s = (g s).bind k := Eq.trans rfl rfl
@[simp] theorem lenD_lst (xs : List D) : lenD [.lst xs] = .ok (.int xs.length) := Eq.trans rfl rfl
@[simp] theorem lenD_tup (xs : List D) : lenD [.tup xs] = .ok (.int xs.length) := Eq.trans rfl rfl
@[simp] theorem lenD_scr (xs : List Int) : lenD [.scr xs] = .ok (.int xs.length) := Eq.trans rfl rfl
@[simp] theorem absD_int (i : Int) : absD [.int i] = .ok (.int (if i < 0 then -i else i)) := Eq.trans rfl rfl
@[simp] theorem max2D_int (i j : Int) : max2D [.int i, .int j] = .ok (.int (if j > i then j else i)) := Eq.trans rfl rfl
@[simp] theorem min2D_int (i j : Int) : min2D [.int i, .int j] = .ok (.int (if j < i then j else i)) := Eq.trans rfl rfl
@[simp] theorem intD_int (i : Int) : intD [.int i] = .ok (.int i) := Eq.trans rfl rfl
@[simp] theorem sumD_map (ns : List Int) : sumD [.lst (ns.map D.int)] = .ok (.int ns.sum) := by simp only [sumD, ints?_map]
@[simp] theorem allD_map (ns : List Bool) : allD [.lst (ns.map D.bl)] = .ok (.bl (ns.all id)) := by simp only [allD, bls?_map]
@[simp] theorem anyD_map (ns : List Bool) : anyD [.lst (ns.map D.bl)] = .ok (.bl (ns.any id)) := by simp only [anyD, bls?_map]
theorem atI_nat' {α : Type} {xs : List α} {i : Int} {v : α} (h0 : 0 ≤ i) (h : xs[i.toNat]? = some v) : atI xs i = some v := by
  have := atI_nat (j := i.toNat) h
  rwa [Int.toNat_of_nonneg h0] at this
theorem ixD_lst {xs : List D} {i : Int} {d : D} (h0 : 0 ≤ i) (h : xs[i.toNat]? = some d) : ixD (.lst xs) (.int i) = .ok d := by simp only [ixD, atI_nat' h0 h]
theorem ixD_tup {xs : List D} {i : Int} {d : D} (h0 : 0 ≤ i) (h : xs[i.toNat]? = some d) : ixD (.tup xs) (.int i) = .ok d := by simp only [ixD, atI_nat' h0 h]
theorem ixD_scr {xs : List Int} {i : Int} {d : Int} (h0 : 0 ≤ i) (h : xs[i.toNat]? = some d) : ixD (.scr xs) (.int i) = .ok (.int d) := by simp only [ixD, atI_nat' h0 h]
theorem ixD_ints {xs : List Int} {i : Int} {d : Int} (h0 : 0 ≤ i) (h : xs[i.toNat]? = some d) : ixD (.lst (xs.map D.int)) (.int i) = .ok (.int d) := ixD_lst h0 (by rw [List.getElem?_map, h]; rfl)
@[simp] theorem asI_int (i : Int) : asI (.int i) = .ok i := Eq.trans rfl rfl
@[simp] theorem oNone_ap (s : Env) : oNone s = .ok none := Eq.trans rfl rfl
@[simp] theorem oSome_ap (f : Env → R D) (s : Env) : oSome f s = (f s).bind fun d => (asI d).bind fun i => .ok (some i) := Eq.trans rfl rfl
def cutK (lo hi : Option Int) : D → R (List D)
  | .lst xs => .ok (cutG xs lo hi)
  | _ => .no
@[simp] theorem cutK_lst (lo hi : Option Int) (xs : List D) : cutK lo hi (.lst xs) = .ok (cutG xs lo hi) := Eq.trans rfl rfl
@[simp] theorem nCut_ap (f : Env → R D) (l u : Env → R (Option Int)) (s : Env) : nCut f l u s = (f s).bind fun x => (l s).bind fun lo => (u s).bind fun hi => cutK lo hi x := by
  unfold nCut; congr
@[simp] theorem gSet_ap (i : Nat) (d : D) (s : Env) : gSet i d s = if i < s.length then .ok (s.set i (some (.d d))) else .no := Eq.trans rfl rfl
@[simp] theorem gsNil_ap (s : Env) : gsNil [] s = .ok s := Eq.trans rfl rfl
@[simp] theorem gsCons_ap (g : D → Env → R Env) (h : List D → Env → R Env) (d : D) (r : List D) (s : Env) : gsCons g h (d :: r) s = (g d s).bind fun s' => h r s' := Eq.trans rfl rfl
@[simp] theorem gTupD_ap (n : Nat) (g : List D → Env → R Env) (xs : List D) (s : Env) : gTupD n g (.tup xs) s = if xs.length = n then g xs s else .no := Eq.trans rfl rfl
def lstK : D → R (List D)
  | .lst xs => .ok xs
  | _ => .no
@[simp] theorem lstK_lst (xs : List D) : lstK (.lst xs) = .ok xs := Eq.trans rfl rfl
@[simp] theorem iLst_ap (f : Env → R D) (s : Env) : iLst f s = (f s).bind lstK := by unfold iLst; congr
def tupK : D → R (List D)
  | .tup xs => .ok xs
  | _ => .no
@[simp] theorem tupK_tup (xs : List D) : tupK (.tup xs) = .ok xs := Eq.trans rfl rfl
@[simp] theorem iTupl_ap (f : Env → R D) (s : Env) : iTupl f s = (f s).bind tupK := by unfold iTupl; congr
def range1K : List D → R (List D)
  | [.int n] => if n < 4611686018427387904 ∧ -4611686018427387904 ≤ n then .ok (rngD 0 n.toNat) else .no
  | _ => .no
def range2K : List D → R (List D)
  | [.int a, .int n] => if a < 4611686018427387904 ∧ -4611686018427387904 ≤ a ∧ n < 4611686018427387904 ∧ -4611686018427387904 ≤ n then .ok (rngD a (n - a).toNat) else .no
  | _ => .no
@[simp] theorem range1K_ap (n : Int) : range1K [.int n] = if n < 4611686018427387904 ∧ -4611686018427387904 ≤ n then .ok (rngD 0 n.toNat) else .no := Eq.trans rfl rfl
@[simp] theorem range2K_ap (a n : Int) : range2K [.int a, .int n] = if a < 4611686018427387904 ∧ -4611686018427387904 ≤ a ∧ n < 4611686018427387904 ∧ -4611686018427387904 ≤ n then .ok (rngD a (n - a).toNat) else .no := Eq.trans rfl rfl
@[simp] theorem iRange1_ap (ga : Env → R (List D)) (s : Env) : iRange1 ga s = (ga s).bind range1K := by unfold iRange1; congr
@[simp] theorem iRange2_ap (ga : Env → R (List D)) (s : Env) : iRange2 ga s = (ga s).bind range2K := by unfold iRange2; congr
def enumK : List D → R (List D)
  | [.lst xs] => .ok (enumD xs)
  | _ => .no
@[simp] theorem enumK_ap (xs : List D) : enumK [.lst xs] = .ok (enumD xs) := Eq.trans rfl rfl
@[simp] theorem iEnumD_ap (ga : Env → R (List D)) (s : Env) : iEnumD ga s = (ga s).bind enumK := by unfold iEnumD; congr
def zipK : List D → R (List D)
  | [.lst xs, .lst ys] => .ok (zipD xs ys)
  | _ => .no
@[simp] theorem zipK_ap (xs ys : List D) : zipK [.lst xs, .lst ys] = .ok (zipD xs ys) := Eq.trans rfl rfl
@[simp] theorem iZipD_ap (ga : Env → R (List D)) (s : Env) : iZipD ga s = (ga s).bind zipK := by unfold iZipD; congr
@[simp] theorem wipeE_nil (s : Env) : wipeE s [] = s := Eq.trans rfl rfl
@[simp] theorem wipeE_cons (s : Env) (v : Nat) (vs : List Nat) : wipeE s (v :: vs) = (wipeE s vs).set v none := Eq.trans rfl rfl
@[simp] theorem nLc_ap (it : Env → R (List D)) (g : D → Env → R Env) (t : Env → R Bool) (elt : Env → R D) (own : List Nat) (s : Env) : nLc it g t elt own s = (it s).bind fun xs => if xs.length ≤ 1000000 then lcGo g t elt (wipeE s own) xs else .no := Eq.trans rfl rfl
@[simp] theorem sNext_ap (s : Env) : sNext s = .nx s := Eq.trans rfl rfl
@[simp] theorem sSeq_ap (F G : Env → Out) (s : Env) : sSeq F G s = (F s).seq G := Eq.trans rfl rfl
/-- what follows a value -/
def Out.vl {α : Type} (r : R α) (s : Env) (k : α → Out) : Out := match r with
  | .ok d => k d
  | .exc c n => .exc c n s
  | .no => .no
@[simp] theorem vl_ok {α : Type} (d : α) (s : Env) (k : α → Out) : Out.vl (.ok d) s k = k d := Eq.trans rfl rfl
@[simp] theorem vl_exc {α : Type} (c : Str) (n : Int) (s : Env) (k : α → Out) : Out.vl (.exc c n) s k = .exc c n s := Eq.trans rfl rfl
@[simp] theorem sRet_ap (f : Env → R D) (s : Env) : sRet f s = Out.vl (f s) s .rt := by unfold sRet Out.vl; cases f s <;> rfl
@[simp] theorem sSet_ap (i : Nat) (f : Env → R D) (s : Env) : sSet i f s = Out.vl (f s) s fun d => if i < s.length then .nx (s.set i (some (.d d))) else .no := by unfold sSet Out.vl; cases f s <;> rfl
@[simp] theorem sNew_ap (i : Nat) (f : Env → R (List D)) (s : Env) : sNew i f s = Out.vl (f s) s fun xs => if i < s.length then .nx (s.set i (some (.ol xs))) else .no := by unfold sNew Out.vl; cases f s <;> rfl
def Out.en : R Env → Out
  | .ok s => .nx s
  | _ => .no
@[simp] theorem en_ok (s : Env) : Out.en (.ok s) = .nx s := Eq.trans rfl rfl
@[simp] theorem sAsg_ap (g : D → Env → R Env) (f : Env → R D) (s : Env) : sAsg g f s = Out.vl (f s) s fun d => Out.en (g d s) := by
  unfold sAsg Out.vl; cases f s with
  | ok d => cases h : g d s <;> simp [Out.en, h]
  | exc c n => rfl
  | no => rfl
@[simp] theorem sDrop_ap (f : Env → R D) (s : Env) : sDrop f s = Out.vl (f s) s fun _ => .nx s := by unfold sDrop Out.vl; cases f s <;> rfl
@[simp] theorem sIf_ap (t : Env → R Bool) (F G : Env → Out) (s : Env) : sIf t F G s = Out.vl (t s) s fun b => if b = true then F s else G s := by unfold sIf Out.vl; cases t s <;> rfl
@[simp] theorem sFor_ap (it : Env → R (List D)) (g : D → Env → R Env) (F : Env → Out) (wp : List Nat) (s : Env) : sFor it g F wp s = Out.vl (it s) s fun xs => forD g F wp xs (wipeE s wp) := by unfold sFor Out.vl; cases it s <;> rfl
@[simp] theorem sWhile_ap (t : Env → R Bool) (F : Env → Out) (wp : List Nat) (n : Nat) (s : Env) : sWhile t F wp n s = whileD t F wp n s := Eq.trans rfl rfl
@[simp] theorem wNil_ap (s : Env) : wNil s = .ok [] := Eq.trans rfl rfl
@[simp] theorem wCons_ap (f : Env → R D) (g : Env → R (List SV)) (s : Env) : wCons f g s = (f s).bind fun x => (g s).bind fun xs => .ok (.d x :: xs) := Eq.trans rfl rfl
@[simp] theorem wNew_ap (f : Env → R (List D)) (g : Env → R (List SV)) (s : Env) : wNew f g s = (f s).bind fun x => (g s).bind fun xs => .ok (.ol x :: xs) := Eq.trans rfl rfl
@[simp] theorem sStore_ap (is : List Nat) (ws : Env → R (List SV)) (s : Env) : sStore is ws s = Out.vl (ws s) s fun svs => if svs.length = is.length ∧ okN is s.length = true then .nx (setN is svs s) else .no := by unfold sStore Out.vl; cases ws s <;> rfl
@[simp] theorem setN_nil {α : Type} (s : List (Option α)) : setN [] ([] : List α) s = s := Eq.trans rfl rfl
@[simp] theorem setN_cons {α : Type} (i : Nat) (is : List Nat) (v : α) (vs : List α) (s : List (Option α)) : setN (i :: is) (v :: vs) s = setN is vs (s.set i (some v)) := Eq.trans rfl rfl
@[simp] theorem okN_nil (n : Nat) : okN [] n = true := Eq.trans rfl rfl
@[simp] theorem okN_cons (i : Nat) (is : List Nat) (n : Nat) : okN (i :: is) n = (decide (i < n) && okN is n) := Eq.trans rfl rfl
def parK (i j : Nat) (s : Env) : List D → Out
  | [x, y] => if i < s.length ∧ j < s.length then .nx ((s.set i (some (.d x))).set j (some (.d y))) else .no
  | _ => .no
@[simp] theorem parK_ap (i j : Nat) (s : Env) (x y : D) : parK i j s [x, y] = if i < s.length ∧ j < s.length then .nx ((s.set i (some (.d x))).set j (some (.d y))) else .no := Eq.trans rfl rfl
@[simp] theorem sPar_ap (i j : Nat) (ga : Env → R (List D)) (s : Env) : sPar i j ga s = Out.vl (ga s) s (parK i j s) := by
  unfold sPar Out.vl
  cases ga s with
  | exc c n => rfl
  | no => rfl
  | ok ds => match ds with
    | [] => rfl
    | [_] => rfl
    | [_, _] => rfl
    | _ :: _ :: _ :: _ => rfl
def ownK : Option (Option SV) → (List D → Out) → Out
  | some (some (.ol xs)), k => k xs
  | _, _ => .no
@[simp] theorem ownK_ol (xs : List D) (k : List D → Out) : ownK (some (some (.ol xs))) k = k xs := Eq.trans rfl rfl
@[simp] theorem sApp_ap (i : Nat) (f : Env → R D) (s : Env) : sApp i f s = ownK s[i]? fun xs => Out.vl (f s) s fun d => if xs.length < 1000000 then .nx (s.set i (some (.ol (xs ++ [d])))) else .no := by
  unfold sApp ownK
  cases h : s[i]? with
  | none => rfl
  | some o => cases o with
    | none => rfl
    | some o => cases o with
      | d x => rfl
      | od x => rfl
      | ex a dx k => rfl
      | op w => rfl
      | ol x => unfold Out.vl; cases f s <;> rfl
def roK : Option (Option SV) → Out
  | some (some (.ol xs)) => .ro xs
  | some (some (.od xs)) => .rk xs
  | some (some (.d d)) => .rt d
  | _ => .no
@[simp] theorem roK_ol (xs : List D) : roK (some (some (.ol xs))) = .ro xs := Eq.trans rfl rfl
@[simp] theorem roK_d (xs : D) : roK (some (some (.d xs))) = .rt xs := Eq.trans rfl rfl
@[simp] theorem roK_od (xs : List (Key × D)) : roK (some (some (.od xs))) = .rk xs := Eq.trans rfl rfl
@[simp] theorem sRetO_ap (i : Nat) (s : Env) : sRetO i s = roK s[i]? := Eq.trans rfl rfl
@[simp] theorem eCall_ap (Fn : List D → FR) (ga : Env → R (List D)) (s : Env) : eCall Fn ga s = (ga s).bind fun ds => (Fn ds).R := Eq.trans rfl rfl
def FR.toN : FR → DV.R (List D)
  | .ol xs => .ok xs
  | .exc c n => .exc c n
  | _ => .no
@[simp] theorem FR.toN_ol (xs : List D) : (FR.ol xs).toN = .ok xs := Eq.trans rfl rfl
@[simp] theorem FR.toN_exc (c : Str) (n : Int) : (FR.exc c n).toN = .exc c n := Eq.trans rfl rfl
@[simp] theorem nCall_ap (Fn : List D → FR) (ga : Env → R (List D)) (s : Env) : nCall Fn ga s = (ga s).bind fun ds => (Fn ds).toN := by
  unfold nCall; congr
def FR.out (s : Env) : FR → Out
  | .val d => .rt d
  | .ol xs => .ro xs
  | .od xs => .rk xs
  | .exc c n => .exc c n s
  | .no => .no
@[simp] theorem FR.out_val (s : Env) (d : D) : (FR.val d).out s = .rt d := Eq.trans rfl rfl
@[simp] theorem FR.out_ol (s : Env) (d : List D) : (FR.ol d).out s = .ro d := Eq.trans rfl rfl
@[simp] theorem FR.out_exc (s : Env) (c : Str) (n : Int) : (FR.exc c n).out s = .exc c n s := Eq.trans rfl rfl
@[simp] theorem sRetC_ap (Fn : List D → FR) (ga : Env → R (List D)) (s : Env) : sRetC Fn ga s = Out.vl (ga s) s fun ds => (Fn ds).out s := by
  unfold sRetC Out.vl
  cases ga s with
  | ok ds => cases h : Fn ds <;> simp [FR.out, h]
  | exc c n => rfl
  | no => rfl
@[simp] theorem fr_nx (s : Env) : (Out.nx s).fr = .val .non := Eq.trans rfl rfl
@[simp] theorem fr_rt (d : D) : (Out.rt d).fr = .val d := Eq.trans rfl rfl
@[simp] theorem fr_ro (d : List D) : (Out.ro d).fr = .ol d := Eq.trans rfl rfl
@[simp] theorem fr_rk (d : List (Key × D)) : (Out.rk d).fr = .od d := Eq.trans rfl rfl
@[simp] theorem fr_exc (c : Str) (n : Int) (s : Env) : (Out.exc c n s).fr = .exc c n := Eq.trans rfl rfl
@[simp] theorem seq_if (p : Prop) [Decidable p] (a b : Out) (g : Env → Out) : (if p then a else b).seq g = if p then a.seq g else b.seq g := by split <;> rfl
theorem frz_ol {i : Nat} {s : Env} {xs : List D} (h : s[i]? = some (some (.ol xs))) : frz i s = s.set i (some (.d (.lst xs))) := by unfold frz; rw [h]
def frzK (i : Nat) (s : Env) : Option (Option SV) → Env
  | some (some (.ol xs)) => s.set i (some (.d (.lst xs)))
  | some (some (.od xs)) => s.set i (some (.d (.dct xs)))
  | _ => s
@[simp] theorem frz_ap (i : Nat) (s : Env) : frz i s = frzK i s s[i]? := Eq.trans rfl rfl
@[simp] theorem frzK_ol (i : Nat) (s : Env) (xs : List D) : frzK i s (some (some (.ol xs))) = s.set i (some (.d (.lst xs))) := Eq.trans rfl rfl
@[simp] theorem frzK_d (i : Nat) (s : Env) (xs : D) : frzK i s (some (some (.d xs))) = s := Eq.trans rfl rfl
@[simp] theorem frzK_none (i : Nat) (s : Env) : frzK i s (some none) = s := Eq.trans rfl rfl
@[simp] theorem fnD_1 (N : Nat) (Fb : Env → Out) (a : D) : fnD N 1 Fb [a] = (Fb (some (.d a) :: List.replicate (N - 1) none)).fr := Eq.trans rfl rfl
@[simp] theorem fnD_2 (N : Nat) (Fb : Env → Out) (a b : D) : fnD N 2 Fb [a, b] = (Fb (some (.d a) :: some (.d b) :: List.replicate (N - 2) none)).fr := Eq.trans rfl rfl
@[simp] theorem fnD_3 (N : Nat) (Fb : Env → Out) (a b c : D) : fnD N 3 Fb [a, b, c] = (Fb (some (.d a) :: some (.d b) :: some (.d c) :: List.replicate (N - 3) none)).fr := Eq.trans rfl rfl
@[simp] theorem fnD_4 (N : Nat) (Fb : Env → Out) (a b c d : D) : fnD N 4 Fb [a, b, c, d] = (Fb (some (.d a) :: some (.d b) :: some (.d c) :: some (.d d) :: List.replicate (N - 4) none)).fr := Eq.trans rfl rfl

/-! ### statements one behind the other -/
theorem run1 {F G : Env → Out} {s s' : Env} (h : F s = .nx s') : sSeq F G s = G s' := by rw [sSeq_ap, h, Out.seq_nx]
theorem seq_seq (o : Out) (G H : Env → Out) : o.seq (sSeq G H) = (o.seq G).seq H := by cases o <;> rfl
theorem run2 {F G H : Env → Out} {s s' : Env} (h : sSeq F G s = .nx s') : sSeq F (sSeq G H) s = H s' := by
  rw [sSeq_ap] at h
  rw [sSeq_ap, seq_seq, h, Out.seq_nx]
theorem run3 {F G H I : Env → Out} {s s' : Env} (h : sSeq F (sSeq G H) s = .nx s') : sSeq F (sSeq G (sSeq H I)) s = I s' := by
  rw [sSeq_ap, seq_seq] at h
  rw [sSeq_ap, seq_seq, seq_seq, h, Out.seq_nx]
theorem run4 {F G H I J : Env → Out} {s s' : Env} (h : sSeq F (sSeq G (sSeq H I)) s = .nx s') : sSeq F (sSeq G (sSeq H (sSeq I J))) s = J s' := by
  rw [sSeq_ap, seq_seq, seq_seq] at h
  rw [sSeq_ap, seq_seq, seq_seq, seq_seq, h, Out.seq_nx]

/-! ### loops -/
/-- a loop that goes on to its end, by an invariant on what is still to come -/
theorem forD_inv {g : D → Env → R Env} {F : Env → Out} {wp : List Nat} (I : List D → Env → Prop)
    (step : ∀ x xs s, I (x :: xs) s → ∃ s1 s2, g x s = .ok s1 ∧ (F s1 = .nx s2 ∨ F s1 = .ct s2) ∧ I xs (wipeE s2 wp)) :
    ∀ xs s, I xs s → ∃ s', forD g F wp xs s = .nx s' ∧ I [] s'
  | [], s, h => ⟨s, rfl, h⟩
  | x :: xs, s, h => by
    obtain ⟨s1, s2, h1, h2, h3⟩ := step x xs s h
    obtain ⟨s', h4, h5⟩ := forD_inv I step xs _ h3
    refine ⟨s', ?_, h5⟩
    rcases h2 with h2 | h2 <;> simp only [forD, h1, h2, h4]
/-- a loop as a fold: the state st a, the items d x -/
theorem forD_fold {α β : Type} {g : D → Env → R Env} {F : Env → Out} {wp : List Nat} (st : α → Env) (d : β → D) (f : α → β → α) (P : α → Prop)
    (step : ∀ a x, P a → P (f a x) ∧ ∃ s1 s2, g (d x) (st a) = .ok s1 ∧ (F s1 = .nx s2 ∨ F s1 = .ct s2) ∧ wipeE s2 wp = st (f a x)) :
    ∀ (xs : List β) (a : α), P a → forD g F wp (xs.map d) (st a) = .nx (st (xs.foldl f a)) ∧ P (xs.foldl f a)
  | [], a, h => ⟨rfl, h⟩
  | x :: xs, a, h => by
    obtain ⟨hp, s1, s2, h1, h2, h3⟩ := step a x h
    have ih := forD_fold st d f P step xs (f a x) hp
    refine ⟨?_, ih.2⟩
    rw [List.map_cons, List.foldl_cons]
    rcases h2 with h2 | h2 <;> simp only [forD, h1, h2, h3, ih.1]
/-- a loop over places: item i of xs -/
theorem forD_at {α : Type} {g : D → Env → R Env} {F : Env → Out} {wp : List Nat} (xs : List D) (st : α → Env) (a : Nat → α)
    (step : ∀ i x, xs[i]? = some x → ∃ s1 s2, g x (st (a i)) = .ok s1 ∧ (F s1 = .nx s2 ∨ F s1 = .ct s2) ∧ wipeE s2 wp = st (a (i + 1))) :
    forD g F wp xs (st (a 0)) = .nx (st (a xs.length)) := by
  have go : ∀ (ys : List D) (i : Nat), (∀ j x, ys[j]? = some x → xs[i + j]? = some x) → forD g F wp ys (st (a i)) = .nx (st (a (i + ys.length))) := by
    intro ys
    induction ys with
    | nil => intro i _; rfl
    | cons y ys ih =>
      intro i h
      obtain ⟨s1, s2, h1, h2, h3⟩ := step i y (h 0 y rfl)
      have := ih (i + 1) fun j x e => by
        have := h (j + 1) x (by simpa using e)
        rwa [show i + 1 + j = i + (j + 1) by omega]
      rw [List.length_cons, show i + (ys.length + 1) = i + 1 + ys.length by omega, ← this]
      rcases h2 with h2 | h2 <;> simp only [forD, h1, h2, h3]
  have := go xs 0 fun j x e => by simpa using e
  simpa using this
/-- a comprehension as a map -/
theorem lcGo_map {β γ : Type} {g : D → Env → R Env} {t : Env → R Bool} {elt : Env → R D} {s : Env} (d : β → D) (f : β → D)
    : ∀ (xs : List β), (∀ x ∈ xs, ∃ s1, g (d x) s = .ok s1 ∧ t s1 = .ok true ∧ elt s1 = .ok (f x)) → lcGo g t elt s (xs.map d) = .ok (xs.map f)
  | [], _ => rfl
  | x :: xs, h => by
    obtain ⟨s1, h1, h2, h3⟩ := h x (by simp)
    have ih := lcGo_map (γ := γ) d f xs fun y hy => h y (by simp [hy])
    simp [lcGo, h1, h2, h3, ih]
/-- a comprehension as a filtered map -/
theorem lcGo_filter {β : Type} {g : D → Env → R Env} {t : Env → R Bool} {elt : Env → R D} {s : Env} (d : β → D) (p : β → Bool) (f : β → D)
    : ∀ (xs : List β), (∀ x ∈ xs, ∃ s1, g (d x) s = .ok s1 ∧ t s1 = .ok (p x) ∧ (p x = true → elt s1 = .ok (f x))) → lcGo g t elt s (xs.map d) = .ok ((xs.filter p).map f)
  | [], _ => rfl
  | x :: xs, h => by
    obtain ⟨s1, h1, h2, h3⟩ := h x (by simp)
    have ih := lcGo_filter d p f xs fun y hy => h y (by simp [hy])
    by_cases hp : p x = true
    · simp [lcGo, h1, h2, h3 hp, ih, hp]
    · have hp' : p x = false := by simpa using hp
      simp [lcGo, h1, h2, ih, hp']
theorem rngD_length (lo : Int) (n : Nat) : (rngD lo n).length = n := by simp [rngD]
theorem enumD_length (xs : List D) : (enumD xs).length = xs.length := by simp [enumD]
theorem whileD_step {t : Env → R Bool} {F : Env → Out} {wp : List Nat} {n : Nat} {s s2 : Env} (h : t s = .ok true) (h2 : F s = .nx s2 ∨ F s = .ct s2) : whileD t F wp (n + 1) s = whileD t F wp n (wipeE s2 wp) := by
  rcases h2 with h2 | h2 <;> simp only [whileD, h, h2]
theorem whileD_end {t : Env → R Bool} {F : Env → Out} {wp : List Nat} {n : Nat} {s : Env} (h : t s = .ok false) : whileD t F wp (n + 1) s = .nx s := by
  simp only [whileD, h]
/-- a while loop that counts up from lo to the first place that p holds at -/
theorem whileD_count {α : Type} {t : Env → R Bool} {F : Env → Out} {wp : List Nat} (st : Nat → Env) (m : Nat) (ht : ∀ i, i < m → t (st i) = .ok true ∧ ∃ s2, (F (st i) = .nx s2 ∨ F (st i) = .ct s2) ∧ wipeE s2 wp = st (i + 1)) (he : t (st m) = .ok false) :
    ∀ (k i fuel : Nat), i + k = m → k < fuel → whileD t F wp fuel (st i) = .nx (st m)
  | 0, i, fuel + 1, h, _ => by
    have : i = m := by omega
    subst this
    exact whileD_end he
  | k + 1, i, fuel + 1, h, hf => by
    obtain ⟨h1, s2, h2, h3⟩ := ht i (by omega)
    rw [whileD_step h1 h2, h3]
    exact whileD_count (α := α) st m ht he k (i + 1) fuel (by omega) (by omega)

/-! ### repr, equality -/
/-- data that repr shows in short: depth at most k, size at most n -/
inductive Fit : Nat → Nat → D → Prop
  | non {k n : Nat} : Fit k n .non
  | bl {k n : Nat} (b : Bool) : Fit k n (.bl b)
  | int {k n : Nat} {i : Int} (h : i.natAbs < 1000000000000) : Fit k n (.int i)
  | lst {k n m : Nat} {xs : List D} (h : ∀ x ∈ xs, Fit k n x) (hl : xs.length * (n + 1) ≤ m) : Fit (k + 1) m (.lst xs)
  | tup {k n m : Nat} {xs : List D} (h : ∀ x ∈ xs, Fit k n x) (hl : xs.length * (n + 1) ≤ m) : Fit (k + 1) m (.tup xs)
def FitP (k n : Nat) (d : D) : Prop := d.plain = true ∧ d.pd.showable = true ∧ d.pd.hasDict = false ∧ d.pd.depth ≤ k ∧ d.pd.leavesShort 13 = true ∧ d.pd.bulk ≤ n
theorem FitP.all {k n : Nat} : ∀ xs : List D, (∀ x ∈ xs, FitP k n x) → D.plains xs = true ∧ PyData.showableAll (D.pds xs) = true ∧ PyData.hasDictAll (D.pds xs) = false ∧ PyData.depthAll (D.pds xs) ≤ k ∧ PyData.leavesShortAll 13 (D.pds xs) = true ∧ PyData.bulkAll (D.pds xs) ≤ xs.length * (n + 1)
  | [], _ => by simp [D.plains, D.pds, PyData.showableAll, PyData.hasDictAll, PyData.depthAll, PyData.leavesShortAll, PyData.bulkAll]
  | x :: xs, h => by
    obtain ⟨a1, a2, a3, a4, a5, a6⟩ := h x (by simp)
    obtain ⟨b1, b2, b3, b4, b5, b6⟩ := FitP.all xs fun y hy => h y (by simp [hy])
    refine ⟨by simp [D.plains, a1, b1], by simp [D.pds, PyData.showableAll, a2, b2], by simp [D.pds, PyData.hasDictAll, a3, b3], ?_, by simp [D.pds, PyData.leavesShortAll, a5, b5], ?_⟩
    · simp only [D.pds, PyData.depthAll]; omega
    · simp only [D.pds, PyData.bulkAll, List.length_cons, Nat.succ_mul]; omega
theorem Fit.p {k n : Nat} {d : D} (h : Fit k n d) : FitP k n d := by
  induction h with
  | non => simp [FitP, D.plain, D.pd, PyData.showable, PyData.hasDict, PyData.depth, PyData.leavesShort, PyData.bulk]
  | bl b => simp [FitP, D.plain, D.pd, PyData.showable, PyData.hasDict, PyData.depth, PyData.leavesShort, PyData.bulk]
  | @int k n i h =>
    have h1 := PyData.shown_int_le (i := i) (by simpa using h)
    have h2 : i.natAbs.log2 < 1920 := by
      by_cases h0 : i.natAbs = 0
      · rw [h0]; decide
      · rw [Nat.log2_lt h0]
        exact Nat.lt_of_lt_of_le h (by decide)
    simp [FitP, D.plain, D.pd, PyData.showable, PyData.hasDict, PyData.depth, PyData.leavesShort, PyData.bulk, h2]
    simpa [PyData.shown] using h1
  | @lst k n m xs h hl ih =>
    obtain ⟨b1, b2, b3, b4, b5, b6⟩ := FitP.all xs ih
    refine ⟨by simpa [D.plain] using b1, by simpa [D.pd, PyData.showable] using b2, by simpa [D.pd, PyData.hasDict] using b3, ?_, by simpa [D.pd, PyData.leavesShort] using b5, ?_⟩
    · simp only [D.pd, PyData.depth]; omega
    · simp only [D.pd, PyData.bulk]; omega
  | @tup k n m xs h hl ih =>
    obtain ⟨b1, b2, b3, b4, b5, b6⟩ := FitP.all xs ih
    refine ⟨by simpa [D.plain] using b1, by simpa [D.pd, PyData.showable] using b2, by simpa [D.pd, PyData.hasDict] using b3, ?_, by simpa [D.pd, PyData.leavesShort] using b5, ?_⟩
    · simp only [D.pd, PyData.depth]; omega
    · simp only [D.pd, PyData.bulk]; omega
theorem Fit.repr {k n : Nat} {d : D} (h : Fit k n d) (hk : k ≤ 60) (hn : n ≤ 60000) : reprD [d] = .ok (.str d.pd.shown) := by
  obtain ⟨h1, h2, h3, h4, h5, h6⟩ := h.p
  have h7 := PyData.shown_le_bulk 13 (by decide) d.pd h5
  rw [reprD, if_pos ⟨h1, h2, h3, by omega, by omega⟩]
theorem Fit.mono {k n k' n' : Nat} {d : D} (h : Fit k n d) (hk : k ≤ k') (hn : n ≤ n') : Fit k' n' d := by
  induction h generalizing k' n' with
  | non => exact .non
  | bl b => exact .bl b
  | int h => exact .int h
  | @lst k n m xs h hl ih =>
    obtain ⟨k', rfl⟩ : ∃ j, k' = j + 1 := ⟨k' - 1, by omega⟩
    exact .lst (fun x hx => ih x hx (by omega) (Nat.le_refl _)) (by omega)
  | @tup k n m xs h hl ih =>
    obtain ⟨k', rfl⟩ : ∃ j, k' = j + 1 := ⟨k' - 1, by omega⟩
    exact .tup (fun x hx => ih x hx (by omega) (Nat.le_refl _)) (by omega)
theorem eqv_self {d : D} (h : d.plain = true) : eqvD d d = true := SeqAt.eqv_refl_plain _ (D.pd_plain d h)
theorem Fit.eqs {k n : Nat} {d : D} (h : Fit k n d) (hk : k ≤ 60) : eqD d d = .ok (.bl true) := by
  obtain ⟨h1, h2, h3, h4, h5, h6⟩ := h.p
  rw [eqD, if_pos ⟨h1, h1, by omega⟩, eqv_self h1]
theorem Fit.nes {k n : Nat} {d : D} (h : Fit k n d) (hk : k ≤ 60) : neD d d = .ok (.bl false) := by
  obtain ⟨h1, h2, h3, h4, h5, h6⟩ := h.p
  rw [neD, if_pos ⟨h1, h1, by omega⟩, eqv_self h1]; rfl
@[simp] theorem eqD_str (x y : Str) : eqD (.str x) (.str y) = .ok (.bl (decide (x = y))) := by
  rw [eqD, if_pos ⟨rfl, rfl, by simp [D.pd, PyData.depth]⟩]
  have : eqvD (.str x) (.str y) = decide (x = y) := by
    simp only [eqvD, D.pd, PyData.eqv]
    by_cases h : x = y <;> simp [h]
  rw [this]
@[simp] theorem neD_str (x y : Str) : neD (.str x) (.str y) = .ok (.bl (!decide (x = y))) := by
  rw [neD, if_pos ⟨rfl, rfl, by simp [D.pd, PyData.depth]⟩]
  have : eqvD (.str x) (.str y) = decide (x = y) := by
    simp only [eqvD, D.pd, PyData.eqv]
    by_cases h : x = y <;> simp [h]
  rw [this]
theorem eqvD_int (x y : Int) : eqvD (.int x) (.int y) = decide (x = y) := by
  simp only [eqvD, D.pd, PyData.eqv]
  by_cases h : x = y <;> simp [h]
@[simp] theorem eqD_int (x y : Int) : eqD (.int x) (.int y) = .ok (.bl (decide (x = y))) := by
  rw [eqD, if_pos ⟨rfl, rfl, by simp [D.pd, PyData.depth]⟩, eqvD_int]
@[simp] theorem neD_int (x y : Int) : neD (.int x) (.int y) = .ok (.bl (!decide (x = y))) := by
  rw [neD, if_pos ⟨rfl, rfl, by simp [D.pd, PyData.depth]⟩, eqvD_int]
end DV

namespace DV
open PySem L2 PySem.Spec PyProof.Rows

/-! ### own exceptions: class E(ValueError): def __init__(self, at): super().__init__(at); self.at = at -/
def initSc : Scope := { kind := .function, names := [("self", .local), ("at", .local), ("__class__", .free), ("super", .globalImplicit)], isGenerator := false, isCoroutine := false }
theorem initNS : NdefX.NScope ["self", "at", "__class__"] ["self", "at"] ["__class__"] initSc := NdefX.nscope_by (by decide +kernel)
/-- what is known of the __init__ at fI of the class at D -/
structure InitK (P : Program) (K : PySem.W.Frag) (mg : Str → Option Value) (D fI : Addr) (fd : FuncData) : Prop where
  ex : ∃ (qual : Str) (params : Arguments) (cc cda : Addr) (dV kV doc pm ct oc ccl cl : Value) (an od cdd cld : Option Addr) (osl ccs csl : Array (Option Value)) (vs : Array Value) (file : Str) (tf : Tok) (cdD : ClassData) (ar : Arg) (p0 p1 p2 p3 p4 p5 p6 p7 p8 p9 : Pos),
    fd = PySem.W.fnX "__init__" qual params [.Expr (.Call (.Attribute (.Call (.Name "super" p0) [] [] p1) "__init__" p2) [.Name "at" p3] [] p4) p5, .Assign [.Attribute (.Name "self" p6) "at" p7] (.Name "at" p8) p9] initSc [("__class__", cc)] dV kV doc pm an (.ref cda) ct ∧
    K.lookup fI = some ⟨oc, od, .func fd, osl⟩ ∧ PySem.W.codeIn K (.ref cda) qual = true ∧
    (params.posonlyargs ++ params.args).head? = some ar ∧ ar.arg = ("self" : Str) ∧
    K.lookup cda = some ⟨ccl, cdd, .fields vs, ccs⟩ ∧ vs[2]? = some (.str file tf) ∧ ((P.main.file : Str) == file) = true ∧
    K.lookup cc = some ⟨cl, cld, .cell (some (.ref D)), csl⟩ ∧ PySem.W.clsIn K D = some cdD ∧ (p2.endLine == p4.line) = true
  sup : mg "super" = none
  top : (P.main.scope.names.lookup ("super" : Str)).isSome = false
  bd : Binds K fd ["self", "at"] []
  tI : PySem.W.typeIn K (.ref fI) = some (.type "function")
theorem mcall_eq {o : Expr} {name : Str} {apos pos : Pos} {e : Expr} {env : PySem.Env} (hp : (apos.endLine == pos.line) = true) (h1 : starEach [e] env = [(false, eval e env)]) : eval (.Call (.Attribute o name apos) [e] [] pos) env = (do
      let ov ← attributeBase o name env (eval o env)
      standAt apos.atName
      let (f, first) ← holding [ov] (getMethod ov name (do return (← importBound o env).getD true))
      callWith pos f first (backTo pos (starEach [e] env)) []) := by
  rw [arm_eval_Call]
  have hf : methodCallForm ([e].length + ([] : List Keyword).length) (backTo pos (starEach [e] env)) (backToKw pos (keywordEach [] env)) = true := by rw [h1]; rfl
  unfold methodCall
  rw [hf]
  unfold calleeOf methodCallPos
  simp only [hp, Bool.not_true, Bool.or_true, if_true, pure_bind]
  rfl
/-- what is known of a class C under D that is raised -/
structure RaiseK (K : PySem.W.Frag) (C D fI : Addr) : Prop where
  T : OexC K C
  iC : PySem.W.findIn K (.ref C) "__init__" = some (some (.ref fI))
  hs : PySem.W.mroIn K C (.ref D) = some true
  hm : PySem.W.ks_superIn K C D "__init__" = some (some (.builtin "ValueError.__init__"))
  hB : PySem.W.subIn K (.ref C) (.type "ValueError") = some true
  no : PySem.W.findIn K (.ref C) "at" = some none
  st : PySem.W.nsIn K cStatics "thirdparty.any" = some none
def spInit (K : PySem.W.Frag) (D fI : Addr) : Sp := fun vs H Q _ => ∃ (a C : Addr) (y : V), vs = [.ref a, y] ∧ RaiseK K C D fI ∧ H a = some (exo a C none) ∧
  ∀ dx, H dx = none → dx ≠ a → Q .non (upd (upd H dx (exd dx [("at", y)])) a (exo a C (some dx)))
theorem init_ok {P : Program} {w : World} {K : PySem.W.Frag} {mg : Str → Option Value} {base : Heap} {D fI : Addr} {fd : FuncData} (J : InitK P K mg D fI fd) : FnOk P w K mg base (L2N.CX P w) 1 fI fd ["self", "at"] (spInit K D fI) := by
  refine ⟨fun vs H Q E ⟨a, C, y, e, _⟩ => by rw [e]; rfl, fun A outer s H args us vs Q E hr e0 bd rv hs => ?_⟩
  obtain ⟨a, C, y, rfl, RK, ea, q⟩ := hs
  obtain ⟨qual, params, cc, cda, dV, kV, doc, pm, ct, oc, ccl, cl, an, od, cdd, cld, osl, ccs, csl, va, file, tf, cdD, ar, p0, p1, p2, p3, p4, p5, p6, p7, p8, p9, rfl, lk, hcd, hpar, har, lkc, hva, hfile, lkcell, hD, hpos⟩ := J.ex
  have S := initNS
  -- the values
  obtain ⟨u, ru, rfl⟩ : ∃ u, RelV y u ∧ us = [.ref a, u] := by
    cases rv with
    | cons r1 r2 => cases r2 with
      | cons r3 r4 =>
        cases r4
        cases r1
        exact ⟨_, r3, rfl⟩
  have KB : K.In base := e0.mod.kin
  have hkeep : ∀ b o, base.get? b = some o → s.heap.get? b = some o := fun b o e => (e0.bs b o e).1
  have KX : K.In s.heap := KB.keeps hkeep
  let F : NdefX.NF := ⟨"__init__", qual, params, [.Expr (.Call (.Attribute (.Call (.Name "super" p0) [] [] p1) "__init__" p2) [.Name "at" p3] [] p4) p5, .Assign [.Attribute (.Name "self" p6) "at" p7] (.Name "at" p8) p9], initSc, [("__class__", cc)], cda⟩
  refine PySem.ks_codeAny_call_defAt hr.depth (KX _ _ lk) rfl (e0.mod.nolimit.keeps hkeep) (PySem.W.codeRec_of KX hcd) rfl bd S.nocell (fun z hz => S.par z.1 (List.of_mem_zip (show (z.1, z.2) ∈ _ from hz)).1) (fun h₀ hns kp => ?_) S.co S.gen S.kind
  have CA : NdefX.CellsAt F.cl ["__class__"] [none] s.heap H := by
    have hcc : s.heap.IsCell cc (some (.ref D)) := ⟨_, KX _ _ lkcell, rfl⟩
    have hl : ∀ (y : Str) (c : Addr), F.cl.lookup y = some c → y = "__class__" ∧ c = cc := fun y c e => by
      have e : List.lookup y [(("__class__" : Str), cc)] = some c := e
      simp only [List.lookup] at e
      split at e
      · rename_i h
        cases e
        exact ⟨by simpa using h, rfl⟩
      · cases e
    refine ⟨rfl, fun y c e => ?_, fun x y c e1 e2 => (hl x c e1).1.trans (hl y c e2).1.symm, fun i y e => ?_⟩
    · obtain ⟨_, rfl⟩ := hl y c e
      exact ⟨(e0.bs _ _ (KB _ _ lkcell)).2, _, hcc⟩
    · match i, e with
      | 0, e =>
        cases e
        exact ⟨cc, rfl, fun v z => by cases z⟩
  have I : Inv (NdefX.ncx (L2N.CX P w) P w K mg base ["self", "at", "__class__"] F fI A outer s H E) [] (NdefX.startF ["self", "at", "__class__"] [.ref a, y] [none]) H { s with heap := h₀, toks := s.toks + (["self", "at"].zip [Value.ref a, u]).length } :=
    NdefX.inv_startN S hr.hd e0 rfl rv CA hns kp
  have hne : a ≠ C := fun z => by
    obtain ⟨nm, q', N, bs, bm, sn, sub, ab, col, dd, k0, k1, k2, k3, k5, hC, hbm⟩ := RK.T.cls
    have := (e0.bs _ _ (KB _ _ hC)).2
    rw [← z, ea] at this; cases this
  obtain ⟨oD, hD1, hD2⟩ : ∃ oD, K.lookup D = some oD ∧ oD.data = .cls cdD := by
    unfold PySem.W.clsIn at hD
    split at hD
    · rename_i c d cd' sl ho
      cases hD
      exact ⟨_, ho, rfl⟩
    · cases hD
  obtain ⟨cdC, hcC⟩ : ∃ cdC, PySem.W.clsIn K C = some cdC := by
    cases e : PySem.W.clsIn K C with
    | none => have := RK.hm; unfold PySem.W.ks_superIn at this; rw [e] at this; cases this
    | some cd => exact ⟨cd, rfl⟩
  have hal : PySem.W.alongIn K "__init__" ((cdC.mro.dropWhile (· != .ref D)).drop 1) = some (some (.builtin "ValueError.__init__")) := by
    have := RK.hm
    unfold PySem.W.ks_superIn at this
    rw [hcC] at this
    exact this
  let X := NdefX.ncx (L2N.CX P w) P w K mg base ["self", "at", "__class__"] F fI A outer s H E
  have I : Inv X [] (NdefX.startF ["self", "at", "__class__"] [.ref a, y] [none]) H { s with heap := h₀, toks := s.toks + (["self", "at"].zip [Value.ref a, u]).length } := I
  -- the statements
  refine PySem.ks_wpAt_execs_cons (PySem.ks_wpAt_Expr_any (PySem.ks_wpAt_MethodCall ?_ (mcall_eq hpos rfl)))
  have K0 : K.In h₀ := I.kIn
  obtain ⟨t1, hoa⟩ := exo_at I.hok ea
  have hoa : h₀.get? a = some ({ cls := .ref C, dict := none, data := .fields #[.ref t1, .none, .none, .none, .bool false, .none] } : Obj) := hoa
  refine PySem.ks_wpAt_super_base (show initSc.names.lookup ("super" : Str) = some .globalImplicit by decide +kernel) (show initSc.names.lookup ("__class__" : Str) = some .free by decide +kernel) (by decide) rfl (K0 _ _ lk) rfl hpar rfl (K0 _ _ lkc) rfl hva hfile J.top ?_
  obtain ⟨mb, hb1, hb2⟩ := I.mod.blt
  refine PySem.W.ks_loadName_global rfl (show initSc.names.lookup ("super" : Str) = some .globalImplicit by decide +kernel) (Calls.loadGlobal_builtin (I.mod.glob.keeps I.bk) J.sup (hb1.keeps I.bk) ((hb2 "super" (by decide)).trans (show bootBuiltins "super" = some (.type "super") from by kernel_rfl)) ⟨rfl, ?_⟩)
  refine wpAny_loadName_free rfl (show initSc.names.lookup ("__class__" : Str) = some .free by decide +kernel) rfl ⟨_, K0 _ _ lkcell, rfl⟩ ?_
  rw [har]
  refine wpAny_loadName_local rfl (show initSc.names.lookup ("self" : Str) = some .local by decide +kernel) hns rfl ?_
  refine PySem.ks_wpAny_isType_cls (K0 _ _ hD1) hD2 ⟨rfl, ?_⟩
  refine PySem.ks_wpAny_call_super (K0 _ _ hD1) hD2 hoa rfl (fun c z => by cases z) (PySem.W.looks_mroIn K0 RK.hs) (fun h1 e1 k1 => ?_)
  have I1 := I.kept (t' := s.toks + (["self", "at"].zip [Value.ref a, u]).length) k1
  have K1 : K.In h1 := I1.kIn
  have oa1 := k1 _ _ hoa
  have Ia : PySem.W.InstAt h1 a ({ cls := .ref C, dict := none, data := .fields #[.ref t1, .none, .none, .none, .bool false, .none] } : Obj) C none := ⟨oa1, rfl, rfl, trivial⟩
  refine PySem.W.kxs_getMethod PySem.W.kxs_ValueError e1 (PySem.W.looks_opaque K1 RK.st) (l₀ := cdC.mro) (fun A Q E s k q => wpAny_bind ((PySem.W.looks_clsIn K1 hcC) A _ E s k (wpAny_pure q))) rfl K1 hal (Ia.type.andThen (PySem.W.looks_subIn K1 RK.hB)) hne (by decide +kernel) ?_
  have k2 : ∀ b o, h1.get? b = some o → (h1.push (PySem.W.kxs_mw "ValueError.__init__" a)).get? b = some o := fun b o e => Heap.get?_push_of_some _ e
  have I2 := I1.kept (t' := s.toks + (["self", "at"].zip [Value.ref a, u]).length + 1) k2
  have hns2 : (h1.push (PySem.W.kxs_mw "ValueError.__init__" a)).Ns s.heap.objs.size _ := (hns.keeps k1).keeps k2
  refine PySem.W.kxs_callWith (i := "ValueError.__init__") (x := a) rfl (Calls.evalArgs_plain (Calls.spliced_cons (wpAny_Name (wpAny_loadName_local rfl (show initSc.names.lookup ("at" : Str) = some .local by decide +kernel) hns2 rfl (Calls.spliced_nil ⟨?_, ?_⟩)) (by decide +kernel))))
  · exact Heap.get?_push_at rfl rfl
  have hu : (h1.push (PySem.W.kxs_mw "ValueError.__init__" a)).get? h1.objs.size = some (PySem.W.kxs_mw "ValueError.__init__" a) := Heap.get?_push_at rfl rfl
  obtain ⟨nm, q', N, bs, bm, sn, sub, ab, col, dd, z0, z1, z2, z3, z5, hC, hbm⟩ := RK.T.cls
  have hC2 := I2.kIn _ _ hC
  have oa2 := k2 _ _ oa1
  refine wpAny_call (codeAny_of_tree ?_)
  show wpAny _ (Around.in1 _) (callAny (.ref h1.objs.size) ⟨[u], []⟩) _ _ _
  simp only [callAny]
  refine wpAny_bind (wpAny_load hu ?_)
  simp only [PySem.W.kxs_mw, show (Value.type "method-wrapper" == Value.type "method" || Value.type "method-wrapper" == Value.type "builtin_function_or_method" || Value.type "method-wrapper" == Value.type "method-wrapper") = true by decide, if_true]
  refine PySem.W.KFB.if_so (by decide) ?_
  refine wpAny_bind (PySem.W.check_bound_init PySem.F.excBase_ValueError.toExcCallFacts hC2 oa2 rfl ?_)
  refine wpAny_bind (wpAny_pure (wpAny_pure ?_))
  refine ⟨plainId_quiet PySem.F.excBase_ValueError.init.plain _, codeAny_builtin PySem.F.excBase_ValueError.initEntry ?_⟩
  refine PySem.W.exc_init_tree (cls := .ref C) (t0 := t1) (dv := none) (c2 := .none) (c3 := .none) (b4 := .bool false) oa2 (by simp [sizeLine_eq]) (fun h3 k3 e3 _ => ?_)
  have I3 := I2.write (t' := s.toks + (["self", "at"].zip [Value.ref a, u]).length + 1) (x := a) (e := a) (o := exo a C none) (by rw [ea]; exact True.intro) (.inl rfl) k3 ⟨_, e3⟩ (exo_ok e3)
  have eu : upd H a (exo a C none) = H := by
    funext b
    by_cases hb : b = a
    · rw [hb, upd_same, ea]
    · rw [upd_ne hb]
  rw [eu] at I3
  have hS : PS X (.Assign [.Attribute (.Name "self" p6) "at" p7] (.Name "at" p8) p9) (tOst X.K "at" (tVar 0) (tVar 1)) := ps_ost (pv 0) (pv 1)
  show PySem.wpAt _ _ _ (execs [.Assign [.Attribute (.Name "self" p6) "at" p7] (.Name "at" p8) p9] _) _ _ _
  refine PySem.ks_wpAt_execs_cons (wpAt_of_wpAny (wpAny_mono (hS.run [] _ _ H { nx := fun _ H' => Q .non H', rt := fun _ _ => False } I3 ?_) (fun fl s' hsp => ?_) fun e s' he => he))
  · refine ⟨y, rfl, V.ref a, rfl, a, C, rfl, RK.T, RK.no, .inl ⟨ea, fun dx n ne => q dx n ne⟩⟩
  · cases fl with
    | next =>
      obtain ⟨σ', H', J', q'⟩ := hsp
      exact wpAt_of_wpAny (wpAny_execs_nil ⟨.non, H', J'.os, J'.bare, J'.base, J'.hok, rfl, q'⟩)
    | ret u' =>
      obtain ⟨_, _, _, _, _, z⟩ := hsp
      exact z.elim
    | brk =>
      obtain ⟨_, _, _, z⟩ := hsp
      exact z.elim
    | cont =>
      obtain ⟨_, _, _, z⟩ := hsp
      exact z.elim
/-- C(e, ..), where no exception is handled: the new exception's context is None -/
theorem pmk_oexN {X : Cx} {CX : CXT} {x : Str} {e : Expr} {es : List Expr} {ta : TA} {p pos : Pos} {C fI : Addr} {k : Nat} {fd : FuncData} {ps : List Str} {sp : Sp}
    (T : OexC X.K C) (iC : PySem.W.findIn X.K (.ref C) "__init__" = some (some (.ref fI)))
    (tI : PySem.W.typeIn X.K (.ref fI) = some (.type "function")) (Fi : FnOk X.prog X.w X.K X.mg X.base CX k fI fd ps sp)
    (hr : Room (k + 1) X.A) (hb : Binds X.K fd ps []) (hx : Passes CX X (fun _ _ _ => False)) (hg : Gl X x)
    (hm : X.mg x = some (.ref C)) (ha : PA X (e :: es) ta) (hdb : (x == ("__debug__" : Str)) = false := by decide)
    (he : starEach (e :: es) X.env = (false, eval e X.env) :: starEach es X.env := by rfl)
    (hpl : (backTo pos (starEach es X.env)).any (·.1) = false := by rfl) : L2N.PMk X (.Call (.Name x p) (e :: es) [] pos) (tMkO C sp [] ta) := by
  intro pins s σ H Q I h
  obtain ⟨nm, qn, Nw, bs, mro, sn, sub, ab, col, dd, k0, k1, k2, k3, k5, hC, hmro⟩ := T.cls
  refine wpAny_Call_Name_kw (ld_glob I hg hm (PySem.W.callWith_K (h₀ := X.base) I.ok.mod.kin T.kC (thn (ha.run pos pins s σ H _ I h) fun us s1 z => ?_) he hpl) hdb)
  obtain ⟨vs, H1, J1, rvs, hlen, want⟩ := z
  refine ⟨J1.kIn, ?_⟩
  obtain ⟨hp, gs, dr, tk, os⟩ := s1
  -- where the exception will stand: behind its arguments' tuple
  let a : Addr := hp.objs.size + 1
  have up : hp.objs.size ≤ a := Nat.le_succ _
  have want' := want a (J1.hok.fresh up)
  rw [List.append_nil] at want'
  let hp2 : Heap := (hp.push (PySem.W.kdv_tup us)).push (PySem.HandSPX.excO C hp.objs.size)
  have keep2 : ∀ b o, hp.get? b = some o → hp2.get? b = some o := fun b o q => Heap.get?_push_of_some _ (Heap.get?_push_of_some _ q)
  have at2 : hp2.get? a = some (PySem.HandSPX.excO C hp.objs.size) := by
    show ((hp.push (PySem.W.kdv_tup us)).push (PySem.HandSPX.excO C hp.objs.size)).get? (hp.objs.size + 1) = _
    heap_get
  have J2 : Inv X pins σ (upd H1 a (exo a C none)) ⟨hp2, gs, dr, tk, os⟩ := J1.laid (t' := tk) (a := a) (o := exo a C none) (h' := hp2) keep2 up (exo_ok at2)
  have rv2 : Vals (V.ref a :: vs) (Value.ref a :: us) := .cons rfl rvs
  have hl2 : (Value.ref a :: us ++ []).length = ps.length := by
    have q := rv2.length
    rw [Fi.len _ _ _ _ want'] at q
    rw [List.append_nil]; exact q.symm
  have hus : us.length ≤ sizeLine := by
    have q := Paired.length rvs
    rw [sizeLine_eq]; omega
  have bd := hb ⟨hp2, gs, dr, tk, os⟩ (Value.ref a :: us) J2.kIn hl2
  rw [List.append_nil] at bd
  show wpAny _ _ (call (.ref C) us) _ _ _
  refine wpAny_call (PySem.HandSPX.call_own F.excBase_ValueError (fun Y => PySem.HandSPX.refsVE_contains Y mro hmro) (J1.kIn _ _ hC) (PySem.W.looks_findIn J1.kIn iC) (fun self => PySem.W.bind_fn J1.kIn self tI) hus (codeAny_mono (Fi.run _ X.stack _ _ ⟨Value.ref a :: us, []⟩ (Value.ref a :: us) _ _ (fun _ _ _ => False) (hr.make C us []) (J2.env0.make C us []) bd rv2 want') fun r s' back => ?_))
  match r, back with
  | .error er, back => exact hx pins σ _ _ er s' J2 back
  | .ok (.ret u), back =>
    obtain ⟨v, H2, os2, bare2, un2, hok2, ru, ev, d, fs, ea, ed, hd1, q2⟩ := back
    subst ev
    obtain ⟨h2, g2, d2, t2, os'⟩ := s'
    obtain ⟨t0, G, J, kG, ge, hoe, na⟩ := mk_end0 (d2 := d2) (t2 := t2) J1 up keep2 un2 hok2 os2 bare2 ea ed hd1
    exact ⟨ru, a, _, _, ⟨G, g2, d2, t2, os'⟩, _, .ref C, some d, rfl, J, kG, ge, hoe, ⟨rfl, rfl, fun ws hv => by cases hv; rfl⟩, rfl, rfl, na, rfl, bare2, raises_own T.exC T.tyC, q2⟩
  | .ok .next, back => exact False.elim back
  | .ok .brk, back => exact False.elim back
  | .ok .cont, back => exact False.elim back
end DV

namespace DV
open PySem L2 PySem.Spec PyProof.Rows

/-! ### raise, try -/
/-- c names an own exception class that can be made, and read -/
def ExcAt (P : Program) (K : PySem.W.Frag) (mg : Str → Option Value) (c : Str) : Prop :=
  ∃ (C D fI : Addr) (fd : FuncData), mg c = some (.ref C) ∧ RaiseK K C D fI ∧ InitK P K mg D fI fd ∧ XfC K C
def sRaise (c : Str) (f : Env → R D) : Env → Out := fun s => match f s with
  | .ok (.int n) => .exc c n s
  | .ok _ => .no
  | .exc c' n => .exc c' n s
  | .no => .no
section
variable {X : Cx} {W : WX} {B : Ent} {f : Env → R D} {F : Env → Out} {pos : Pos}
theorem ds_raise {c : Str} {e : Expr} {p cpos : Pos} (hc : X.calm = true) (hr : Room 2 X.A) (tk : L2N.Takes X W) (hg : Gl X c) (x : ExcAt X.prog X.K X.mg c) (he : DE X W false e f)
    (hdb : (c == ("__debug__" : Str)) = false := by decide) (hs : starEach [e] X.env = (false, eval e X.env) :: starEach [] X.env := by rfl) : DS X W B (.Raise (some (.Call (.Name c p) [e] [] cpos)) none pos) (sRaise c f) := fun G => by
  obtain ⟨C, D', fI, fd, hm, RK, J, _⟩ := x
  refine PS.imp (L2N.ps_raise hc tk (pmk_oexN RK.T RK.iC J.tI (init_ok J) hr J.bd (L2N.passes_call takes0N fun _ _ _ _ z => z) hg hm (pa_cons he pa_nil hs) hdb hs rfl)) fun Dd σ H ⟨env, h, q⟩ => ?_
  have q1 : FinS X.K X.mg W B.H0 B.O0 G Dd (match f env with | .ok d => (match d with | .int n => .exc c n env | _ => .no) | .exc c n => .exc c n env | .no => .no) := by
    unfold sRaise at q
    revert q
    cases f env with
    | ok d => cases d <;> exact fun q => q
    | exc c n => exact fun q => q
    | no => exact fun q => q
  refine sE (k := fun d => match d with | .int n => .exc c n env | _ => .no) h q1 fun d v H1 O _ s1 rv rs z s0 gg n q2 => ?_
  have rv : RepD X.K O H1 d v := rv
  cases d with
  | int i =>
    simp only [RepD] at rv
    subst rv
    refine ⟨by simp, fun a na => ⟨a, C, .int i, rfl, RK, upd_same, fun dx nd ne => ⟨rfl, dx, [("at", .int i)], upd_same, ?_, ?_, ?_⟩⟩⟩
    · rw [upd_ne ne, upd_same]
    · rw [upd_ne ne] at nd; exact nd
    · rw [upd_ne ne] at nd
      have e : ∀ b, b ≠ a → b ≠ dx → upd (del (upd (upd (upd H1 a (exo a C none)) dx (exd dx [("at", .int i)])) a (exo a C (some dx))) a) dx (.xd [("at", .int i)]) b = H1 b := fun b hb hd => by
        rw [upd_ne hd, del_ne hb, upd_ne hb, upd_ne hd, upd_ne hb]
      have sm : Same H1 (upd (del (upd (upd (upd H1 a (exo a C none)) dx (exd dx [("at", .int i)])) a (exo a C (some dx))) a) dx (.xd [("at", .int i)])) := fun b o eb => by
        rw [e b (ne_of_none eb na) (ne_of_none eb nd)]; exact eb
      exact q2 C dx σ _ hm ⟨O, rs.same sm, z, s0.trans sm, fun p hp => (gg p hp).same sm, n⟩ upd_same
  | _ => exact q2.elim
end

/-! ### try: body / except c as e: suite -/
section
variable {K : PySem.W.Frag} {O : Addr → Prop} {H : Hp} {σ : L2.St} {env : Env}
theorem RepS.putN {i : Nat} {sv : SV} {v : V} (r : RepS K O H σ env) (h : RepV K O H sv v) (hn : sv.own = false) (hi : i < env.length) : RepS K O H (σ.set i (some v)) (env.set i (some sv)) := by
  have hs : i < σ.length := by rw [r.len]; exact hi
  refine ⟨by simp [r.len], fun j su e => ?_, fun j k a su sw e1 e2 o1 o2 h1 h2 => ?_, r.trk⟩
  · by_cases hj : i = j
    · subst hj
      rw [List.getElem?_set_self hi] at e
      cases e
      exact ⟨v, List.getElem?_set_self hs, h⟩
    · rw [List.getElem?_set_ne hj] at e
      obtain ⟨w, e1, r1⟩ := r.get j su e
      exact ⟨w, by rw [List.getElem?_set_ne hj]; exact e1, r1⟩
  · have nj : i ≠ j := fun z => by
      subst z
      rw [List.getElem?_set_self hi] at e1
      cases e1
      rw [hn] at o1; cases o1
    have nk : i ≠ k := fun z => by
      subst z
      rw [List.getElem?_set_self hi] at e2
      cases e2
      rw [hn] at o2; cases o2
    rw [List.getElem?_set_ne nj] at e1 h1
    rw [List.getElem?_set_ne nk] at e2 h2
    exact r.inj j k a su sw e1 e2 o1 o2 h1 h2
theorem Kept.putN {i : Nat} {sv : SV} {v : V} (hn : sv.own = false) (hi : i < env.length) : Kept [i] σ (σ.set i (some v)) env (env.set i (some sv)) := by
  refine ⟨by simp, fun j hj => List.getElem?_set_ne (fun z => hj (by simp [z])), fun j su e o => ?_⟩
  have nj : i ≠ j := fun z => by
    subst z
    rw [List.getElem?_set_self hi] at e
    cases e
    rw [hn] at o; cases o
  rw [List.getElem?_set_ne nj] at e ⊢
  exact ⟨e, rfl⟩
theorem none_get {α : Type} {s : List (Option α)} {i j : Nat} {x : α} (h : (s.set i none)[j]? = some (some x)) : i ≠ j ∧ s[j]? = some (some x) := by
  by_cases hj : i = j
  · subst hj
    by_cases hi : i < s.length
    · rw [List.getElem?_set_self hi] at h; cases h
    · rw [List.getElem?_eq_none (by simpa using hi)] at h; cases h
  · rw [List.getElem?_set_ne hj] at h
    exact ⟨hj, h⟩
theorem SOK.unset {H0 : Hp} {O0 : Addr → Prop} {G : List (V × D)} (i : Nat) (h : SOK K H0 O0 G env σ H) : SOK K H0 O0 G (env.set i none) (σ.set i none) H := by
  obtain ⟨O, r, z, s0, g, n⟩ := h
  refine ⟨O, ⟨by simp [r.len], fun j su e => ?_, fun j k a su sw e1 e2 o1 o2 h1 h2 => ?_, r.trk⟩, z, s0, g, fun j su a e o h1 => ?_⟩
  · obtain ⟨nj, e⟩ := none_get e
    obtain ⟨w, e1, r1⟩ := r.get j su e
    exact ⟨w, by rw [List.getElem?_set_ne nj]; exact e1, r1⟩
  · exact r.inj j k a su sw (none_get e1).2 (none_get e2).2 o1 o2 (none_get h1).2 (none_get h2).2
  · exact n j su a (none_get e).2 o (none_get h1).2
end
/-- e.at within the suite: a is the exception, dx its dict -/
def eAt (i : Nat) (a dx : Addr) : Env → R D := fun s => match s[i]? with
  | some (some (.ex a' dx' n)) => if a' = a ∧ dx' = dx then .ok (.int n) else .no
  | _ => .no
theorem de_at {X : Cx} {W : WX} {m : Bool} {a dx C : Addr} {oe : Obj} {pn : List (Addr × Obj)} {x : Str} {p pos : Pos} {i : Nat} (T : XfC X.K C) (hno : PySem.W.findIn X.K (.ref C) "at" = some none)
    (hz : L2N.Zn (.ref C) (some dx) oe) (hf : ∃ vs, oe.data = .fields vs) (he : PE (X.suite a ((a, oe) :: pn)) (.Name x p) (tVar i)) (hb : attributeBase (.Name x p) "at" X.env (eval (.Name x p) X.env) = eval (.Name x p) X.env := by rfl) :
    DE (X.suite a ((a, oe) :: pn)) W m (.Attribute (.Name x p) "at" pos) (eAt i a dx) := PE.imp (pe_xf T hno hz.zc hf he hb) fun σ H Q ⟨env, O, rs, q⟩ => by
  unfold eAt at q
  split at q
  · rename_i a' dx' k ei
    split at q
    · rename_i h
      obtain ⟨rfl, rfl⟩ := h
      obtain ⟨v, e1, ev, hd⟩ := rs.get i _ ei
      subst ev
      exact ⟨_, e1, rfl, rfl, _, _, .int k, rfl, hd, rfl, q.val (by simp [RepD])⟩
    · exact q.elim
  · exact q.elim
def Out.drop (i : Nat) : Out → Out
  | .nx e => .nx (e.set i none)
  | .bk e => .bk (e.set i none)
  | .ct e => .ct (e.set i none)
  | .exc _ _ _ => .no
  | o => o
def sTry (Fb : Env → Out) (cat : Str → Option Bool) (i : Nat) (h : Str → Int → Env → Out) : Env → Out := fun s => match Fb s with
  | .exc c n e => (match cat c with
    | some true => if i < e.length then Out.drop i (h c n e) else .no
    | some false => .exc c n e
    | none => .no)
  | o => o
section
variable {X : Cx} {W : WX} {B : Ent} {Fb : Env → Out} {pos pos' np : Pos} {x n : Str} {i : Nat} {body suite : List Stmt} {b₀ : Stmt}
theorem ds_try {cat : Str → Option Bool} {h : Str → Int → Env → Out} (Fh : Addr → Addr → Str → Env → Out) (hs : X.stack = X.env :: X.outer) (hf : X.env.frame = some X.env.locals) (hN : X.N.Nodup) (hi : X.N[i]? = some n) (hln : X.env.kindOf n = some .local)
    (hg : Gl X x) (hdb : (x == ("__debug__" : Str)) = false) (hx : ExcAt X.prog X.K X.mg x) (tk : L2N.Takes X W)
    (hb : ∀ (W' : WX) (pn : List (Addr × Obj)) (xe : Value → Shared → Prop), L2N.Takes (X.tr pn xe) W' → PassesOwn (model X.prog X.w) X.A X.env xe → DSs (X.tr pn xe) W' B body Fb)
    (hcat : ∀ c b, cat c = some b → ∀ C' C, X.mg c = some (.ref C') → X.mg x = some (.ref C) → PySem.W.exmOne X.K (.ref C') (.ref C) = some b ∧ XfC X.K C' ∧ PySem.W.findIn X.K (.ref C') "at" = some none)
    (hh : ∀ (a dx C' : Addr) (c : Str) (oe : Obj) (pn : List (Addr × Obj)), XfC X.K C' → PySem.W.findIn X.K (.ref C') "at" = some none → X.mg c = some (.ref C') → cat c = some true → L2N.Zn (.ref C') (some dx) oe → (∃ vs, oe.data = .fields vs) → DSs (X.suite a ((a, oe) :: pn)) W0 B (b₀ :: suite) (Fh a dx c))
    (hr : ∀ (a dx : Addr) (c : Str) (k : Int) (env : Env), i < env.length → Fh a dx c (env.set i (some (.ex a dx k))) = h c k env) :
    DS X W B (.Try body [.ExceptHandler (some (.Name x np)) (some n) (b₀ :: suite) pos'] [] [] pos) (sTry Fb cat i h) := fun G => by
  obtain ⟨C, D', fI, fd, hm, _, _, _⟩ := hx
  refine PS.imp (L2N.ps_try_as (c := .ref C) (tb := fun W' => tS X.K X.mg W' B.H0 B.O0 G Fb)
    (ts := fun a cls d Dd σ H => ∃ C' dx c, cls = .ref C' ∧ d = some dx ∧ XfC X.K C' ∧ PySem.W.findIn X.K (.ref C') "at" = some none ∧ X.mg c = some (.ref C') ∧ cat c = some true ∧ tS X.K X.mg W0 B.H0 B.O0 G (Fh a dx c) Dd σ H)
    hs hf hN hi hln ⟨hg, hdb, .inl hm⟩ tk (fun W' pn xe t p => hb W' pn xe t p G) fun a oe cls d pn hz hd => ⟨fun pins s σ H Dd I q => ?_⟩) fun Dd σ H ⟨env, hS, q⟩ => ?_
  · obtain ⟨C', dx, c, rfl, rfl, T, no, hmc, hcc, q⟩ := q
    exact (hh a dx C' c oe pn T no hmc hcc hz hd G).run pins s σ H Dd I q
  · refine ⟨env, hS, ?_⟩
    unfold sTry at q
    cases eF : Fb env with
    | exc c k e1 =>
      rw [eF] at q
      intro C' dx σ' H' hc hS' hd
      dsimp only at q
      cases ec : cat c with
      | none => rw [ec] at q; exact q.elim
      | some b =>
        rw [ec] at q
        obtain ⟨hex, T, no⟩ := hcat c b ec C' C hc hm
        refine ⟨b, hex, fun hbt a na => ?_, fun hbf => ?_⟩
        · subst hbt
          dsimp only at q
          split at q
          · rename_i hil
            refine ⟨C', dx, c, rfl, rfl, T, no, hc, ec, e1.set i (some (.ex a dx k)), ?_, ?_⟩
            · obtain ⟨O, r, z, s0, g, nn⟩ := hS'
              exact SOK.put (r.putN (sv := .ex a dx k) (v := .ref a) ⟨rfl, hd⟩ rfl hil) (Kept.putN rfl hil) z s0 g nn
            · rw [hr a dx c k e1 hil]
              revert q
              cases h c k e1 with
              | nx e => exact fun q σ2 H2 h2 => q _ _ (h2.unset i)
              | bk e => exact fun q σ2 H2 h2 => q _ _ (h2.unset i)
              | ct e => exact fun q σ2 H2 h2 => q _ _ (h2.unset i)
              | rt d => exact fun q => q
              | ro d => exact fun q => q
              | rk d => exact fun q => q
              | exc c k e => exact fun q => q.elim
              | no => exact fun q => q.elim
          · exact q.elim
        · subst hbf
          exact q C' dx σ' H' hc hS' hd
    | nx e => rw [eF] at q; exact q
    | bk e => rw [eF] at q; exact q
    | ct e => rw [eF] at q; exact q
    | rt d => rw [eF] at q; exact q
    | ro d => rw [eF] at q; exact q
    | rk d => rw [eF] at q; exact q
    | no => rw [eF] at q; exact q
end
theorem eAt_set {i : Nat} {env : Env} (hi : i < env.length) (a dx : Addr) (k : Int) : eAt i a dx (env.set i (some (.ex a dx k))) = .ok (.int k) := by
  unfold eAt
  rw [List.getElem?_set_self hi]
  simp
/-- what is known of c' where x is caught -/
def CatAt (K : PySem.W.Frag) (mg : Str → Option Value) (c x : Str) (b : Bool) : Prop :=
  ∀ C' C, mg c = some (.ref C') → mg x = some (.ref C) → PySem.W.exmOne K (.ref C') (.ref C) = some b ∧ XfC K C' ∧ PySem.W.findIn K (.ref C') "at" = some none
def catL (l : List (Str × Bool)) : Str → Option Bool := fun c => l.lookup c
def CatOk (K : PySem.W.Frag) (mg : Str → Option Value) (x : Str) (l : List (Str × Bool)) : Prop := ∀ c b, catL l c = some b → CatAt K mg c x b
theorem catNil {K : PySem.W.Frag} {mg : Str → Option Value} {x : Str} : CatOk K mg x [] := fun c b e => by cases e
theorem catCons {K : PySem.W.Frag} {mg : Str → Option Value} {x c : Str} {b : Bool} {l : List (Str × Bool)} (h : CatAt K mg c x b) (r : CatOk K mg x l) : CatOk K mg x ((c, b) :: l) := fun c' b' e => by
  unfold catL at e
  simp only [List.lookup] at e
  split at e
  · rename_i he
    cases e
    rw [eq_of_beq he]; exact h
  · exact r c' b' e
end DV

namespace DV
open PySem L2 PySem.Spec PyProof.Rows

/-! ### what a row must know of its exception classes, piece by piece -/
theorem init_mk {P : Program} {K : PySem.W.Frag} {mg : Str → Option Value} {D fI cc cda : Addr} {qual : Str} {params : Arguments} {dV kV doc pm ct oc ccl cl : Value} {an od cdd cld : Option Addr} {osl ccs csl : Array (Option Value)} {vs : Array Value} {file : Str} {tf : Tok} {cdD : ClassData} {ar : Arg} {p0 p1 p2 p3 p4 p5 p6 p7 p8 p9 : Pos}
    (lk : K.lookup fI = some ⟨oc, od, .func (PySem.W.fnX "__init__" qual params [.Expr (.Call (.Attribute (.Call (.Name "super" p0) [] [] p1) "__init__" p2) [.Name "at" p3] [] p4) p5, .Assign [.Attribute (.Name "self" p6) "at" p7] (.Name "at" p8) p9] initSc [("__class__", cc)] dV kV doc pm an (.ref cda) ct), osl⟩)
    (h1 : PySem.W.codeIn K (.ref cda) qual = true) (h2 : (params.posonlyargs ++ params.args).head? = some ar) (h3 : ar.arg = ("self" : Str)) (h4 : K.lookup cda = some ⟨ccl, cdd, .fields vs, ccs⟩) (h5 : vs[2]? = some (.str file tf)) (h6 : ((P.main.file : Str) == file) = true)
    (h7 : K.lookup cc = some ⟨cl, cld, .cell (some (.ref D)), csl⟩) (h8 : PySem.W.clsIn K D = some cdD) (h9 : (p2.endLine == p4.line) = true) (hs : mg "super" = none) (ht : (P.main.scope.names.lookup ("super" : Str)).isSome = false)
    (hb : ∀ a b : Value, bindArgs (PySem.W.fnX "__init__" qual params [.Expr (.Call (.Attribute (.Call (.Name "super" p0) [] [] p1) "__init__" p2) [.Name "at" p3] [] p4) p5, .Assign [.Attribute (.Name "self" p6) "at" p7] (.Name "at" p8) p9] initSc [("__class__", cc)] dV kV doc pm an (.ref cda) ct) ⟨[a, b], []⟩ = pure [(("self" : Str), a), (("at" : Str), b)])
    (hT : PySem.W.typeIn K (.ref fI) = some (.type "function")) : ∃ fd, InitK P K mg D fI fd :=
  ⟨_, ⟨qual, params, cc, cda, dV, kV, doc, pm, ct, oc, ccl, cl, an, od, cdd, cld, osl, ccs, csl, vs, file, tf, cdD, ar, p0, p1, p2, p3, p4, p5, p6, p7, p8, p9, rfl, lk, h1, h2, h3, h4, h5, h6, h7, h8, h9⟩, hs, ht, Binds.all fun us hl => by
    match us, hl with
    | [a, b], _ => exact hb a b, hT⟩
theorem raise_mk {K : PySem.W.Frag} {C D fI N : Addr} {nm q : Str} {bs bm : List Value} {sn : List Str} {sub : List Value} {ab : Bool} {col : Option Bool} {dd : Option Addr} {k0 k1 k2 k3 k5 : Option Value}
    (h1 : K.lookup C = some (excClassObj nm q C N bs bm true sn sub ab col dd k0 k1 k2 k3 k5 "ValueError.__new__")) (h2 : PySem.HandSPX.refsVE bm = true) (h3 : PySem.W.findIn K (.ref C) "__setattr__" = some (some (.builtin "object.__setattr__")))
    (h4 : PySem.W.subIn K (.ref C) (.type "BaseException") = some true) (h5 : PySem.W.typeIn K (.ref C) = some (.type "type")) (h6 : PySem.W.keepIn K (.ref C) = true) (h7 : PySem.W.findIn K (.ref C) "__init__" = some (some (.ref fI)))
    (h8 : PySem.W.mroIn K C (.ref D) = some true) (h9 : PySem.W.ks_superIn K C D "__init__" = some (some (.builtin "ValueError.__init__"))) (h10 : PySem.W.subIn K (.ref C) (.type "ValueError") = some true) (h11 : PySem.W.findIn K (.ref C) "at" = some none)
    (h12 : PySem.W.nsIn K cStatics "thirdparty.any" = some none) : RaiseK K C D fI := ⟨⟨⟨nm, q, N, bs, bm, sn, sub, ab, col, dd, k0, k1, k2, k3, k5, h1, h2⟩, h3, h4, h5, h6⟩, h7, h8, h9, h10, h11, h12⟩
theorem cat_mk {K : PySem.W.Frag} {h : Heap} {mg : Str → Option Value} {c x : Str} {C' C : Addr} {b : Bool} (X : K.In h) (G : h.Ns mainGlobals mg) (n1 : PySem.W.nsIn K mainGlobals c = some (some (.ref C'))) (n2 : PySem.W.nsIn K mainGlobals x = some (some (.ref C)))
    (e : PySem.W.exmOne K (.ref C') (.ref C) = some b) (xf : XfC K C') (no : PySem.W.findIn K (.ref C') "at" = some none) :
    ∀ A B, mg c = some (.ref A) → mg x = some (.ref B) → PySem.W.exmOne K (.ref A) (.ref B) = some b ∧ XfC K A ∧ PySem.W.findIn K (.ref A) "at" = some none := fun A B h1 h2 => by
  have e1 := h1.symm.trans (PySem.W.mg_of X G n1)
  have e2 := h2.symm.trans (PySem.W.mg_of X G n2)
  cases e1
  cases e2
  exact ⟨e, xf, no⟩
theorem exc_mk {P : Program} {K : PySem.W.Frag} {h : Heap} {mg : Str → Option Value} {c : Str} {C D fI : Addr} (X : K.In h) (G : h.Ns mainGlobals mg) (n : PySem.W.nsIn K mainGlobals c = some (some (.ref C))) (J : ∃ fd, InitK P K mg D fI fd) (R : RaiseK K C D fI) (xf : XfC K C) : ExcAt P K mg c := by
  obtain ⟨fd, J⟩ := J
  exact ⟨C, D, fI, fd, PySem.W.mg_of X G n, R, J, xf⟩
theorem exm_mk {K : PySem.W.Frag} {C' C : Addr} {cd : ClassData} {b : Bool} (h1 : PySem.W.subIn K (.ref C) (.type "BaseException") = some true) (h2 : PySem.W.clsIn K C = some cd) (h3 : PySem.W.typeIn K (.ref C) = some (.type "type")) (h4 : PySem.W.subIn K (.ref C') (.ref C) = some b) :
    PySem.W.exmOne K (.ref C') (.ref C) = some b := by
  unfold PySem.W.exmOne
  rw [if_pos (by rw [h1]; rfl)]
  unfold PySem.W.kitCls
  dsimp only
  rw [if_pos (by rw [h2, h3]; rfl), h4]
end DV

/-! ### the numbers that a law draws from its script, alike in all laws; the defs are those that gen.py prints -/
namespace DV.Draw
open PySem L2 PySem.Spec PyProof.Rows DV
def lg__law_draws_5 : D → DV.Env → R DV.Env := gSet 4
def lb__law_draws_5 : DV.Env → Out := sIf (tOf (e2 gtD (eVar 3) (eC (.int 0)))) (sSeq (sApp 1 (e2 modD (eB intD (aCons (eVar 3) (aNil))) (eC (.int 65536)))) (sSet 3 (e2 fdivD (eVar 3) (eC (.int 65536))))) (sNext)
def st__law_draws_10 : DV.Env → Out := sSet 5 (e2 modD (eB intD (aCons (e2 addD (e2 mulD (eVar 3) (eC (.int 48271))) (e2 mulD (e2 addD (eVar 2) (eC (.int 1))) (eC (.int 69621)))) (aNil))) (eC (.int 2147483647)))
def st__law_draws_11 : DV.Env → Out := sSet 5 (e2 modD (eB intD (aCons (e2 addD (e2 addD (e2 mulD (eVar 5) (eC (.int 16807))) (e2 mulD (eC (.int 11)) (eVar 2))) (eC (.int 5))) (aNil))) (eC (.int 2147483629)))
def st__law_draws_4 : DV.Env → Out := sIf (tOf (e2 geD (eVar 3) (e2 powD (eC (.int 10)) (eC (.int 18))))) (sFor (iRange1 (aCons (eC (.int 60)) (aNil))) (lg__law_draws_5) (lb__law_draws_5) [4]) (sSeq (st__law_draws_10) (sSeq (st__law_draws_11) (sSeq (sApp 1 (e2 modD (eB intD (aCons (eVar 5) (aNil))) (eC (.int 65536)))) (sApp 1 (e2 modD (eB intD (aCons (e2 fdivD (eVar 5) (eC (.int 65536))) (aNil))) (eC (.int 32768)))))))
def lg__law_draws_2 : D → DV.Env → R DV.Env := gSet 2
def lb__law_draws_2 : DV.Env → Out := sSeq (sSet 3 (eB absD (aCons (e2 ixD (eVar 0) (eVar 2)) (aNil)))) (st__law_draws_4)
def st__law_draws_2b : DV.Env → Out := sFor (iRange1 (aCons (eB min2D (aCons (eC (.int 63)) (aCons (eB lenD (aCons (eVar 0) (aNil))) (aNil)))) (aNil))) (lg__law_draws_2) (lb__law_draws_2) [2, 3, 4, 5]
def b__law_draws : DV.Env → Out := sSeq (sNew 1 (nLst (aNil))) (sSeq (st__law_draws_2b) (sRetO 1))
def F__law_draws : List D → FR := fnD 6 1 b__law_draws
def st__law_mix_2 : DV.Env → Out := sIf (tOf (e2 gtD (eB lenD (aCons (eVar 0) (aNil))) (eC (.int 0)))) (sSet 3 (e2 ixD (eVar 0) (e2 modD (eB intD (aCons (eVar 1) (aNil))) (eB lenD (aCons (eVar 0) (aNil)))))) (sNext)
def st__law_mix_4 : DV.Env → Out := sIf (tOf (e2 ltD (eVar 1) (eB lenD (aCons (eVar 0) (aNil))))) (sRet (e2 modD (eB intD (aCons (eVar 3) (aNil))) (eVar 2))) (sNext)
def st__law_mix_6 : DV.Env → Out := sRet (e2 modD (eB intD (aCons (e2 fdivD (eB intD (aCons (e2 addD (e2 mulD (eVar 3) (eC (.int 7919))) (e2 mulD (eVar 1) (eC (.int 104729)))) (aNil))) (eC (.int 3))) (aNil))) (eVar 2))
def b__law_mix : DV.Env → Out := sSeq (sSet 3 (eC (.int 0))) (sSeq (st__law_mix_2) (sSeq (st__law_mix_4) (st__law_mix_6)))
def F__law_mix : List D → FR := fnD 4 3 b__law_mix

/-- what was drawn so far: none more than 65535 -/
def Drawn (ds : List Int) : Prop := ∀ d ∈ ds, 0 ≤ d ∧ d < 65536
theorem Drawn.snoc {ds : List Int} {d : Int} (h : Drawn ds) (h0 : 0 ≤ d) (h1 : d < 65536) : Drawn (ds ++ [d]) := by
  intro x hx
  rcases List.mem_append.mp hx with hx | hx
  · exact h x hx
  · rw [List.mem_singleton.mp hx]; exact ⟨h0, h1⟩

def stD (ns ds : List Int) : DV.Env := [some (.d (.scr ns)), some (.ol (ds.map D.int)), none, none, none, none]
theorem turn_in (ns ds : List Int) (k : Int) (hl : ds.length ≤ 3780) (hd : Drawn ds) (r : Int) (hr : 0 ≤ r) :
    ∃ rs r', forD lg__law_draws_5 lb__law_draws_5 [4] (rngD 0 60) [some (.d (.scr ns)), some (.ol (ds.map D.int)), some (.d (.int k)), some (.d (.int r)), none, none] = .nx [some (.d (.scr ns)), some (.ol ((ds ++ rs).map D.int)), some (.d (.int k)), some (.d (.int r')), none, none] ∧ Drawn (ds ++ rs) ∧ rs.length ≤ 60 := by
  have loop := forD_inv (g := lg__law_draws_5) (F := lb__law_draws_5) (wp := [4])
    (fun ys s => ∃ (rs : List Int) (r' : Int), s = [some (.d (.scr ns)), some (.ol ((ds ++ rs).map D.int)), some (.d (.int k)), some (.d (.int r')), none, none] ∧ Drawn (ds ++ rs) ∧ 0 ≤ r' ∧ rs.length + ys.length ≤ 60)
    ?inner (rngD 0 60) [some (.d (.scr ns)), some (.ol (ds.map D.int)), some (.d (.int k)), some (.d (.int r)), none, none] ⟨[], r, by simp, by simpa using hd, hr, by simp [rngD_length]⟩
  · obtain ⟨s', h1, rs, r', rfl, h3, h4, h5⟩ := loop
    exact ⟨rs, r', h1, h3, by simpa using h5⟩
  · rintro y ys s ⟨rs, r', rfl, h1, h2, h3⟩
    simp only [List.length_cons] at h3
    by_cases hp : 0 < r'
    · refine ⟨[some (.d (.scr ns)), some (.ol ((ds ++ rs).map D.int)), some (.d (.int k)), some (.d (.int r')), some (.d y), none], [some (.d (.scr ns)), some (.ol ((ds ++ (rs ++ [r' % 65536])).map D.int)), some (.d (.int k)), some (.d (.int (r' / 65536))), some (.d y), none], by simp [lg__law_draws_5], .inl ?_, rs ++ [r' % 65536], r' / 65536, by simp, ?_, by omega, by simp; omega⟩
      · have : ds.length + rs.length < 1000000 := by omega
        simp [lb__law_draws_5, hp, this]
      · rw [← List.append_assoc]
        exact h1.snoc (by omega) (by omega)
    · refine ⟨[some (.d (.scr ns)), some (.ol ((ds ++ rs).map D.int)), some (.d (.int k)), some (.d (.int r')), some (.d y), none], [some (.d (.scr ns)), some (.ol ((ds ++ rs).map D.int)), some (.d (.int k)), some (.d (.int r')), some (.d y), none], by simp [lg__law_draws_5], .inl ?_, rs, r', by simp, h1, h2, by omega⟩
      simp [lb__law_draws_5, hp]
theorem turn_out (ns ds : List Int) (k : Nat) (hk : k < ns.length) (hl : ds.length ≤ 3720) (hd : Drawn ds) :
    ∃ es, lb__law_draws_2 [some (.d (.scr ns)), some (.ol (ds.map D.int)), some (.d (.int (k : Int))), none, none, none] = .nx es ∧ ∃ rs, wipeE es [2, 3, 4, 5] = stD ns (ds ++ rs) ∧ Drawn (ds ++ rs) ∧ rs.length ≤ 60 := by
  have hat : ixD (.scr ns) (.int (k : Int)) = .ok (.int ns[k]) := ixD_scr (by omega) (by simp [hk])
  generalize hr : (if ns[k] < 0 then -ns[k] else ns[k]) = r
  have hnn : (0 : Int) ≤ r := by rw [← hr]; split <;> omega
  by_cases hbig : (1000000000000000000 : Int) ≤ r
  · obtain ⟨rs, r', h1, h2, h3⟩ := turn_in ns ds k (by omega) hd r hnn
    refine ⟨[some (.d (.scr ns)), some (.ol ((ds ++ rs).map D.int)), some (.d (.int (k : Int))), some (.d (.int r')), none, none], ?_, rs, by simp [stD], h2, h3⟩
    simp [lb__law_draws_2, st__law_draws_4, hat, hr, hbig, h1]
  · have h1 : ds.length < 1000000 := by omega
    have h2 : ds.length + 1 < 1000000 := by omega
    have h3 : (-18446744073709551616 < r ∧ r < 18446744073709551616) := by omega
    refine ⟨[some (.d (.scr ns)), some (.ol ((ds ++ [(((r * 48271 + (k + 1) * 69621) % 2147483647 * 16807 + 11 * k + 5) % 2147483629) % 65536, (((r * 48271 + (k + 1) * 69621) % 2147483647 * 16807 + 11 * k + 5) % 2147483629) / 65536 % 32768]).map D.int)), some (.d (.int (k : Int))), some (.d (.int r)), none, some (.d (.int (((r * 48271 + (k + 1) * 69621) % 2147483647 * 16807 + 11 * k + 5) % 2147483629)))], ?_, [_, _], by simp [stD]; exact ⟨rfl, rfl⟩, ?_, ?_⟩
    · simp [lb__law_draws_2, st__law_draws_4, st__law_draws_10, st__law_draws_11, hat, hr, hbig, h1, h2]
    · have := (hd.snoc (d := (((r * 48271 + (k + 1) * 69621) % 2147483647 * 16807 + 11 * k + 5) % 2147483629) % 65536) (by omega) (by omega)).snoc (d := (((r * 48271 + (k + 1) * 69621) % 2147483647 * 16807 + 11 * k + 5) % 2147483629) / 65536 % 32768) (by omega) (by omega)
      simpa using this
    · simp

theorem draws_ok (ns : List Int) (hn : ns.length ≤ 63) : ∃ ds : List Int, F__law_draws [.scr ns] = .ol (ds.map D.int) ∧ Drawn ds ∧ ds.length ≤ 3780 := by
  have key := forD_inv (g := lg__law_draws_2) (F := lb__law_draws_2) (wp := [2, 3, 4, 5])
      (fun xs s => ∃ k : Nat, xs = (rngD 0 ns.length).drop k ∧ k + xs.length = ns.length ∧ ∃ ds, s = stD ns ds ∧ Drawn ds ∧ ds.length ≤ 60 * k) ?step (rngD 0 ns.length) (stD ns []) ⟨0, rfl, by simp [rngD_length], [], rfl, fun _ h => by simp at h, by simp⟩
  · obtain ⟨s', h, k, e, hk, ds, h2, h3, h4⟩ := key
    refine ⟨ds, ?_, h3, by simp at hk; omega⟩
    have hmin : (if (ns.length : Int) < 63 then (ns.length : Int) else 63) = ns.length := by split <;> omega
    have hb1 : (ns.length : Int) < 4611686018427387904 := by omega
    have hb2 : (-4611686018427387904 : Int) ≤ ns.length := by omega
    simp only [stD, List.map_nil] at h
    simp [F__law_draws, b__law_draws, st__law_draws_2b, hmin, hb1, hb2, h, h2, stD]
  · rintro x xs s ⟨k, e, hk, ds, rfl, hd, hl⟩
    have hk1 : k < ns.length := by simp at hk; omega
    have hx : x = .int k := by
      have := congrArg List.head? e
      simp [rngD, List.head?_drop, hk1] at this
      exact this
    have hxs : xs = (rngD 0 ns.length).drop (k + 1) := by
      have := congrArg List.tail e
      simpa using this
    subst hx
    obtain ⟨es, h1, rs, h2, h3, h4⟩ := turn_out ns ds k hk1 (by omega) hd
    exact ⟨[some (.d (.scr ns)), some (.ol (ds.map D.int)), some (.d (.int (k : Int))), none, none, none], es, by simp [stD, lg__law_draws_2], .inl h1, k + 1, hxs, by simp at hk; omega, ds ++ rs, h2, h3, by simp; omega⟩

/-- a number below many, mixed of what was drawn -/
theorem mix_ok (ds : List Int) (hd : Drawn ds) (k many : Int) (hk : 0 ≤ k) (hm : 0 < many) : ∃ r : Int, F__law_mix [.lst (ds.map D.int), .int k, .int many] = .val (.int r) ∧ 0 ≤ r ∧ r < many := by
  by_cases hl : 0 < ds.length
  · have hl' : (0 : Int) < ds.length := by omega
    have h0 : 0 ≤ k % (ds.length : Int) := Int.emod_nonneg _ (by omega)
    have h1 : k % (ds.length : Int) < ds.length := Int.emod_lt_of_pos _ hl'
    obtain ⟨c, hc⟩ : ∃ c, ds[(k % (ds.length : Int)).toNat]? = some c := ⟨ds[(k % (ds.length : Int)).toNat]'(by omega), by simp⟩
    have hat := ixD_ints h0 hc
    by_cases hlt : k < (ds.length : Int)
    · refine ⟨c % many, ?_, Int.emod_nonneg _ (by omega), Int.emod_lt_of_pos _ hm⟩
      simp [F__law_mix, b__law_mix, st__law_mix_2, st__law_mix_4, hl, hat, hlt, hm]
    · refine ⟨(c * 7919 + k * 104729) / 3 % many, ?_, Int.emod_nonneg _ (by omega), Int.emod_lt_of_pos _ hm⟩
      · simp [F__law_mix, b__law_mix, st__law_mix_2, st__law_mix_4, st__law_mix_6, hl, hat, hlt, hm]
  · have h0 : ds = [] := by
      cases ds with
      | nil => rfl
      | cons a b => simp at hl
    subst h0
    refine ⟨(k * 104729) / 3 % many, ?_, Int.emod_nonneg _ (by omega), Int.emod_lt_of_pos _ hm⟩
    · have hlt : ¬ k < 0 := by omega
      simp [F__law_mix, b__law_mix, st__law_mix_2, st__law_mix_4, st__law_mix_6, hlt, hm]
/-- the number that is mixed -/
def mixV (ds : List Int) (k many : Int) : Int := match F__law_mix [.lst (ds.map D.int), .int k, .int many] with
  | .val (.int r) => r
  | _ => 0
theorem mixV_ok (ds : List Int) (hd : Drawn ds) (k many : Int) (hk : 0 ≤ k) (hm : 0 < many) : F__law_mix [.lst (ds.map D.int), .int k, .int many] = .val (.int (mixV ds k many)) ∧ 0 ≤ mixV ds k many ∧ mixV ds k many < many := by
  obtain ⟨r, h, h0, h1⟩ := mix_ok ds hd k many hk hm
  have : mixV ds k many = r := by unfold mixV; rw [h]
  rw [this]; exact ⟨h, h0, h1⟩
end DV.Draw

namespace DV
open PySem L2 PySem.Spec PyProof.Rows

/-! ### list(range(..)) -/
section
variable {K : PySem.W.Frag} {mg : Str → Option Value} {W : WX} {O : Addr → Prop} {H : Hp} {σ : L2.St} {env : Env} {f g : Env → R D}
theorem finN1 {Q : VK} {k : D → R (List D)} {m1 : Bool} (r : RepS K O H σ env) (q : FinN K mg W O σ H Q ((f env).bind k)) {Q1 : VK}
    (hk : ∀ d v H1, f env = .ok d → Same H H1 → RepM K O H1 m1 d v → RepS K O H1 σ env → FinN K mg W O σ H1 Q (k d) → Q1 v H1) : tD K mg W m1 f σ H Q1 := by
  refine ⟨env, O, r, ?_⟩
  revert q hk
  cases f env with
  | ok d => exact fun q hk v H1 s z => hk d v H1 rfl s z (r.same s) (FinN.same s q)
  | exc c n => exact fun q hk => q
  | no => exact fun q hk => q
theorem repDs_rg (a b : Int) : RepDs K O H (rngD a (b - a).toNat) (rgV a b) := by
  unfold rngD rgV
  generalize List.range (b - a).toNat = l
  induction l with
  | nil => simp [RepDs]
  | cons x xs ih =>
    simp only [List.map_cons, RepDs]
    exact ⟨_, _, rfl, by simp [RepD], ih⟩
end
def rgD (lo n : Int) : R (List D) := if -1000000 ≤ lo ∧ lo ≤ 1000000 ∧ -1000000 ≤ n ∧ n ≤ 1000000 ∧ (n - lo).toNat ≤ 1000000 then .ok (rngD lo (n - lo).toNat) else .no
def rg1 : D → R (List D)
  | .int n => rgD 0 n
  | _ => .no
def rg2 : D → D → R (List D)
  | .int a, .int n => rgD a n
  | _, _ => .no
def nRg1 (f : Env → R D) : Env → R (List D) := fun s => (f s).bind rg1
def nRg2 (f g : Env → R D) : Env → R (List D) := fun s => (f s).bind fun x => (g s).bind fun y => rg2 x y
section
variable {X : Cx} {W : WX} {f g : Env → R D} {a b : Expr} {p p2 q pos : Pos}
theorem rgD_end {K : PySem.W.Frag} {mg : Str → Option Value} {W : WX} {O : Addr → Prop} {σ : L2.St} {H : Hp} {Q : VK} {lo n : Int} (q : FinN K mg W O σ H Q (rgD lo n)) : RgOk lo n ∧ ∀ p, H p = none → Q (.ref p) (upd H p (.lst (rgV lo n))) := by
  unfold rgD at q
  split at q
  · rename_i h
    exact ⟨⟨by omega, by omega, by omega, by omega, by omega⟩, fun p np => q.put (repDs_rg lo n) np⟩
  · exact q.elim
theorem dn_listR1 (hc : X.calm = true) (hg : Gl X "list") (hm : X.mg "list" = none) (hg2 : Gl X "range") (hm2 : X.mg "range" = none) (ha : DE X W true a f) (na : starEach [a] X.env = (false, eval a X.env) :: starEach [] X.env := by rfl)
    (nb : starEach [Expr.Call (.Name "range" p2) [a] [] q] X.env = (false, eval (.Call (.Name "range" p2) [a] [] q) X.env) :: starEach [] X.env := by rfl) : DN X W (.Call (.Name "list" p) [.Call (.Name "range" p2) [a] [] q] [] pos) (nRg1 f) :=
  PE.imp (pe_listRg hc hg hm (prg_1 hg2 hm2 ha na) nb) fun σ H Q ⟨env, O, rs, q⟩ => by
    refine finN1 (m1 := true) rs q fun d v H1 _ s1 rv rs1 q1 => ?_
    cases d with
    | int n =>
      rw [repInt] at rv
      exact ⟨n, rv, rgD_end q1⟩
    | _ => exact q1.elim
theorem dn_listR2 (hc : X.calm = true) (hg : Gl X "list") (hm : X.mg "list" = none) (hg2 : Gl X "range") (hm2 : X.mg "range" = none) (ha : DE X W true a f) (hb : DE X W true b g) (na : starEach [a, b] X.env = (false, eval a X.env) :: starEach [b] X.env := by rfl) (nb : starEach [b] X.env = (false, eval b X.env) :: starEach [] X.env := by rfl)
    (hp : (backTo q (starEach [b] X.env)).any (·.1) = false := by rfl)
    (nc : starEach [Expr.Call (.Name "range" p2) [a, b] [] q] X.env = (false, eval (.Call (.Name "range" p2) [a, b] [] q) X.env) :: starEach [] X.env := by rfl) : DN X W (.Call (.Name "list" p) [.Call (.Name "range" p2) [a, b] [] q] [] pos) (nRg2 f g) :=
  PE.imp (pe_listRg hc hg hm (prg_2 hg2 hm2 ha hb na nb hp) nc) fun σ H Q ⟨env, O, rs, q⟩ => by
    refine finN1 (m1 := true) rs q fun d v H1 _ s1 rv rs1 q1 => ?_
    refine finN1 (m1 := true) rs1 q1 fun e w H2 _ s2 rw' rs2 q2 => ?_
    cases d with
    | int n =>
      cases e with
      | int k =>
        rw [repInt] at rv rw'
        exact ⟨n, k, rv, rw', rgD_end q2⟩
      | _ => exact q2.elim
    | _ => exact q2.elim
end

/-! ### is True, is False -/
def isBD : D → D → R D
  | .bl a, .bl b => .ok (.bl (decide (a = b)))
  | _, _ => .no
theorem isBD_nx : ∀ x y c n, isBD x y ≠ .exc c n := fun x y c n => by cases x <;> cases y <;> simp [isBD]
theorem o2_is {K : PySem.W.Frag} : Op2 K rIsB isBD := fun mg O m σ env H Q x y v w r hx hy q => by
  cases x <;> cases y <;> try exact q.elim
  rename_i a b
  rw [repBl] at hx hy
  exact ⟨a, b, hx, hy, q.val (by simp [RepD])⟩
def isntBD : D → D → R D
  | .bl a, .bl b => .ok (.bl (!decide (a = b)))
  | _, _ => .no
theorem isntBD_nx : ∀ x y c n, isntBD x y ≠ .exc c n := fun x y c n => by cases x <;> cases y <;> simp [isntBD]
theorem o2_isnt {K : PySem.W.Frag} : Op2 K rNotB isntBD := fun mg O m σ env H Q x y v w r hx hy q => by
  cases x <;> cases y <;> try exact q.elim
  rename_i a b
  rw [repBl] at hx hy
  exact ⟨a, b, hx, hy, q.val (by simp [RepD])⟩
@[simp] theorem isBD_bl (a b : Bool) : isBD (.bl a) (.bl b) = .ok (.bl (decide (a = b))) := Eq.trans rfl rfl
@[simp] theorem isntBD_bl (a b : Bool) : isntBD (.bl a) (.bl b) = .ok (.bl (!decide (a = b))) := Eq.trans rfl rfl
@[simp] theorem rg1_int (n : Int) : rg1 (.int n) = rgD 0 n := Eq.trans rfl rfl
@[simp] theorem rg2_int (a n : Int) : rg2 (.int a) (.int n) = rgD a n := Eq.trans rfl rfl
@[simp] theorem nRg1_ap (f : Env → R D) (s : Env) : nRg1 f s = (f s).bind rg1 := Eq.trans rfl rfl
@[simp] theorem nRg2_ap (f g : Env → R D) (s : Env) : nRg2 f g s = (f s).bind fun x => (g s).bind fun y => rg2 x y := Eq.trans rfl rfl

/-! ### len(set(xs)), ints -/
def distinct (ns : List Int) : Nat := (PyProof.Rows.firstMet (fun i => ns.getD i 0) ns.length).length
def tLenSetA (K : PySem.W.Frag) (ta : TE) : TE := fun σ H Q => ta σ H fun x H1 => ∃ (l : Addr) (ns : List Int), x = .ref l ∧ SqL K H1 l (ns.map V.int) ∧ ns.length ≤ 4000 ∧ Q (.int (distinct ns : Nat)) H1
theorem pe_lenSetA {X : Cx} {a : Expr} {ta : TE} {p p2 q pos : Pos} (hc : X.calm = true) (hg : Gl X "len") (hm : X.mg "len" = none) (hg2 : Gl X "set") (hm2 : X.mg "set" = none) (ha : PE X a ta)
    (na : starEach [a] X.env = (false, eval a X.env) :: starEach [] X.env) : PE X (.Call (.Name "len" p) [.Call (.Name "set" p2) [a] [] q] [] pos) (tLenSetA X.K ta) := by
  constructor
  intro pins s σ H Q I h
  have inner : wpAny (model X.prog X.w) X.A (eval (.Call (.Name "set" p2) [a] [] q) X.env) (fun u s2 => ∃ (b : Addr) (ns : List Int) (H1 : Hp) (o : Obj) (es : Array (Int × Value)) (ep : Nat) (t : SetTable), u = .ref b ∧ Inv X pins σ H1 s2 ∧ s2.heap.get? b = some o ∧ o.ExactSet ∧ o.data = .set es ep t ∧ t.fits es.size = true ∧ es.size = distinct ns ∧ distinct ns ≤ 4000 ∧ Q (.int (distinct ns : Nat)) H1) X.xe s := by
    refine Call_ (ld_blt I hg2 hm2 boot_set (PyProof.Rows.callWith_type1 (PyProof.Rows.args_cons (thn (ha.run pins s σ H _ I h) fun v s1 y => PyProof.Rows.args_nil ?_) na) na rfl))
    obtain ⟨x, H1, I1, r1, l, ns, rfl, hq, hl, q1⟩ := y
    cases r1
    obtain ⟨its, r, pl, hz⟩ := I1.list hq
    have hlen : its.toArray.size = ns.length := by
      have := r.length
      simp at this ⊢
      omega
    have hia : PyProof.Rows.IntsAre its.toArray.toList ns := by simpa using RZ.intsAre_vals r
    refine PySem.call_set_list (I1.ok.hd hc) pl.isList hia (by rw [hlen]; unfold scanBound; omega) fun h' tk hS hk => ?_
    rw [hlen] at hS
    obtain ⟨o, es, ep, t, ho, hex, hd, _, _, _, hf, hn⟩ := hS
    exact ⟨_, ns, H1, o, es, ep, t, rfl, I1.kept fun b o e => hk b o (Heap.lt_size e) e, ho, hex, hd, hf, hn, Nat.le_trans (PyProof.Rows.firstMet_length_le _ _) hl, q1⟩
  have ni : starEach [Expr.Call (.Name "set" p2) [a] [] q] X.env = (false, eval (.Call (.Name "set" p2) [a] [] q) X.env) :: starEach [] X.env := rfl
  refine Call_ (ld_blt I hg hm boot_len (PyProof.Rows.callWith_builtin1 (PyProof.Rows.args_cons (thn inner fun v s1 y => PyProof.Rows.args_nil ?_) ni) ni rfl))
  obtain ⟨b, ns, H1, o, es, ep, t, rfl, I1, ho, hex, hd, hf, hn, hl, q1⟩ := y
  exact call_len_set ho hex hd hf (by rw [hn]; omega) ⟨.int (distinct ns : Nat), H1, I1.tok _, ⟨_, by rw [hn]⟩, q1⟩
def lenSetK : D → R D
  | .lst xs => match ints? xs with
    | some ns => if ns.length ≤ 4000 then .ok (.int (distinct ns : Nat)) else .no
    | none => .no
  | _ => .no
def eLenSet (f : Env → R D) : Env → R D := fun s => (f s).bind lenSetK
theorem de_lenSet {X : Cx} {W : WX} {m : Bool} {a : Expr} {f : Env → R D} {p p2 q pos : Pos} (hc : X.calm = true) (hg : Gl X "len") (hm : X.mg "len" = none) (hg2 : Gl X "set") (hm2 : X.mg "set" = none) (ha : DE X W true a f)
    (na : starEach [a] X.env = (false, eval a X.env) :: starEach [] X.env := by rfl) : DE X W m (.Call (.Name "len" p) [.Call (.Name "set" p2) [a] [] q] [] pos) (eLenSet f) :=
  PE.imp (pe_lenSetA hc hg hm hg2 hm2 ha na) fun σ H Q ⟨env, O, rs, q⟩ => by
    refine fin1 (m1 := true) rs q fun d v H1 _ s1 rv rs1 q1 => ?_
    cases d with
    | lst xs =>
      simp only [lenSetK] at q1
      cases e : ints? xs with
      | none => rw [e] at q1; exact q1.elim
      | some ns =>
        rw [e] at q1
        dsimp only at q1
        split at q1
        · rename_i hl
          obtain ⟨l, vs, rfl, hs, hr⟩ : ∃ a vs, v = .ref a ∧ H1 a = some (.lst vs) ∧ RepDs X.K O H1 xs vs := by
            have : RepTop X.K O H1 (.lst xs) v := rv
            simpa only [RepTop] using this
          rw [ints?_eq e] at hr
          have := repInts hr
          subst this
          exact ⟨l, ns, rfl, .of hs, hl, q1.val (by simp [RepD])⟩
        · exact q1.elim
    | _ => exact q1.elim
@[simp] theorem eLenSet_ap (f : Env → R D) (s : Env) : eLenSet f s = (f s).bind lenSetK := Eq.trans rfl rfl
theorem lenSetK_ints (ns : List Int) (h : ns.length ≤ 4000) : lenSetK (.lst (ns.map D.int)) = .ok (.int (distinct ns : Nat)) := by
  simp only [lenSetK, ints?_map]
  rw [if_pos h]
end DV

namespace DV
open PySem L2 PySem.Spec PyProof.Rows

/-! ### [x for a in b if .. for x in c if ..] -/
def lc2Go (g : D → Env → R Env) (t : Env → R Bool) (it1 : Env → R (List D)) (g1 : D → Env → R Env) (t1 : Env → R Bool) (elt : Env → R D) (own1 : List Nat) (s : Env) : List D → R (List D)
  | [] => .ok []
  | x :: xs => (nx (g x s)).bind fun s1 => (nx (t s1)).bind fun b => if b = true then (nx (it1 s1)).bind fun ys => (nx (lcGo g1 t1 elt (wipeE s1 own1) ys)).bind fun zs => (lc2Go g t it1 g1 t1 elt own1 s xs).bind fun r => if zs.length + r.length ≤ 1000000 then .ok (zs ++ r) else .no
    else lc2Go g t it1 g1 t1 elt own1 s xs
def nLc2 (it : Env → R (List D)) (g : D → Env → R Env) (t : Env → R Bool) (it1 : Env → R (List D)) (g1 : D → Env → R Env) (t1 : Env → R Bool) (elt : Env → R D) (own own1 : List Nat) : Env → R (List D) :=
  fun s => (it s).bind fun xs => nx (lc2Go g t it1 g1 t1 elt own1 (wipeE s own) xs)
theorem nx_bind {α β : Type} {r : R α} {k : α → R β} {b : β} (h : (nx r).bind k = .ok b) : ∃ a, r = .ok a ∧ k a = .ok b := by
  cases r with
  | ok a => exact ⟨a, rfl, h⟩
  | exc c n => cases h
  | no => cases h
theorem bind_okk {α β : Type} {r : R α} {k : α → R β} {b : β} (h : r.bind k = .ok b) : ∃ a, r = .ok a ∧ k a = .ok b := by
  cases r with
  | ok a => exact ⟨a, rfl, h⟩
  | exc c n => cases h
  | no => cases h
section
variable {K : PySem.W.Frag} {mg : Str → Option Value} {W : WX} {m : Bool} {it it1 : Env → R (List D)} {g g1 : D → Env → R Env} {t t1 : Env → R Bool} {elt : Env → R D} {own ts own1 ts1 : List Nat}
theorem lc2_len : ∀ {s : Env} {xs ys : List DV.D}, lc2Go g t it1 g1 t1 elt own1 s xs = .ok ys → ys.length ≤ 1000000
  | s, [], ys, h => by cases h; simp
  | s, x :: xs, ys, h => by
    simp only [lc2Go] at h
    obtain ⟨s1, _, h⟩ := nx_bind h
    obtain ⟨b, _, h⟩ := nx_bind h
    cases b with
    | false => simp only [Bool.false_eq_true, if_false] at h; exact lc2_len h
    | true =>
      simp only [if_true] at h
      obtain ⟨us, _, h⟩ := nx_bind h
      obtain ⟨zs, _, h⟩ := nx_bind h
      obtain ⟨r, _, h⟩ := bind_okk h
      split at h
      · rename_i hz; cases h; simpa using hz
      · cases h
theorem lc2_tN (hto : ∀ j ∈ ts, j ∈ own) (hto1 : ∀ j ∈ ts1, j ∈ own1) (σ : L2.St) (H : Hp) (Q : VK) (h : tN K mg W (nLc2 it g t it1 g1 t1 elt own own1) σ H Q) :
    tLc2 (tI K mg W m it) (tG K ts g) (tT K mg W0 t) (tI K mg W0 false it1) (tG K ts1 g1) (tT K mg W0 t1) (tD K mg W0 false elt) own own1 σ H Q := by
  obtain ⟨env, O, rs, q⟩ := h
  unfold nLc2 at q
  refine ⟨env, O, rs, ?_⟩
  revert q
  cases it env with
  | exc c n => exact fun q => q
  | no => exact fun q => q
  | ok xs =>
    intro q J G H1 s1 hG hJ D hD
    have rs1 := rs.same s1
    have q1 := FinN.same s1 q
    rw [R.bind_ok] at q1
    cases er : lc2Go g t it1 g1 t1 elt own1 (wipeE env own) xs with
    | exc c n => rw [er] at q1; exact q1.elim
    | no => rw [er] at q1; exact q1.elim
    | ok ys =>
      rw [er, nx_ok] at q1
      have hlen := lc2_len er
      refine ⟨fun i m' H => m' = xs.length - i ∧ i ≤ xs.length ∧ Same H1 H ∧ ∃ acc accv zs, H D = some (.lst accv) ∧ RepDs K (fun a => O a ∨ a = D) H acc accv ∧ lc2Go g t it1 g1 t1 elt own1 (wipeE env own) (xs.drop i) = .ok zs ∧ ys = acc ++ zs,
        ⟨xs.length, by simp, Nat.zero_le _, Same.new' hD, [], [], ys, upd_same, .nil, by simpa using er, by simp⟩, ?_⟩
      rintro i m' H2 ⟨rfl, hi, s2, acc, accv, zs, hDv, ra, eg, ey⟩
      have tr : ∀ {H' : Hp}, Same H1 H' → (∃ av, H' D = some (.lst av)) → ∀ a, (O a ∨ a = D) → H' a ≠ none := fun {H'} sm hv a ha z => by
        rcases ha with ha | ha
        · cases e : H1 a with
          | none => exact rs1.trk a ha e
          | some o => rw [sm a o e] at z; cases z
        · subst ha
          obtain ⟨av, hv⟩ := hv
          rw [hv] at z; cases z
      have tr2 := tr s2 ⟨_, hDv⟩
      have hG2 : ∀ p ∈ G, RepM K (fun a => O a ∨ a = D) H2 m p.2 p.1 := fun p hp => ((hG p hp).avoid hD).same s2
      have rsH : RepS K (fun a => O a ∨ a = D) H2 σ env := ⟨rs1.len, fun j sv e => let ⟨v, e1, h1⟩ := rs1.get j sv e; ⟨v, e1, (h1.avoid hD).same s2⟩, rs1.inj, tr2⟩
      by_cases hlt : i < xs.length
      · refine .inr ⟨((hJ _ H2 tr2 hG2 i).1 xs[i] (List.getElem?_eq_getElem hlt)).1, fun H' => ∃ m', m' < xs.length - i ∧ (m' = xs.length - (i + 1) ∧ i + 1 ≤ xs.length ∧ Same H1 H' ∧ ∃ acc accv zs, H' D = some (.lst accv) ∧ RepDs K (fun a => O a ∨ a = D) H' acc accv ∧ lc2Go g t it1 g1 t1 elt own1 (wipeE env own) (xs.drop (i + 1)) = .ok zs ∧ ys = acc ++ zs), fun _ z => z, fun v H3 y => ?_⟩
        obtain ⟨s3, rv⟩ := ((hJ _ H2 tr2 hG2 i).1 xs[i] (List.getElem?_eq_getElem hlt)).2 v H3 y
        have ed : xs.drop i = xs[i] :: xs.drop (i + 1) := List.drop_eq_getElem_cons hlt
        rw [ed] at eg
        simp only [lc2Go] at eg
        obtain ⟨env1, e1, eg⟩ := nx_bind eg
        obtain ⟨b, e2, eg⟩ := nx_bind eg
        refine ⟨wipeE env own, fun a => O a ∨ a = D, xs[i], (rsH.same s3).wipe own, rv, ?_⟩
        rw [e1]
        intro σ2 rs4 kk
        refine ⟨kept_wipe kk hto, env1, fun a => O a ∨ a = D, rs4, ?_⟩
        rw [e2]
        intro H4 s4
        have s24 : Same H2 H4 := s3.trans s4
        cases b with
        | false =>
          simp only [Bool.false_eq_true, if_false] at eg ⊢
          exact ⟨_, by omega, rfl, hlt, s2.trans s24, acc, accv, zs, s24 _ _ hDv, ra.same s24, eg, ey⟩
        | true =>
          simp only [if_true] at eg ⊢
          obtain ⟨us, e3, eg⟩ := nx_bind eg
          obtain ⟨ws, e4, eg⟩ := nx_bind eg
          obtain ⟨r, e5, eg⟩ := bind_okk eg
          have ez : zs = ws ++ r := by
            split at eg
            · cases eg; rfl
            · cases eg
          have rs5 := rs4.same s4
          refine ⟨env1, fun a => O a ∨ a = D, rs5, ?_⟩
          rw [e3]
          intro J1 G1 H5 s5 hG1 hJ1
          have s25 : Same H2 H5 := s24.trans s5
          have s15 : Same H1 H5 := s2.trans s25
          have rs6 := rs5.same s5
          refine ⟨fun j k H => k = us.length - j ∧ j ≤ us.length ∧ (∀ a o, H5 a = some o → a ≠ D → H a = some o) ∧ Same H1 H ∧ ∃ acc2 accv2 zs2, H D = some (.lst accv2) ∧ RepDs K (fun a => O a ∨ a = D) H acc2 accv2 ∧ lcGo g1 t1 elt (wipeE env1 own1) (us.drop j) = .ok zs2 ∧ ys = acc2 ++ (zs2 ++ r),
            ⟨us.length, by simp, Nat.zero_le _, fun a o e _ => e, s15, acc, accv, ws, s25 _ _ hDv, ra.same s25, by simpa using e4, by rw [ey, ez]⟩, ?_⟩
          rintro j k H6 ⟨rfl, hj, k6, s6, acc2, accv2, zs2, hDv6, ra6, eg6, ey6⟩
          have tr6 := tr s6 ⟨_, hDv6⟩
          have kp6 : Keep (fun a => O a ∨ a = D) H5 H6 := fun a o e c => by
            by_cases ha : a = D
            · subst ha
              have hm := s25 _ _ hDv
              rw [hm] at e
              cases e
              rcases c with c | c
              · exact absurd (.inr rfl) c
              · exact absurd True.intro c
            · exact k6 a o e ha
          have hG6 : ∀ p ∈ G1, RepM K (fun a => O a ∨ a = D) H6 false p.2 p.1 := fun p hp => RepD.keep kp6 (fun _ z => z) _ _ (hG1 p hp)
          have rsH6 : RepS K (fun a => O a ∨ a = D) H6 σ2 env1 := by
            refine ⟨rs6.len, fun n sv e => ?_, rs6.inj, tr6⟩
            obtain ⟨v2, ev, rv2⟩ := rs6.get n sv e
            refine ⟨v2, ev, ?_⟩
            by_cases ho : sv.own = true
            · obtain ⟨f1, f2⟩ := kk.2.2 n sv e ho
              obtain ⟨f3, f4⟩ := wipeE_some f1
              obtain ⟨v3, e3', rv3⟩ := rs1.get n sv f3
              rw [f2, wipe_get f4, e3'] at ev
              cases ev
              exact (rv3.avoid hD).same s6
            · cases sv with
              | d x => exact RepD.keep kp6 (fun _ z => z) _ _ rv2
              | ex a dx kx =>
                refine ⟨rv2.1, k6 _ _ rv2.2 fun z => ?_⟩
                have := rv2.2
                rw [z, s25 _ _ hDv] at this
                cases this
              | op w => exact rv2
              | ol _ => exact absurd rfl ho
              | od _ => exact absurd rfl ho
          by_cases hjl : j < us.length
          · refine .inr ⟨((hJ1 _ H6 tr6 hG6 j).1 us[j] (List.getElem?_eq_getElem hjl)).1, fun H' => ∃ k', k' < us.length - j ∧ (k' = us.length - (j + 1) ∧ j + 1 ≤ us.length ∧ (∀ a o, H5 a = some o → a ≠ D → H' a = some o) ∧ Same H1 H' ∧ ∃ acc2 accv2 zs2, H' D = some (.lst accv2) ∧ RepDs K (fun a => O a ∨ a = D) H' acc2 accv2 ∧ lcGo g1 t1 elt (wipeE env1 own1) (us.drop (j + 1)) = .ok zs2 ∧ ys = acc2 ++ (zs2 ++ r)), fun _ z => z, fun v7 H7 y7 => ?_⟩
            obtain ⟨s7, rv7⟩ := ((hJ1 _ H6 tr6 hG6 j).1 us[j] (List.getElem?_eq_getElem hjl)).2 v7 H7 y7
            have ed7 : us.drop j = us[j] :: us.drop (j + 1) := List.drop_eq_getElem_cons hjl
            rw [ed7] at eg6
            simp only [lcGo] at eg6
            obtain ⟨env2, e7, eg6⟩ := nx_bind eg6
            obtain ⟨b2, e8, eg6⟩ := nx_bind eg6
            refine ⟨wipeE env1 own1, fun a => O a ∨ a = D, us[j], (rsH6.same s7).wipe own1, rv7, ?_⟩
            rw [e7]
            intro σ3 rs8 kk3
            refine ⟨kept_wipe kk3 hto1, env2, fun a => O a ∨ a = D, rs8, ?_⟩
            rw [e8]
            intro H8 s8
            have s68 : Same H6 H8 := s7.trans s8
            cases b2 with
            | false =>
              simp only [Bool.false_eq_true, if_false] at eg6 ⊢
              exact ⟨_, by omega, rfl, hjl, fun a o e ne => s68 _ _ (k6 a o e ne), s6.trans s68, acc2, accv2, zs2, s68 _ _ hDv6, ra6.same s68, eg6, ey6⟩
            | true =>
              simp only [if_true] at eg6 ⊢
              obtain ⟨yy, e9, eg6⟩ := nx_bind eg6
              obtain ⟨qs, e10, eg6⟩ := bind_okk eg6
              cases eg6
              refine ⟨env2, fun a => O a ∨ a = D, rs8.same s8, ?_⟩
              rw [e9]
              intro yv H9 s9 ry
              have ry : RepD K (fun a => O a ∨ a = D) H9 yy yv := ry
              have s69 : Same H6 H9 := s68.trans s9
              have hD9 : H9 D = some (.lst accv2) := s69 _ _ hDv6
              have ra9 := ra6.same s69
              have hal : acc2.length < 1000000 := by
                have := congrArg List.length ey6
                simp at this
                omega
              refine ⟨accv2, hD9, by rw [← ra9.length]; exact lim_lt hal, _, by omega, rfl, hjl, fun a o e ne => by rw [upd_ne ne]; exact s69 _ _ (k6 a o e ne), DV.Same.put (s6.trans s69) hD, acc2 ++ [yy], accv2 ++ [yv], qs, upd_same, ?_, e10, by rw [ey6]; simp⟩
              exact RepDs.keep (Keep.upd (.inr rfl) (by rw [hD9]; exact True.intro)) (fun _ z => z) _ _ (ra9.append (.cons ry .nil))
          · have ej : j = us.length := by omega
            subst ej
            rw [List.drop_length] at eg6
            cases eg6
            exact .inl ⟨(hJ1 _ H6 tr6 hG6 _).2 (Nat.le_refl _), _, by omega, rfl, hlt, s6, acc2, accv2, r, hDv6, ra6, e5, by simpa using ey6⟩
      · have ei : i = xs.length := by omega
        subst ei
        rw [List.drop_length] at eg
        cases eg
        rw [List.append_nil] at ey
        subst ey
        exact .inl ⟨(hJ _ H2 tr2 hG2 _).2 (Nat.le_refl _), q1 D accv H2 s2 hD hDv ra⟩
end
section
variable {X : Cx} {W : WX} {m : Bool} {el tg iter tg1 iter1 : Expr} {ifs ifs1 : List Expr} {scope : Scope} {own : List (Str × Nat)} {pos : Pos} {it it1 : Env → R (List D)} {g g1 : D → Env → R Env} {t t1 : Env → R Bool} {elt : Env → R D} {ts ts1 : List Nat}
theorem dn_lc2 (hc : X.calm = true) (hN : X.N.Nodup) (hi : DI X W m tg iter it) (ok : BlkOk X.N X.env.scope scope own)
    (hg : ∀ (s : Shared) (H : Hp) (C : Addr) (cl : List (Str × Addr)) (fp : List Addr), DG (X.blk s H scope (compEnvC scope cl C X.env) fp) tg ts g) (ht : ∀ (s : Shared) (H : Hp) (C : Addr) (cl : List (Str × Addr)) (fp : List Addr), DTs (X.blk s H scope (compEnvC scope cl C X.env) fp) W0 ifs t)
    (hi1 : ∀ (s : Shared) (H : Hp) (C : Addr) (cl : List (Str × Addr)) (fp : List Addr), DI (X.blk s H scope (compEnvC scope cl C X.env) fp) W0 false tg1 iter1 it1)
    (hg1 : ∀ (s : Shared) (H : Hp) (C : Addr) (cl : List (Str × Addr)) (fp : List Addr), DG (X.blk s H scope (compEnvC scope cl C X.env) fp) tg1 ts1 g1) (ht1 : ∀ (s : Shared) (H : Hp) (C : Addr) (cl : List (Str × Addr)) (fp : List Addr), DTs (X.blk s H scope (compEnvC scope cl C X.env) fp) W0 ifs1 t1)
    (he : ∀ (s : Shared) (H : Hp) (C : Addr) (cl : List (Str × Addr)) (fp : List Addr), DE (X.blk s H scope (compEnvC scope cl C X.env) fp) W0 false el elt) (hto : ∀ j ∈ ts, j ∈ own.map (·.2)) {own1 : List Nat} (hto1 : ∀ j ∈ ts1, j ∈ own1) (hv : ∀ j ∈ own1, j ∈ own.map (·.2))
    (hs : ∀ x, foldedSetIterable iter X.env x = pure x := by intro _; rfl) (hs1 : ∀ env x, foldedSetIterable iter1 env x = pure x := by intro _ _; rfl) {os : List Nat} (hos : own.map (·.2) = os := by rfl) :
    DN X W (.ListComp el [⟨tg, iter, ifs, 0⟩, ⟨tg1, iter1, ifs1, 0⟩] scope pos) (nLc2 it g t it1 g1 t1 elt os own1) := hos ▸
  PE.imp (pe_lc2 (wi := tI X.K X.mg W m it) (g := tG X.K ts g) (tt := tT X.K X.mg W0 t) (wi1 := tI X.K X.mg W0 false it1) (g1 := tG X.K ts1 g1) (tt1 := tT X.K X.mg W0 t1) (te := tD X.K X.mg W0 false elt) hc hN hi ok hv hg ht hi1 hg1 ht1 he hs hs1) (lc2_tN hto hto1)
@[simp] theorem nLc2_ap (it : Env → R (List D)) (g : D → Env → R Env) (t : Env → R Bool) (it1 : Env → R (List D)) (g1 : D → Env → R Env) (t1 : Env → R Bool) (elt : Env → R D) (own own1 : List Nat) (s : Env) : nLc2 it g t it1 g1 t1 elt own own1 s = (it s).bind fun xs => nx (lc2Go g t it1 g1 t1 elt own1 (wipeE s own) xs) := Eq.trans rfl rfl
end
end DV

namespace DV
open PySem L2 PySem.Spec PyProof.Rows
open PySem.W (alike alikeAll dataLt minD maxD AlikeAll min_list_data max_list_data reads_keeps)

/-! ### min, max of a list of data that are alike: the first of the least -/
mutual
theorem D.pd_inj : ∀ (x y : D), x.plain = true → y.plain = true → x.pd = y.pd → x = y
  | .non, y, _, hy, e => by cases y <;> simp [D.pd] at e <;> first | rfl | simp [D.plain] at hy
  | .bl b, y, _, hy, e => by cases y <;> simp [D.pd] at e <;> subst e <;> rfl
  | .int i, y, _, hy, e => by cases y <;> simp [D.pd] at e <;> subst e <;> rfl
  | .str i, y, _, hy, e => by cases y <;> simp [D.pd] at e <;> subst e <;> rfl
  | .lst xs, y, hx, hy, e => by
    cases y <;> simp [D.pd] at e
    rename_i ys
    rw [D.pds_inj xs ys (by simpa [D.plain] using hx) (by simpa [D.plain] using hy) e]
  | .tup xs, y, hx, hy, e => by
    cases y <;> simp [D.pd] at e
    rename_i ys
    rw [D.pds_inj xs ys (by simpa [D.plain] using hx) (by simpa [D.plain] using hy) e]
  | .dct _, _, hx, _, _ => by simp [D.plain] at hx
  | .scr _, _, hx, _, _ => by simp [D.plain] at hx
theorem D.pds_inj : ∀ (xs ys : List D), D.plains xs = true → D.plains ys = true → D.pds xs = D.pds ys → xs = ys
  | [], [], _, _, _ => rfl
  | [], y :: ys, _, _, e => by simp [D.pds] at e
  | x :: xs, [], _, _, e => by simp [D.pds] at e
  | x :: xs, y :: ys, hx, hy, e => by
    simp only [D.pds, List.cons.injEq] at e
    simp only [D.plains, Bool.and_eq_true] at hx hy
    rw [D.pd_inj x y hx.1 hy.1 e.1, D.pds_inj xs ys hx.2 hy.2 e.2]
end
def isNo : PyData → Bool
  | .none => true
  | _ => false
def alikesB (xs : List D) : Bool := xs.all fun x => !isNo x.pd && xs.all fun y => alike x.pd y.pd
theorem alikesB_ok {xs : List D} (h : alikesB xs = true) : AlikeAll (D.pds xs) := by
  rw [D.pds_map]
  unfold alikesB at h
  simp only [List.all_eq_true, Bool.and_eq_true, Bool.not_eq_true'] at h
  refine ⟨fun x hx y hy => ?_, fun x hx e => ?_⟩
  · obtain ⟨a, ha, rfl⟩ := List.mem_map.mp hx
    obtain ⟨b, hb, rfl⟩ := List.mem_map.mp hy
    exact (h a ha).2 b hb
  · obtain ⟨a, ha, rfl⟩ := List.mem_map.mp hx
    have := (h a ha).1
    rw [e] at this
    cases this
def okX (xs : List D) : Prop := D.plains xs = true ∧ alikesB xs = true ∧ PyData.depthAll (D.pds xs) ≤ 60
instance (xs : List D) : Decidable (okX xs) := by unfold okX; infer_instance
def minDD (x : D) (xs : List D) : D := xs.foldl (fun a y => if dataLt y.pd a.pd = true then y else a) x
def maxDD (x : D) (xs : List D) : D := xs.foldl (fun a y => if dataLt a.pd y.pd = true then y else a) x
def minX : List D → R D
  | [.lst (x :: xs)] => if okX (x :: xs) then .ok (minDD x xs) else .no
  | _ => .no
def maxX : List D → R D
  | [.lst (x :: xs)] => if okX (x :: xs) then .ok (maxDD x xs) else .no
  | _ => .no
theorem minDD_pd : ∀ (xs : List D) (x : D), (minDD x xs).pd = minD x.pd (D.pds xs)
  | [], x => rfl
  | y :: ys, x => by
    simp only [minDD, List.foldl_cons, D.pds, minD]
    have := minDD_pd ys (if dataLt y.pd x.pd = true then y else x)
    simp only [minDD, minD] at this
    rw [this]
    split <;> rfl
theorem maxDD_pd : ∀ (xs : List D) (x : D), (maxDD x xs).pd = maxD x.pd (D.pds xs)
  | [], x => rfl
  | y :: ys, x => by
    simp only [maxDD, List.foldl_cons, D.pds, maxD]
    have := maxDD_pd ys (if dataLt x.pd y.pd = true then y else x)
    simp only [maxDD, maxD] at this
    rw [this]
    split <;> rfl
theorem minDD_mem : ∀ (xs : List D) (x : D), minDD x xs ∈ x :: xs
  | [], x => by simp [minDD]
  | y :: ys, x => by
    have := minDD_mem ys (if dataLt y.pd x.pd = true then y else x)
    simp only [minDD, List.foldl_cons] at this ⊢
    rcases List.mem_cons.mp this with h | h
    · rw [h]; split <;> simp
    · simp [h]
theorem maxDD_mem : ∀ (xs : List D) (x : D), maxDD x xs ∈ x :: xs
  | [], x => by simp [maxDD]
  | y :: ys, x => by
    have := maxDD_mem ys (if dataLt x.pd y.pd = true then y else x)
    simp only [maxDD, List.foldl_cons] at this ⊢
    rcases List.mem_cons.mp this with h | h
    · rw [h]; split <;> simp
    · simp [h]
theorem plains_mem : ∀ {xs : List D} {x : D}, D.plains xs = true → x ∈ xs → x.plain = true
  | y :: ys, x, h, hm => by
    simp only [D.plains, Bool.and_eq_true] at h
    rcases List.mem_cons.mp hm with e | hm
    · rw [e]; exact h.1
    · exact plains_mem h.2 hm
def rPick (K : PySem.W.Frag) (pick : PyData → List PyData → PyData) : List V → Hp → VK → Prop := fun xs H Q => ∃ (l : Addr) (vs : List V) (d : PyData) (ds : List PyData), xs = [.ref l] ∧ SqL K H l vs ∧ DpAll K H vs (d :: ds) ∧ AlikeAll (d :: ds) ∧ PyData.depthAll (d :: ds) ≤ 60 ∧ PyData.plainAll (d :: ds) = true ∧
  ∀ (i : Nat) v, vs[i]? = some v → (d :: ds)[i]? = some (pick d ds) → Q v H
theorem dpAll_reads {X : Cx} {pins : List (Addr × Obj)} {σ : L2.St} {H : Hp} {s : Shared} (I : Inv X pins σ H s) : ∀ {ds : List PyData} {vs : List V} {us : List Value}, DpAll X.K H vs ds → Vals vs us → ∃ as, ReadsAll s.heap us ds as
  | [], _, _, .nil, .nil => ⟨_, .nil⟩
  | d :: ds, _, _, .cons h1 h2, .cons r1 r2 => by
    obtain ⟨as, q1⟩ := Dp.reads I d _ _ h1 r1
    obtain ⟨bs, q2⟩ := dpAll_reads I h2 r2
    exact ⟨_, ReadsAll.cons q1 q2⟩
theorem reads_at {h : Heap} : ∀ {us : List Value} {ds : List PyData} {as : List Addr} {i : Nat} {u : Value}, ReadsAll h us ds as → us[i]? = some u → ∃ d bs, ds[i]? = some d ∧ Reads h u d bs
  | _, _, _, i, u, .nil, e => by simp at e
  | _, _, _, 0, u, .cons r1 r2, e => by
    simp at e
    subst e
    exact ⟨_, _, rfl, r1⟩
  | _, _, _, i + 1, u, .cons r1 r2, e => by
    obtain ⟨d, bs, e1, r⟩ := reads_at (i := i) r2 (by simpa using e)
    exact ⟨d, bs, by simpa using e1, r⟩
theorem plainAll_at : ∀ {ds : List PyData} {i : Nat} {d : PyData}, PyData.plainAll ds = true → ds[i]? = some d → d.plain = true
  | [], i, d, _, e => by simp at e
  | x :: xs, 0, d, h, e => by
    simp only [PyData.plainAll, Bool.and_eq_true] at h
    simp at e; subst e; exact h.1
  | x :: xs, i + 1, d, h, e => by
    simp only [PyData.plainAll, Bool.and_eq_true] at h
    exact plainAll_at h.2 (by simpa using e)
theorem vals_get' : ∀ {xs : List V} {us : List Value} {i : Nat} {u : Value}, Vals xs us → us[i]? = some u → ∃ x, xs[i]? = some x ∧ RelV x u
  | _, _, _, _, .nil, e => by simp at e
  | _, _, 0, u, .cons r1 r2, e => by
    simp at e; subst e; exact ⟨_, rfl, r1⟩
  | _, _, i + 1, u, .cons r1 r2, e => by
    obtain ⟨x, h1, h2⟩ := vals_get' (i := i) r2 (by simpa using e)
    exact ⟨x, by simpa using h1, h2⟩
theorem call_min {X : Cx} (hc : X.calm = true) (hu : X.A.units + 64 < cLine) : CallR X (.builtin "min") (rPick X.K minD) := by
  intro pins s σ H xs us Q I r h
  obtain ⟨l, vs, d, ds, rfl, hs, hd, ha, hp, hpl, q⟩ := h
  obtain ⟨u, rfl, ru⟩ := vals1 r
  cases ru
  obtain ⟨its, rv, pl, hz⟩ := I.list hs
  obtain ⟨as, rr⟩ := dpAll_reads I hd rv
  refine min_list_data (I.ok.hd hc) pl.isList (by simpa using rr) ha (by omega) fun i v h' tk bs hv rd hk => ?_
  have hv' : its[i]? = some v := by simpa using hv
  obtain ⟨w, hw, rw'⟩ := vals_get' rv hv'
  obtain ⟨d2, bs2, e2, r2⟩ := reads_at rr hv'
  have : d2 = minD d ds := SeqAt.plain_unique d2 _ v _ _ (plainAll_at hpl e2) (reads_keeps hk r2) rd
  exact ⟨w, H, I.kept (t' := tk) hk, rw', q i w hw (by rw [e2, this])⟩
theorem call_max {X : Cx} (hc : X.calm = true) (hu : X.A.units + 64 < cLine) : CallR X (.builtin "max") (rPick X.K maxD) := by
  intro pins s σ H xs us Q I r h
  obtain ⟨l, vs, d, ds, rfl, hs, hd, ha, hp, hpl, q⟩ := h
  obtain ⟨u, rfl, ru⟩ := vals1 r
  cases ru
  obtain ⟨its, rv, pl, hz⟩ := I.list hs
  obtain ⟨as, rr⟩ := dpAll_reads I hd rv
  refine max_list_data (I.ok.hd hc) pl.isList (by simpa using rr) ha (by omega) fun i v h' tk bs hv rd hk => ?_
  have hv' : its[i]? = some v := by simpa using hv
  obtain ⟨w, hw, rw'⟩ := vals_get' rv hv'
  obtain ⟨d2, bs2, e2, r2⟩ := reads_at rr hv'
  have : d2 = maxD d ds := SeqAt.plain_unique d2 _ v _ _ (plainAll_at hpl e2) (reads_keeps hk r2) rd
  exact ⟨w, H, I.kept (t' := tk) hk, rw', q i w hw (by rw [e2, this])⟩
theorem repDs_at' {K : PySem.W.Frag} {O : Addr → Prop} {H : Hp} : ∀ {ds : List D} {vs : List V} {i : Nat} {v : V}, RepDs K O H ds vs → vs[i]? = some v → ∃ d, ds[i]? = some d ∧ RepD K O H d v
  | [], vs, i, v, h, e => by simp only [RepDs] at h; subst h; simp at e
  | d :: ds, vs, i, v, h, e => by
    simp only [RepDs] at h
    obtain ⟨w, r, rfl, h1, h2⟩ := h
    match i, e with
    | 0, e => simp at e; subst e; exact ⟨d, rfl, h1⟩
    | i + 1, e =>
      obtain ⟨d2, e2, r2⟩ := repDs_at' (i := i) h2 (by simpa using e)
      exact ⟨d2, by simpa using e2, r2⟩
theorem on_pick {K : PySem.W.Frag} (pick : PyData → List PyData → PyData) (pk : D → List D → D) (hpd : ∀ (xs : List D) (x : D), (pk x xs).pd = pick x.pd (D.pds xs)) (hmem : ∀ (xs : List D) (x : D), pk x xs ∈ x :: xs) (k : List D → R D)
    (hk : ∀ ds, (∃ x xs, ds = [.lst (x :: xs)] ∧ okX (x :: xs) ∧ k ds = .ok (pk x xs)) ∨ k ds = .no) : OpN K (rPick K pick) k := fun mg O m σ env H Q ds vs r hx q => by
  rcases hk ds with ⟨x, xs, rfl, ho, e⟩ | e
  · rw [e] at q
    obtain ⟨v, ev, h⟩ := repMs1 hx
    obtain ⟨a, us, e2, h1, h2⟩ := repLst h
    subst e2
    have hp : D.plains (x :: xs) = true := ho.1
    refine ⟨a, us, x.pd, D.pds xs, ev, .of h1, ?_, ?_, ?_, ?_, fun i w hw hi => ?_⟩
    · have := RepDs.dp (x :: xs) us hp h2
      simpa only [D.pds] using this
    · have := alikesB_ok ho.2.1
      simpa only [D.pds] using this
    · have := ho.2.2
      simpa only [D.pds] using this
    · have := D.pds_plain _ hp
      simpa only [D.pds] using this
    · obtain ⟨d, ed, rd⟩ := repDs_at' h2 hw
      have e3 : (x :: xs)[i]? = some d := ed
      have hdm : d ∈ x :: xs := List.mem_of_getElem? e3
      have e4 : (x.pd :: D.pds xs)[i]? = some d.pd := by
        have : x.pd :: D.pds xs = (x :: xs).map D.pd := by rw [D.pds_map]; rfl
        rw [this, List.getElem?_map, e3]; rfl
      rw [e4] at hi
      have e5 : d = pk x xs := D.pd_inj _ _ (plains_mem hp hdm) (plains_mem hp (hmem xs x)) (by rw [hpd]; exact Option.some.inj hi)
      subst e5
      exact q.val rd
  · rw [e] at q; exact q.elim
theorem minX_nx : NX minX := fun x c n => by
  unfold minX; split
  · split <;> simp
  · simp
theorem maxX_nx : NX maxX := fun x c n => by
  unfold maxX; split
  · split <;> simp
  · simp
theorem on_minX {K : PySem.W.Frag} : OpN K (rPick K minD) minX := on_pick minD minDD minDD_pd minDD_mem minX fun ds => by
  unfold minX
  split
  · rename_i x xs
    by_cases h : okX (x :: xs)
    · exact .inl ⟨x, xs, rfl, h, if_pos h⟩
    · exact .inr (if_neg h)
  · exact .inr rfl
theorem on_maxX {K : PySem.W.Frag} : OpN K (rPick K maxD) maxX := on_pick maxD maxDD maxDD_pd maxDD_mem maxX fun ds => by
  unfold maxX
  split
  · rename_i x xs
    by_cases h : okX (x :: xs)
    · exact .inl ⟨x, xs, rfl, h, if_pos h⟩
    · exact .inr (if_neg h)
  · exact .inr rfl
section
variable {X : Cx} {W : WX} {m : Bool} {e : Expr} {g : Env → R (List D)} {p pos : Pos} {k : Nat}
theorem de_minX (hr : Room k X.A) (hc : X.calm = true) (hm : X.mg "min" = none) (ha : DA X W true [e] g) (hg : Gl X "min" := by rfl) (he : starEach [e] X.env = (false, eval e X.env) :: starEach [] X.env := by rfl) : DE X W m (.Call (.Name "min" p) [e] [] pos) (eB minX g) :=
  de_callB (call_min hc hr.units) on_minX minX_nx hg hm (by decide +kernel) ha (by decide) (by decide) he rfl
theorem de_maxX (hr : Room k X.A) (hc : X.calm = true) (hm : X.mg "max" = none) (ha : DA X W true [e] g) (hg : Gl X "max" := by rfl) (he : starEach [e] X.env = (false, eval e X.env) :: starEach [] X.env := by rfl) : DE X W m (.Call (.Name "max" p) [e] [] pos) (eB maxX g) :=
  de_callB (call_max hc hr.units) on_maxX maxX_nx hg hm (by decide +kernel) ha (by decide) (by decide) he rfl
end
end DV

namespace DV
open PySem L2 PySem.Spec PyProof.Rows

/-! ### [f, g][k](..): a call by a written list of defs -/
def tCs (vs : List V) : TA := fun _ H Q => Q vs H
inductive FnL (X : Cx) (k n : Nat) : List Expr → List (List D → FR) → Prop
  | nil : FnL X k n [] []
  | cons {x : Str} {p : Pos} {es : List Expr} {Fn : List D → FR} {Fs : List (List D → FR)} (C : CallOk X.prog X.w X.K X.mg X.base k n x Fn) (ar : Arity n Fn) (hg : Gl X x) (hdb : (x == ("__debug__" : Str)) = false)
      (hs : starEach (.Name x p :: es) X.env = (false, eval (.Name x p) X.env) :: starEach es X.env) (r : FnL X k n es Fs) : FnL X k n (.Name x p :: es) (Fn :: Fs)
theorem FnL.out {X : Cx} {k n : Nat} {es : List Expr} {Fs : List (List D → FR)} (h : FnL X k n es Fs) : ∃ as : List Addr, as.length = Fs.length ∧ PA X es (tCs (as.map V.ref)) ∧ ∀ (j : Nat) Fn, Fs[j]? = some Fn → Arity n Fn ∧ ∃ f fd ps, as[j]? = some f ∧ FnOk X.prog X.w X.K X.mg X.base (L2N.CX X.prog X.w) k f fd ps (spD X.K X.mg n Fn) ∧ PySem.W.keepIn X.K (.ref f) = true ∧ Binds X.K fd ps [] := by
  induction h with
  | nil => exact ⟨[], rfl, PA.imp pa_nil fun σ H Q q => q, fun j Fn e => by simp at e⟩
  | cons C ar hg hdb hs r ih =>
    obtain ⟨as, hl, ha, hf⟩ := ih
    obtain ⟨f, fd, ps, F, hm, hk, hb⟩ := C.ex
    refine ⟨f :: as, by simp [hl], PA.imp (pa_cons (pe_glob (v := .ref f) hg hm rfl hdb) ha hs) fun σ H Q q => q, fun j Fn e => ?_⟩
    match j, e with
    | 0, e =>
      simp at e
      subst e
      exact ⟨ar, f, fd, ps, rfl, F, hk, hb⟩
    | j + 1, e => exact hf j Fn (by simpa using e)
def callL (Fs : List (List D → FR)) (ga : R (List D)) : D → R D
  | .int j => if 0 ≤ j ∧ Fs.length ≤ 1000 then (match Fs[j.toNat]? with
    | some Fn => ga.bind fun ds => (Fn ds).R
    | none => .no) else .no
  | _ => .no
def eCallL (Fs : List (List D → FR)) (fi : Env → R D) (ga : Env → R (List D)) : Env → R D := fun s => (fi s).bind (callL Fs (ga s))
theorem de_callL {X : Cx} {W : WX} {m : Bool} {k n : Nat} {fes : List Expr} {Fs : List (List D → FR)} {lpos spos pos : Pos} {ix e : Expr} {es : List Expr} {fi : Env → R D} {ga : Env → R (List D)} (L : FnL X k n fes Fs) (hz : Fs.length ≤ 1000) (hr : Room k X.A) (tk : L2N.Takes X W) (hi : DE X W true ix fi) (ha : DA X W false (e :: es) ga)
    (hp : PlainIx ix := by intro _ _; rfl) (he : starEach (e :: es) X.env = (false, eval e X.env) :: starEach es X.env := by rfl) (hpl : (backTo pos (starEach es X.env)).any (·.1) = false := by rfl)
    (hc : eval (.Call (.Subscript (.List fes lpos) ix spos) (e :: es) [] pos) X.env = (do callWith pos (← eval (.Subscript (.List fes lpos) ix spos) X.env) [] (backTo pos (starEach (e :: es) X.env)) (backToKw pos (keywordEach [] X.env))) := by rfl) :
    DE X W m (.Call (.Subscript (.List fes lpos) ix spos) (e :: es) [] pos) (eCallL Fs fi ga) := by
  obtain ⟨as, hl, hA, hF⟩ := L.out
  have hfun : PE X (.Subscript (.List fes lpos) ix spos) (tOp (rIxL X.K) (tLst (tCs (as.map V.ref))) (tD X.K X.mg W true fi)) := pe_ix ix_list (pe_lst hA) hi hp
  refine ⟨fun pins s σ H Q I hq => ?_⟩
  obtain ⟨env, O, rs, q⟩ := hq
  refine Call_ (thn (hfun.run pins s σ H (fun x H1 => ∃ (Fn : List D → FR) (f : Addr) (fd : FuncData) (ps : List Str), x = .ref f ∧ Arity n Fn ∧ FnOk X.prog X.w X.K X.mg X.base (L2N.CX X.prog X.w) k f fd ps (spD X.K X.mg n Fn) ∧ PySem.W.keepIn X.K (.ref f) = true ∧ Binds X.K fd ps [] ∧
    RepS X.K O H1 σ env ∧ Fin X.K X.mg W O m σ H1 Q ((ga env).bind fun ds => (Fn ds).R)) I ?_) fun v s1 y => ?_) hc
  · refine ⟨by rw [List.length_map, hl]; exact lim_le (by omega), fun p np => ?_⟩
    have s1 : Same H (upd H p (.lst (as.map V.ref))) := Same.new' np
    unfold eCallL at q
    refine fin1 (m1 := true) (rs.same s1) (Fin.same s1 q) fun d v H2 _ s2 rv rs2 q2 => ?_
    cases d with
    | int j =>
      rw [repInt] at rv
      subst rv
      simp only [callL] at q2
      split at q2
      · rename_i hj
        cases e2 : Fs[j.toNat]? with
        | none => rw [e2] at q2; exact q2.elim
        | some Fn =>
          rw [e2] at q2
          obtain ⟨ar, f, fd, ps, ef, F, hk, hb⟩ := hF _ _ e2
          exact ⟨p, as.map V.ref, j, .ref f, rfl, rfl, .of (s2 _ _ upd_same), atI_nat' hj.1 (by rw [List.getElem?_map, ef]; rfl), Fn, f, fd, ps, rfl, ar, F, hk, hb, rs2, q2⟩
      · exact q2.elim
    | _ => exact q2.elim
  · obtain ⟨x, H1, I1, rx, Fn, f, fd, ps, rfl, ar, F, hk, hb, rs1, q1⟩ := y
    cases rx
    refine PySem.W.callWith_K (h₀ := X.base) I1.ok.mod.kin hk (thn (ha.run pos pins s1 σ H1 (fun vs H2 => spD X.K X.mg n Fn vs H2 Q (WE W σ)) I1 ?_) fun us s2 z => ?_) he hpl
    · refine finA (m1 := false) rs1 q1 fun ds vs H2 _ s2 r2 rs2 q2 => ?_
      have r3 := RepMs.ds r2
      have hn : Fn ds ≠ .no := fun z => by rw [z] at q2; exact q2.elim
      refine ⟨r3.length.symm.trans (ar ds hn), O, ds, rs2.trk, r3, ?_⟩
      revert q2
      cases Fn ds with
      | val d => exact fun q2 v H' s r => q2 v H' s (.ofD r)
      | ol xs => exact fun q2 p vs H' s np hp r => q2 _ H' s (.ofD (by
          simp only [RepD]
          exact ⟨p, vs, rfl, rs2.nfree np, hp, r.of_new⟩))
      | od xs => exact fun q2 p vs H' s np hp r => q2 _ H' s (.ofD (by
          simp only [RepD]
          exact ⟨p, vs, rfl, rs2.nfree np, .inl hp, RepKs.keep Keep.refl (fun _ z => .inl z) _ _ r⟩))
      | exc c k => exact fun q2 C dx H' a s b => q2 C dx H' a s b
      | no => exact fun q2 => q2.elim
    · obtain ⟨vs, H2, I2, r, q2⟩ := z
      exact ⟨I2.kIn, run_fnS F hr hb (L2N.passAt tk σ) I2 r q2⟩
@[simp] theorem eCallL_ap (Fs : List (List D → FR)) (fi : Env → R D) (ga : Env → R (List D)) (s : Env) : eCallL Fs fi ga s = (fi s).bind (callL Fs (ga s)) := Eq.trans rfl rfl
theorem CallOk.up {P : Program} {w : World} {K : PySem.W.Frag} {mg : Str → Option Value} {base : Heap} {j k n : Nat} {x : Str} {Fn : List D → FR} (C : CallOk P w K mg base j n x Fn) (h : j ≤ k) : CallOk P w K mg base k n x Fn := by
  obtain ⟨f, fd, ps, F, hm, hk, hb⟩ := C.ex
  exact ⟨f, fd, ps, F.mono h, hm, hk, hb⟩
/-! ### f(..).append(e): on a list that nobody keeps -/
def sAppT (nf : Env → R (List D)) (f : Env → R D) : Env → Out := fun s => match nf s with
  | .ok xs => (match f s with
    | .ok _ => if xs.length < 1000000 then .nx s else .no
    | .exc c n => .exc c n s
    | .no => .no)
  | .exc c n => .exc c n s
  | .no => .no
theorem ds_appT {X : Cx} {W : WX} {B : Ent} {o e : Expr} {st : Stmt} {nf : Env → R (List D)} {f : Env → R D} (hp : ∀ t u, PE X o t → PA X [e] u → PS X st (tDrop (tBM X.K "list" rAppend t u))) (hn : DN X W o nf) (he : DE X W false e f)
    (hs : starEach [e] X.env = (false, eval e X.env) :: starEach [] X.env := by rfl) : DS X W B st (sAppT nf f) := fun G => PS.imp (hp _ _ hn (pa_cons he pa_nil hs)) fun Dd σ H ⟨env, h, q⟩ => by
  have h0 := h
  obtain ⟨O, r, z, s0, g, n⟩ := h
  unfold sAppT at q
  refine ⟨env, O, r, ?_⟩
  cases en : nf env with
  | exc c k => rw [en] at q; exact fun C dx H1 e1 s1 a => q C dx σ H1 e1 (h0.same s1) a
  | no => rw [en] at q; exact q.elim
  | ok xs =>
    rw [en] at q
    intro p vs H1 s1 np hp rx
    refine ⟨.inl ⟨rfl, vs, .of hp⟩, ?_⟩
    refine sE (k := fun _ => if xs.length < 1000000 then .nx env else .no) (h0.same s1) q fun d v H2 O2 _ s2 rv rs z1 s01 g1 n1 q1 => ?_
    split at q1
    · rename_i hz
      exact ⟨p, vs, v, rfl, rfl, s2 _ _ hp, by rw [← rx.length]; exact lim_lt hz, q1 _ _ (h0.same (DV.Same.put (s1.trans s2) np))⟩
    · exact q1.elim
@[simp] theorem sAppT_ap (nf : Env → R (List D)) (f : Env → R D) (s : Env) : sAppT nf f s = Out.vl (nf s) s fun xs => Out.vl (f s) s fun _ => if xs.length < 1000000 then .nx s else .no := by
  unfold sAppT Out.vl
  cases nf s with
  | ok xs => cases f s <;> rfl
  | exc c n => rfl
  | no => rfl
/-- return of a new list -/
def sRetL (f : Env → R (List D)) : Env → Out := fun s => match f s with
  | .ok xs => .ro xs
  | .exc c n => .exc c n s
  | .no => .no
theorem ds_retL {X : Cx} {W : WX} {B : Ent} {e : Expr} {pos : Pos} {f : Env → R (List D)} (he : DN X W e f) : DS X W B (.Return (some e) pos) (sRetL f) := fun G => PS.imp (ps_ret he) fun Dd σ H ⟨env, h, q⟩ => by
  obtain ⟨O, r, z, s0, g, n⟩ := h
  refine ⟨env, O, r, ?_⟩
  unfold sRetL at q
  cases ef : f env with
  | exc c n' =>
    rw [ef] at q
    exact fun C dx H1 e1 s1 a => q C dx σ H1 e1 ⟨O, r.same s1, z, s0.trans s1, fun p hp => (g p hp).same s1, n⟩ a
  | no => rw [ef] at q; exact q.elim
  | ok xs =>
    rw [ef] at q
    exact fun p vs H1 s1 np hp rd => q p vs H1 (s0.trans s1) (Same.back s0 np) hp (RepDs.keep Keep.refl (fun a ha => ha.imp (z a) id) _ _ rd)
@[simp] theorem sRetL_ap (f : Env → R (List D)) (s : Env) : sRetL f s = Out.vl (f s) s .ro := by unfold sRetL Out.vl; cases f s <;> rfl
end DV

namespace DV
open PySem L2 PySem.Spec PyProof.Rows

/-! ### what a call returns is new, unless it is a list of the arguments -/
def kindN : D → Nat
  | .non => 0
  | .bl _ => 1
  | .int _ => 2
  | .str _ => 3
  | _ => 4
def apart : D → D → Bool
  | .int i, .int j => i != j
  | x, y => kindN x != kindN y
def apartL : List D → List D → Bool
  | [], [] => false
  | x :: xs, y :: ys => apart x y || apartL xs ys
  | _, _ => true
mutual
def subs : D → List (List D)
  | .lst xs => xs :: subsL xs
  | .tup xs => subsL xs
  | .dct kvs => subsK kvs
  | _ => []
def subsL : List D → List (List D)
  | [] => []
  | x :: xs => subs x ++ subsL xs
def subsK : List (Key × D) → List (List D)
  | [] => []
  | (_, x) :: xs => subs x ++ subsK xs
end
section
variable {K : PySem.W.Frag} {O O' : Addr → Prop} {H : Hp}
theorem apart_no {x y : D} {v : V} (h1 : RepD K O H x v) (h2 : RepD K O' H y v) : apart x y = false := by
  cases x <;> cases y <;> simp only [RepD] at h1 h2 <;> simp_all [apart, kindN] <;> (first | (obtain ⟨_, h, _⟩ := h1; cases h) | (obtain ⟨_, h, _⟩ := h2; cases h) | (obtain ⟨_, ⟨_, h, _⟩, _⟩ := h1; cases h) | skip)
theorem apartL_no : ∀ {xs ys : List D} {vs : List V}, RepDs K O H xs vs → RepDs K O' H ys vs → apartL xs ys = false
  | [], [], _, _, _ => rfl
  | [], y :: ys, vs, h1, h2 => by
    simp only [RepDs] at h1 h2
    obtain ⟨_, _, e, _⟩ := h2
    rw [h1] at e; cases e
  | x :: xs, [], vs, h1, h2 => by
    simp only [RepDs] at h1 h2
    obtain ⟨_, _, e, _⟩ := h1
    rw [h2] at e; cases e
  | x :: xs, y :: ys, vs, h1, h2 => by
    simp only [RepDs] at h1 h2
    obtain ⟨v, r, rfl, a1, a2⟩ := h1
    obtain ⟨w, q, e, b1, b2⟩ := h2
    cases e
    simp only [apartL, apart_no a1 b1, apartL_no a2 b2, Bool.or_self]
variable (K O H)
mutual
/-- a is the list ys within d -/
def Node : D → V → Addr → List D → Prop
  | .lst xs, v, a, ys => ∃ b vs, v = .ref b ∧ H b = some (.lst vs) ∧ RepDs K O H xs vs ∧ ((a = b ∧ ys = xs) ∨ NodeL xs vs a ys)
  | .tup xs, v, a, ys => ∃ b vs, v = .ref b ∧ SqT K H b vs ∧ RepDs K O H xs vs ∧ NodeL xs vs a ys
  | .dct kvs, v, a, ys => ∃ b vs, v = .ref b ∧ Rd H b (.dK vs) ∧ RepKs K O H kvs vs ∧ NodeK kvs vs a ys
  | _, _, _, _ => False
def NodeL : List D → List V → Addr → List D → Prop
  | x :: xs, v :: vs, a, ys => Node x v a ys ∨ NodeL xs vs a ys
  | _, _, _, _ => False
def NodeK : List (Key × D) → List (Key × V) → Addr → List D → Prop
  | (_, x) :: xs, (_, v) :: vs, a, ys => Node x v a ys ∨ NodeK xs vs a ys
  | _, _, _, _ => False
end
variable {K O H}
mutual
theorem Node.rep : ∀ {d : D} {v : V} {a : Addr} {ys : List D}, Node K O H d v a ys → ys ∈ subs d ∧ ∃ ws, H a = some (.lst ws) ∧ RepDs K O H ys ws
  | .lst xs, v, a, ys, h => by
    simp only [Node] at h
    obtain ⟨b, vs, _, hb, hr, h | h⟩ := h
    · obtain ⟨rfl, rfl⟩ := h
      exact ⟨by simp [subs], vs, hb, hr⟩
    · obtain ⟨h1, h2⟩ := NodeL.rep h
      exact ⟨by simp [subs, h1], h2⟩
  | .tup xs, v, a, ys, h => by
    simp only [Node] at h
    obtain ⟨b, vs, _, hb, hr, h⟩ := h
    obtain ⟨h1, h2⟩ := NodeL.rep h
    exact ⟨by simp [subs, h1], h2⟩
  | .dct xs, v, a, ys, h => by
    simp only [Node] at h
    obtain ⟨b, vs, _, hb, hr, h⟩ := h
    obtain ⟨h1, h2⟩ := NodeK.rep h
    exact ⟨by simp [subs, h1], h2⟩
  | .non, v, a, ys, h => by simp [Node] at h
  | .bl _, v, a, ys, h => by simp [Node] at h
  | .int _, v, a, ys, h => by simp [Node] at h
  | .str _, v, a, ys, h => by simp [Node] at h
  | .scr _, v, a, ys, h => by simp [Node] at h
theorem NodeL.rep : ∀ {ds : List D} {vs : List V} {a : Addr} {ys : List D}, NodeL K O H ds vs a ys → ys ∈ subsL ds ∧ ∃ ws, H a = some (.lst ws) ∧ RepDs K O H ys ws
  | x :: xs, v :: vs, a, ys, h => by
    simp only [NodeL] at h
    rcases h with h | h
    · obtain ⟨h1, h2⟩ := Node.rep h
      exact ⟨by simp [subsL, h1], h2⟩
    · obtain ⟨h1, h2⟩ := NodeL.rep h
      exact ⟨by simp [subsL, h1], h2⟩
  | [], _, _, _, h => by simp [NodeL] at h
  | _ :: _, [], _, _, h => by simp [NodeL] at h
theorem NodeK.rep : ∀ {ds : List (Key × D)} {vs : List (Key × V)} {a : Addr} {ys : List D}, NodeK K O H ds vs a ys → ys ∈ subsK ds ∧ ∃ ws, H a = some (.lst ws) ∧ RepDs K O H ys ws
  | (c, x) :: xs, (c', v) :: vs, a, ys, h => by
    simp only [NodeK] at h
    rcases h with h | h
    · obtain ⟨h1, h2⟩ := Node.rep h
      exact ⟨by simp [subsK, h1], h2⟩
    · obtain ⟨h1, h2⟩ := NodeK.rep h
      exact ⟨by simp [subsK, h1], h2⟩
  | [], _, _, _, h => by simp [NodeK] at h
  | _ :: _, [], _, _, h => by simp [NodeK] at h
end
/-- O, and all lists of the heap but those at P -/
def Far (O : Addr → Prop) (H : Hp) (P : Addr → Prop) : Addr → Prop := fun a => O a ∨ ((∃ ws, H a = some (.lst ws)) ∧ ¬ P a)
mutual
theorem RepD.far {P : Addr → Prop} : ∀ (d : D) (v : V), RepD K O H d v → (∀ a ys, Node K O H d v a ys → P a) → RepD K (Far O H P) H d v
  | .non, _, h, _ => h
  | .bl _, _, h, _ => h
  | .int _, _, h, _ => h
  | .str _, _, h, _ => h
  | .scr _, _, h, _ => by simp only [RepD] at h ⊢; exact h
  | .lst xs, v, h, n => by
    simp only [RepD] at h ⊢
    obtain ⟨b, vs, e, ho, hb, hr⟩ := h
    refine ⟨b, vs, e, ?_, hb, RepDs.far xs vs hr fun a ys hn => n a ys ?_⟩
    · rintro (z | z)
      · exact ho z
      · exact z.2 (n b xs (by simp only [Node]; exact ⟨b, vs, e, hb, hr, .inl (by simp)⟩))
    · simp only [Node]; exact ⟨b, vs, e, hb, hr, .inr hn⟩
  | .tup xs, v, h, n => by
    simp only [RepD] at h ⊢
    obtain ⟨b, vs, e, hb, hr⟩ := h
    exact ⟨b, vs, e, hb, RepDs.far xs vs hr fun a ys hn => n a ys (by simp only [Node]; exact ⟨b, vs, e, hb, hr, hn⟩)⟩
  | .dct kvs, v, h, n => by
    simp only [RepD] at h ⊢
    obtain ⟨b, vs, e, ho, hb, hr⟩ := h
    refine ⟨b, vs, e, ?_, hb, RepKs.far kvs vs hr fun a ys hn => n a ys (by simp only [Node]; exact ⟨b, vs, e, hb, hr, hn⟩)⟩
    rintro (z | ⟨⟨ws, z⟩, _⟩)
    · exact ho z
    · rcases hb with hb | ⟨o, hb⟩ <;> rw [hb] at z <;> cases z
theorem RepDs.far {P : Addr → Prop} : ∀ (ds : List D) (vs : List V), RepDs K O H ds vs → (∀ a ys, NodeL K O H ds vs a ys → P a) → RepDs K (Far O H P) H ds vs
  | [], vs, h, _ => by simp only [RepDs] at h ⊢; exact h
  | x :: xs, vs, h, n => by
    simp only [RepDs] at h ⊢
    obtain ⟨v, r, rfl, h1, h2⟩ := h
    exact ⟨v, r, rfl, RepD.far x v h1 fun a ys hn => n a ys (by simp only [NodeL]; exact .inl hn), RepDs.far xs r h2 fun a ys hn => n a ys (by simp only [NodeL]; exact .inr hn)⟩
theorem RepKs.far {P : Addr → Prop} : ∀ (ds : List (Key × D)) (vs : List (Key × V)), RepKs K O H ds vs → (∀ a ys, NodeK K O H ds vs a ys → P a) → RepKs K (Far O H P) H ds vs
  | [], vs, h, _ => by simp only [RepKs] at h ⊢; exact h
  | (c, x) :: xs, vs, h, n => by
    simp only [RepKs] at h ⊢
    obtain ⟨v, r, rfl, h1, h2⟩ := h
    exact ⟨v, r, rfl, RepD.far x v h1 fun a ys hn => n a ys (by simp only [NodeK]; exact .inl hn), RepKs.far xs r h2 fun a ys hn => n a ys (by simp only [NodeK]; exact .inr hn)⟩
end
theorem flat_any : ∀ {xs : List D} {vs : List V}, (∀ x ∈ xs, kindN x < 4) → RepDs K O H xs vs → RepDs K O' H xs vs
  | [], vs, _, h => by simp only [RepDs] at h ⊢; exact h
  | x :: xs, vs, hf, h => by
    simp only [RepDs] at h ⊢
    obtain ⟨v, r, rfl, h1, h2⟩ := h
    refine ⟨v, r, rfl, ?_, flat_any (fun y hy => hf y (by simp [hy])) h2⟩
    have := hf x (by simp)
    cases x <;> simp [kindN] at this <;> simpa only [RepD] using h1
end
def freshV (ds xs : List D) : Bool := xs.all (fun x => decide (kindN x < 4)) && (subsL ds).all (apartL xs)
/-- a call whose answer, a list, is new -/
def FR.V (ds : List D) : FR → DV.R (List D)
  | .ol xs => .ok xs
  | .val (.lst xs) => if freshV ds xs = true then .ok xs else .no
  | .exc c n => .exc c n
  | _ => .no
def nCallV (Fn : List D → FR) (ga : Env → R (List D)) : Env → R (List D) := fun s => (ga s).bind fun ds => (Fn ds).V ds
section
variable {X : Cx} {W : WX} {k n : Nat} {x : Str} {Fn : List D → FR} {e : Expr} {es : List Expr} {ga : Env → R (List D)} {p pos : Pos}
theorem dn_callV (C : CallOk X.prog X.w X.K X.mg X.base k n x Fn) (ar : Arity n Fn) (hr : Room k X.A) (tk : L2N.Takes X W) (ha : DA X W false (e :: es) ga) (hg : Gl X x) (hdb : (x == ("__debug__" : Str)) = false := by decide) (he : starEach (e :: es) X.env = (false, eval e X.env) :: starEach es X.env := by rfl) (hpl : (backTo pos (starEach es X.env)).any (·.1) = false := by rfl) :
    DN X W (.Call (.Name x p) (e :: es) [] pos) (nCallV Fn ga) := PE.imp (pe_callD C hr tk ha hg hdb he hpl) fun σ H Q ⟨env, O, rs, q⟩ => by
  unfold nCallV at q
  refine ⟨env, O, rs, ?_⟩
  revert q
  cases ga env with
  | exc c n => exact fun q => q
  | no => exact fun q => q
  | ok ds =>
    intro q vs H1 s1 r1
    have rs1 := rs.same s1
    have q1 := FinN.same s1 q
    rw [R.bind_ok] at q1
    have r2 := RepMs.ds r1
    have hn : Fn ds ≠ .no := fun z => by rw [z] at q1; exact q1.elim
    refine ⟨r2.length.symm.trans (ar ds hn), ?_⟩
    cases eF : Fn ds with
    | ol xs => rw [eF] at q1; exact ⟨O, ds, rs1.trk, r2, by rw [eF]; exact q1⟩
    | od xs => rw [eF] at q1; exact q1.elim
    | exc c n => rw [eF] at q1; exact ⟨O, ds, rs1.trk, r2, by rw [eF]; exact fun C dx H' a s b => q1 C dx H' a s b⟩
    | no => exact absurd eF hn
    | val d =>
      rw [eF] at q1
      cases d with
      | lst xs =>
        simp only [FR.V] at q1
        split at q1
        · rename_i hf
          unfold freshV at hf
          simp only [Bool.and_eq_true, List.all_eq_true, decide_eq_true_eq] at hf
          refine ⟨Far O H1 (fun a => ∃ ys, NodeL X.K O H1 ds vs a ys), ds, fun a z => ?_, RepDs.far ds vs r2 fun a ys hn => ⟨ys, hn⟩, ?_⟩
          · rcases z with z | ⟨⟨ws, z⟩, _⟩
            · exact rs1.trk a z
            · rw [z]; simp
          · rw [eF]
            intro v H2 s2 rv
            simp only [RepD] at rv
            obtain ⟨a, ws, rfl, na, ha2, hr2⟩ := rv
            refine q1 a ws H2 s2 ?_ ha2 (flat_any hf.1 hr2)
            cases eo : H1 a with
            | none => rfl
            | some o =>
              exfalso
              have := s2 _ _ eo
              rw [ha2] at this
              cases this
              by_cases hP : ∃ ys, NodeL X.K O H1 ds vs a ys
              · obtain ⟨ys, hy⟩ := hP
                obtain ⟨h1, ws', h2, h3⟩ := NodeL.rep hy
                rw [eo] at h2
                cases h2
                have h4 := apartL_no hr2 (h3.same s2)
                have h5 := hf.2 ys h1
                rw [h4] at h5
                cases h5
              · exact na (.inr ⟨⟨ws, eo⟩, hP⟩)
        · exact q1.elim
      | _ => exact q1.elim
@[simp] theorem nCallV_ap (Fn : List D → FR) (ga : Env → R (List D)) (s : Env) : nCallV Fn ga s = (ga s).bind fun ds => (Fn ds).V ds := Eq.trans rfl rfl
@[simp] theorem FR.V_ol (ds xs : List D) : (FR.ol xs).V ds = .ok xs := Eq.trans rfl rfl
@[simp] theorem FR.V_exc (ds : List D) (c : Str) (n : Int) : (FR.exc c n).V ds = .exc c n := Eq.trans rfl rfl
@[simp] theorem FR.V_val (ds xs : List D) : (FR.val (.lst xs)).V ds = if freshV ds xs = true then .ok xs else .no := Eq.trans rfl rfl
end
end DV

namespace DV
open PySem L2 PySem.Spec PyProof.Rows

/-! ### sorted(..) of a list of pairs of ints -/
def Prs (K : PySem.W.Frag) (H : Hp) : List (Int × Int) → List V → Prop
  | [], vs => vs = []
  | p :: ps, vs => ∃ t r, vs = .ref t :: r ∧ SqT K H t [.int p.1, .int p.2] ∧ Prs K H ps r
def intAt (its : Array Value) (i : Nat) : Int := match its[i]? with
  | some (.int z _) => z
  | _ => 0
def pairAt (h : Heap) : Value → Int × Int
  | .ref t => match h.get? t with
    | some ⟨_, _, .seq its _, _⟩ => (intAt its 0, intAt its 1)
    | _ => (0, 0)
  | _ => (0, 0)
theorem prs_heap {X : Cx} {pins : List (Addr × Obj)} {σ : L2.St} {H : Hp} {s : Shared} (I : Inv X pins σ H s) : ∀ {ps : List (Int × Int)} {xs : List V} {us : List Value}, Prs X.K H ps xs → Vals xs us → us.map (pairAt s.heap) = ps ∧ (∀ v ∈ us, Srt.IsPair s.heap v (pairAt s.heap v).1 (pairAt s.heap v).2) ∧
    ∀ u ∈ us, ∃ t, u = .ref t ∧ SqT X.K H t [.int (pairAt s.heap u).1, .int (pairAt s.heap u).2]
  | [], xs, us, hp, hv => by
    have : xs = [] := hp
    subst this
    cases hv
    exact ⟨rfl, fun v h => by simp at h, fun v h => by simp at h⟩
  | p :: ps, xs, us, hp, hv => by
    obtain ⟨t, r, rfl, hq, hr⟩ := hp
    cases hv with
    | @cons _ u _ us' ru rr =>
      obtain rfl : u = Value.ref t := ru
      obtain ⟨its, r2, ⟨o, ho, hc, n, hd⟩, _⟩ := I.tuple hq
      obtain ⟨u1, u2, rfl, ri, rj⟩ := vals2 r2
      obtain ⟨t1, rfl⟩ := ri
      obtain ⟨t2, rfl⟩ := rj
      have ek : pairAt s.heap (.ref t) = p := by
        obtain ⟨oc, od, dt, sl⟩ := o
        simp only at hd
        subst hd
        simp only [pairAt, ho]
        rfl
      obtain ⟨i1, i2, i3⟩ := prs_heap I hr rr
      refine ⟨by rw [List.map_cons, ek, i1], fun v hm => ?_, fun v hm => ?_⟩
      · rcases List.mem_cons.mp hm with rfl | hm
        · rw [ek]; exact ⟨t, o, t1, t2, n, rfl, ho, hc, hd⟩
        · exact i2 v hm
      · rcases List.mem_cons.mp hm with rfl | hm
        · rw [ek]; exact ⟨t, rfl, hq⟩
        · exact i3 v hm
def rSortP (K : PySem.W.Frag) : List V → Hp → VK → Prop := fun xs H Q => ∃ (a : Addr) (us : List V) (ps : List (Int × Int)), xs = [.ref a] ∧ SqL K H a us ∧ Prs K H ps us ∧
  ∀ qs ys p, qs.Perm ps → SrtO.Srtd SrtO.lexB qs → Prs K H qs ys → H p = none → Q (.ref p) (upd H p (.lst ys))
theorem prs_of {K : PySem.W.Frag} {H : Hp} {k : Value → Int × Int} : ∀ {out : List Value}, (∀ u ∈ out, ∃ t, u = .ref t ∧ SqT K H t [.int (k u).1, .int (k u).2]) → Prs K H (out.map k) (out.map backV)
  | [], _ => rfl
  | u :: us, h => by
    obtain ⟨t, rfl, hq⟩ := h u (by simp)
    exact ⟨t, us.map backV, rfl, hq, prs_of fun v hv => h v (by simp [hv])⟩
theorem call_sortP {X : Cx} : CallR X (.builtin "sorted") (rSortP X.K) := by
  intro pins s σ H xs us Q I r h
  obtain ⟨a, vs, ps, rfl, hs, hp, q⟩ := h
  obtain ⟨its, rv, hl, hz⟩ := I.list hs
  obtain ⟨u, rfl, ru⟩ := vals1 r
  obtain rfl : u = Value.ref a := ru
  obtain ⟨e1, e2, e3⟩ := prs_heap I hp rv
  refine SrtO.sorted_pairsO (k := pairAt s.heap) hl.isList (by rw [← rv.length]; exact hz) e2 fun h' d out h1 h2 kp hd hn => ?_
  obtain ⟨n, hn⟩ := hn
  have hm : ∀ u ∈ out, ∃ t, u = .ref t ∧ SqT X.K H t [.int (pairAt s.heap u).1, .int (pairAt s.heap u).2] := fun u hu => e3 u (h2.perm.mem_iff.mp hu)
  have hr : ∀ u ∈ out, ∃ t, u = Value.ref t := fun u hu => let ⟨t, e, _⟩ := hm u hu; ⟨t, e⟩
  refine ⟨.ref d, upd H d (.lst (out.map backV)), I.laid (t' := s.toks) kp hd ⟨?_, out, n, vals_back hr, hn⟩, rfl, q (out.map (pairAt s.heap)) (out.map backV) d ?_ (SrtO.srtd_map h1) (prs_of hm) (I.hok.fresh hd)⟩
  · rw [List.length_map, h2.perm.length_eq, ← rv.length]; exact hz
  · rw [← e1]; exact h2.perm.map _
def pairD (p : Int × Int) : D := .tup [.int p.1, .int p.2]
def prs? : List D → Option (List (Int × Int))
  | [] => some []
  | .tup [.int a, .int b] :: r => (prs? r).map ((a, b) :: ·)
  | _ :: _ => none
theorem prs?_eq : ∀ {ds : List D} {ps : List (Int × Int)}, prs? ds = some ps → ds = ps.map pairD
  | [], ps, h => by cases h; rfl
  | d :: ds, ps, h => by
    unfold prs? at h
    split at h
    · rename_i e; cases e
    · rename_i a b r e
      cases e
      obtain ⟨qs, e1, rfl⟩ := Option.map_eq_some_iff.mp h
      rw [prs?_eq e1]; rfl
    · cases h
@[simp] theorem prs?_map (ps : List (Int × Int)) : prs? (ps.map pairD) = some ps := by
  induction ps with
  | nil => rfl
  | cons p ps ih => simp only [List.map_cons, pairD, prs?, Option.map_eq_some_iff]; exact ⟨ps, ih, rfl⟩
def lexLe (p q : Int × Int) : Bool := !SrtO.lexB q p
theorem lexLe_iff (p q : Int × Int) : lexLe p q = true ↔ p.1 < q.1 ∨ (p.1 = q.1 ∧ p.2 ≤ q.2) := by
  unfold lexLe
  rw [Bool.not_eq_true', SrtO.lexB_no]
  omega
def sortP (ps : List (Int × Int)) : List (Int × Int) := ps.mergeSort lexLe
theorem sortP_perm (ps : List (Int × Int)) : (sortP ps).Perm ps := List.mergeSort_perm _ _
theorem sortP_sorted (ps : List (Int × Int)) : (sortP ps).Pairwise fun p q => lexLe p q = true :=
  List.pairwise_mergeSort (le := lexLe) (fun a b c => by rw [lexLe_iff, lexLe_iff, lexLe_iff]; omega) (fun a b => by rw [Bool.or_eq_true, lexLe_iff, lexLe_iff]; omega) ps
theorem sorted_uniq : ∀ {l m : List (Int × Int)}, l.Perm m → l.Pairwise (fun p q => lexLe p q = true) → m.Pairwise (fun p q => lexLe p q = true) → l = m
  | [], m, hp, _, _ => (List.nil_perm.mp hp).symm
  | x :: l, [], hp, _, _ => absurd hp.length_eq (by simp)
  | x :: l, y :: m, hp, hl, hm => by
    have e : x = y := by
      have a1 : y ∈ x :: l := hp.mem_iff.mpr (by simp)
      have a2 : x ∈ y :: m := hp.mem_iff.mp (by simp)
      rcases List.mem_cons.mp a1 with e | a1
      · exact e.symm
      · rcases List.mem_cons.mp a2 with e | a2
        · exact e
        · have b1 := (List.pairwise_cons.mp hl).1 y a1
          have b2 := (List.pairwise_cons.mp hm).1 x a2
          rw [lexLe_iff] at b1 b2
          apply Prod.ext <;> omega
    subst e
    rw [sorted_uniq (hp.cons_inv) (List.pairwise_cons.mp hl).2 (List.pairwise_cons.mp hm).2]
theorem sortP_eq {qs ps : List (Int × Int)} (hp : qs.Perm ps) (hs : qs.Pairwise fun p q => lexLe p q = true) : qs = sortP ps := sorted_uniq (hp.trans (sortP_perm ps).symm) hs (sortP_sorted ps)
def sortPX : List D → R (List D)
  | [.lst xs] => match prs? xs with
    | some ps => .ok ((sortP ps).map pairD)
    | none => .no
  | _ => .no
theorem sortPX_nx : ∀ x c n, sortPX x ≠ .exc c n := fun x c n => by
  unfold sortPX
  split
  · split <;> simp
  · simp
section
variable {K : PySem.W.Frag} {O : Addr → Prop} {H : Hp}
theorem prs_rep : ∀ {ps : List (Int × Int)} {vs : List V}, RepDs K O H (ps.map pairD) vs → Prs K H ps vs
  | [], vs, h => by simp only [List.map_nil, RepDs] at h; exact h
  | p :: ps, vs, h => by
    simp only [List.map_cons, RepDs, pairD, RepD] at h
    obtain ⟨v, r, rfl, ⟨t, us, rfl, hq, v1, r1, rfl, e1, v2, r2, rfl, e2, e3⟩, h2⟩ := h
    subst e1 e2 e3
    exact ⟨t, r, rfl, hq, prs_rep h2⟩
theorem rep_prs : ∀ {ps : List (Int × Int)} {vs : List V}, Prs K H ps vs → RepDs K O H (ps.map pairD) vs
  | [], vs, h => by simp only [List.map_nil, RepDs]; exact h
  | p :: ps, vs, h => by
    obtain ⟨t, r, rfl, hq, h2⟩ := h
    simp only [List.map_cons, RepDs, pairD, RepD]
    exact ⟨_, _, rfl, ⟨t, _, rfl, hq, _, _, rfl, rfl, _, _, rfl, rfl, rfl⟩, rep_prs h2⟩
theorem ol_sortP : OpL K (rSortP K) sortPX := fun mg O σ env H Q ds vs r hx q => by
  unfold sortPX at q
  split at q
  · obtain ⟨v, e, h⟩ := repMs1 hx
    split at q
    · rename_i ps en
      rw [prs?_eq en] at h
      obtain ⟨a, us, e2, h1, h2⟩ := repLst h
      subst e2
      refine ⟨a, us, ps, e, .of h1, prs_rep h2, fun qs ys p hp hs hy n => ?_⟩
      have e3 : qs = sortP ps := sortP_eq hp (hs.imp fun {x y} hxy => by
        unfold lexLe
        rw [hxy]; rfl)
      subst e3
      exact q.put (rep_prs hy) n
    · exact q.elim
  · exact q.elim
end
section
variable {X : Cx} {W : WX} {m : Bool} {e : Expr} {g : Env → R (List D)} {p pos : Pos}
theorem dn_sortedP (hm : X.mg "sorted" = none) (ha : DA X W true [e] g) (hg : Gl X "sorted" := by rfl) (he : starEach [e] X.env = (false, eval e X.env) :: starEach [] X.env := by rfl) : DN X W (.Call (.Name "sorted" p) [e] [] pos) (nB sortPX g) :=
  dn_callB call_sortP ol_sortP sortPX_nx hg hm (by decide +kernel) ha (by decide) (by decide) he rfl
end
end DV

namespace DV
open PySem L2 PySem.Spec PyProof.Rows
open PySem.W (alike dataLt minD maxD DatumOrd Datum minOf maxOf)
/-! ### min, max of typed data -/
section
variable {α : Type} [DecidableEq α] [DatumOrd α]
/-- d writes α's values as data -/
structure Wr (d : α → D) : Prop where
  plain : ∀ a, (d a).plain = true
  pd : ∀ a, (d a).pd = Datum.toD a
  depth : ∀ a, (d a).pd.depth ≤ 50
theorem plains_all {xs : List D} (h : ∀ x ∈ xs, x.plain = true) : D.plains xs = true := by
  induction xs with
  | nil => rfl
  | cons x xs ih => simp only [D.plains, Bool.and_eq_true]; exact ⟨h x (by simp), ih fun y hy => h y (by simp [hy])⟩
theorem depthAll_le {n : Nat} {xs : List D} (h : ∀ x ∈ xs, x.pd.depth ≤ n) : PyData.depthAll (D.pds xs) ≤ n := by
  induction xs with
  | nil => simp [D.pds, PyData.depthAll]
  | cons x xs ih =>
    have h1 := h x (by simp)
    have h2 := ih fun y hy => h y (by simp [hy])
    simp only [D.pds, PyData.depthAll]
    omega
theorem Wr.okX {d : α → D} (h : Wr d) (xs : List α) : okX (xs.map d) := by
  refine ⟨plains_all fun x hx => ?_, ?_, depthAll_le fun x hx => ?_⟩
  · obtain ⟨a, _, rfl⟩ := List.mem_map.mp hx; exact h.plain a
  · simp only [alikesB, List.all_eq_true, Bool.and_eq_true, Bool.not_eq_true']
    intro x hx
    obtain ⟨a, _, rfl⟩ := List.mem_map.mp hx
    refine ⟨?_, fun y hy => ?_⟩
    · rw [h.pd]
      cases e : Datum.toD a <;> first | rfl | exact absurd e (DatumOrd.notNone a)
    · obtain ⟨b, _, rfl⟩ := List.mem_map.mp hy
      rw [h.pd, h.pd]; exact DatumOrd.alike a b
  · obtain ⟨a, _, rfl⟩ := List.mem_map.mp hx; have := h.depth a; omega
theorem Wr.min {d : α → D} (h : Wr d) (x : α) (xs : List α) : minX [.lst ((x :: xs).map d)] = .ok (d (minOf x xs)) := by
  have h1 := h.okX (x :: xs)
  rw [List.map_cons] at h1 ⊢
  simp only [minX, if_pos h1]
  congr 1
  unfold minDD minOf
  clear h1
  induction xs generalizing x with
  | nil => rfl
  | cons y ys ih =>
    rw [List.map_cons, List.foldl_cons, List.foldl_cons, ← ih, h.pd, h.pd, DatumOrd.lt_eq y x]
    cases DatumOrd.lt y x <;> rfl
theorem Wr.max {d : α → D} (h : Wr d) (x : α) (xs : List α) : maxX [.lst ((x :: xs).map d)] = .ok (d (maxOf x xs)) := by
  have h1 := h.okX (x :: xs)
  rw [List.map_cons] at h1 ⊢
  simp only [maxX, if_pos h1]
  congr 1
  unfold maxDD maxOf
  clear h1
  induction xs generalizing x with
  | nil => rfl
  | cons y ys ih =>
    rw [List.map_cons, List.foldl_cons, List.foldl_cons, ← ih, h.pd, h.pd, DatumOrd.lt_eq x y]
    cases DatumOrd.lt x y <;> rfl
end
end DV

namespace DV
open PySem L2 PySem.Spec PyProof.Rows
open PySem.W (alike dataLt minD maxD DatumOrd Datum minOf maxOf listLt)
/-! ### typed data: values of Lean types as data -/
class En (α : Type) [DecidableEq α] [DatumOrd α] where
  d : α → D
  plain : ∀ a, (d a).plain = true
  pd : ∀ a, (d a).pd = Datum.toD a
theorem pds_map {α : Type} (f : α → D) (g : α → PyData) (h : ∀ a, (f a).pd = g a) : ∀ xs : List α, D.pds (xs.map f) = xs.map g
  | [] => rfl
  | x :: xs => by rw [List.map_cons, List.map_cons, D.pds, h, pds_map f g h xs]
instance : En Int := ⟨D.int, fun _ => rfl, fun _ => rfl⟩
instance : En Bool := ⟨D.bl, fun _ => rfl, fun _ => rfl⟩
instance : En Str := ⟨D.str, fun _ => rfl, fun _ => rfl⟩
section
variable {α β : Type} [DecidableEq α] [DatumOrd α] [En α] [DecidableEq β] [DatumOrd β] [En β]
instance : En (List α) := ⟨fun xs => .lst (xs.map En.d), fun xs => by
    simp only [D.plain]
    exact plains_all fun y hy => by obtain ⟨a, _, rfl⟩ := List.mem_map.mp hy; exact En.plain a,
  fun xs => by simp only [D.pd]; rw [pds_map En.d Datum.toD En.pd]; rfl⟩
instance : En (α × β) := ⟨fun p => .tup [En.d p.1, En.d p.2], fun p => by simp [D.plain, D.plains, En.plain], fun p => by simp only [D.pd, D.pds, En.pd]; rfl⟩
@[simp] theorem en_int (i : Int) : (En.d i : D) = .int i := Eq.trans rfl rfl
@[simp] theorem en_bool (b : Bool) : (En.d b : D) = .bl b := Eq.trans rfl rfl
@[simp] theorem en_str (x : Str) : (En.d x : D) = .str x := Eq.trans rfl rfl
theorem en_list (xs : List α) : (En.d xs : D) = .lst (xs.map En.d) := rfl
theorem en_pair (p : α × β) : (En.d p : D) = .tup [En.d p.1, En.d p.2] := rfl
theorem en_depth (a : α) : (En.d a : D).pd.depth ≤ Datum.depth α := by rw [En.pd]; exact Datum.depth_le a
theorem en_eqv (a b : α) : eqvD (En.d a) (En.d b) = decide (a = b) := by rw [eqvD, En.pd, En.pd, Datum.eqv]
theorem en_eq (a b : α) (h : Datum.depth α ≤ 60 := by decide) : eqD (En.d a) (En.d b) = .ok (.bl (decide (a = b))) := by
  rw [eqD, if_pos ⟨En.plain a, En.plain b, Nat.le_trans (Nat.min_le_left _ _) (Nat.le_trans (en_depth a) h)⟩, en_eqv]
theorem en_ne (a b : α) (h : Datum.depth α ≤ 60 := by decide) : neD (En.d a) (En.d b) = .ok (.bl (!decide (a = b))) := by
  rw [neD, if_pos ⟨En.plain a, En.plain b, Nat.le_trans (Nat.min_le_left _ _) (Nat.le_trans (en_depth a) h)⟩, en_eqv]
theorem en_plains (xs : List α) : D.plains (xs.map En.d) = true := plains_all fun y hy => by obtain ⟨a, _, rfl⟩ := List.mem_map.mp hy; exact En.plain a
theorem en_isIn (a : α) (xs : List α) : isIn (En.d a) (xs.map En.d) = decide (a ∈ xs) := by
  unfold isIn
  rw [List.any_map]
  induction xs with
  | nil => simp
  | cons x xs ih =>
    rw [List.any_cons, ih]
    simp only [Function.comp, en_eqv, List.mem_cons]
    by_cases h1 : x = a
    · simp [h1]
    · have : ¬ a = x := fun e => h1 e.symm
      simp [h1, this]
theorem en_inOk (a : α) (xs : List α) (h : Datum.depth α ≤ 60) : inOk (En.d a) (xs.map En.d) := ⟨En.plain a, en_plains xs, Nat.le_trans (Nat.min_le_right _ _) (Nat.le_trans (en_depth a) h)⟩
theorem en_in (a : α) (xs : List α) (h : Datum.depth α ≤ 60 := by decide) : inD (En.d a) (.lst (xs.map En.d)) = .ok (.bl (decide (a ∈ xs))) := by
  rw [inD, if_pos (en_inOk a xs h), en_isIn]
theorem en_nin (a : α) (xs : List α) (h : Datum.depth α ≤ 60 := by decide) : ninD (En.d a) (.lst (xs.map En.d)) = .ok (.bl (!decide (a ∈ xs))) := by
  rw [ninD, if_pos (en_inOk a xs h), en_isIn]
theorem En.wr (h : Datum.depth α ≤ 50) : Wr (En.d : α → D) := ⟨En.plain, En.pd, fun a => Nat.le_trans (en_depth a) h⟩
theorem en_min (x : α) (xs : List α) (h : Datum.depth α ≤ 50 := by decide) : minX [.lst ((x :: xs).map En.d)] = .ok (En.d (minOf x xs)) := (En.wr h).min x xs
theorem en_max (x : α) (xs : List α) (h : Datum.depth α ≤ 50 := by decide) : maxX [.lst ((x :: xs).map En.d)] = .ok (En.d (maxOf x xs)) := (En.wr h).max x xs
end
theorem ints_en (xs : List Int) : (xs.map D.int : List D) = xs.map En.d := rfl

/-! a total order -/
class Lin (α : Type) [DecidableEq α] [DatumOrd α] : Prop where
  irr : ∀ a : α, DatumOrd.lt a a = false
  trans : ∀ a b c : α, DatumOrd.lt a b = true → DatumOrd.lt b c = true → DatumOrd.lt a c = true
  tri : ∀ a b : α, DatumOrd.lt a b = true ∨ a = b ∨ DatumOrd.lt b a = true
theorem lt_int (a b : Int) : DatumOrd.lt a b = decide (a < b) := rfl
instance : Lin Int := ⟨fun a => by simp [lt_int], fun a b c h1 h2 => by simp [lt_int] at *; omega, fun a b => by simp [lt_int]; omega⟩
section
variable {α β : Type} [DecidableEq α] [DatumOrd α] [Lin α] [DecidableEq β] [DatumOrd β] [Lin β]
theorem lt_pair (p q : α × β) : DatumOrd.lt p q = if p.1 = q.1 then DatumOrd.lt p.2 q.2 else DatumOrd.lt p.1 q.1 := rfl
theorem Lin.asymm {a b : α} (h : DatumOrd.lt a b = true) : DatumOrd.lt b a = false := by
  cases e : DatumOrd.lt b a
  · rfl
  · have := Lin.trans _ _ _ h e
    rw [Lin.irr] at this; cases this
theorem Lin.ne {a b : α} (h : DatumOrd.lt a b = true) : a ≠ b := fun e => by subst e; rw [Lin.irr] at h; cases h
instance : Lin (α × β) where
  irr p := by rw [lt_pair, if_pos rfl, Lin.irr]
  trans p q r h1 h2 := by
    rw [lt_pair] at h1 h2 ⊢
    split at h1 <;> split at h2
    · rename_i a b
      rw [if_pos (a.trans b)]; exact Lin.trans _ _ _ h1 h2
    · rename_i a b
      rw [if_neg (fun e => b (a ▸ e)), a]; exact h2
    · rename_i a b
      rw [if_neg (fun e => a (e.trans b.symm)), ← b]; exact h1
    · rename_i a b
      have h3 := Lin.trans _ _ _ h1 h2
      rw [if_neg (Lin.ne h3)]; exact h3
  tri p q := by
    rw [lt_pair, lt_pair]
    by_cases h : p.1 = q.1
    · rw [if_pos h, if_pos h.symm]
      rcases Lin.tri p.2 q.2 with h2 | h2 | h2
      · exact .inl h2
      · exact .inr (.inl (Prod.ext h h2))
      · exact .inr (.inr h2)
    · rw [if_neg h, if_neg (fun e => h e.symm)]
      rcases Lin.tri p.1 q.1 with h2 | h2 | h2
      · exact .inl h2
      · exact absurd h2 h
      · exact .inr (.inr h2)
theorem lt_pair_no {p q : α × β} : DatumOrd.lt p q = false ↔ DatumOrd.lt p.1 q.1 = false ∧ (p.1 = q.1 → DatumOrd.lt p.2 q.2 = false) := by
  rw [lt_pair]
  by_cases h : p.1 = q.1
  · rw [if_pos h, h, Lin.irr]; simp
  · rw [if_neg h]; simp [h]
theorem listLt_irr : ∀ xs : List α, listLt xs xs = false
  | [] => by simp [listLt]
  | x :: xs => by simp [listLt, listLt_irr xs]
theorem listLt_trans : ∀ xs ys zs : List α, listLt xs ys = true → listLt ys zs = true → listLt xs zs = true
  | [], [], zs, h1, h2 => by simp [listLt] at h1
  | [], y :: ys, [], h1, h2 => by simp [listLt] at h2
  | [], y :: ys, z :: zs, h1, h2 => by simp [listLt]
  | x :: xs, [], zs, h1, h2 => by simp [listLt] at h1
  | x :: xs, y :: ys, [], h1, h2 => by simp [listLt] at h2
  | x :: xs, y :: ys, z :: zs, h1, h2 => by
    simp only [listLt] at h1 h2 ⊢
    split at h1 <;> split at h2
    · rename_i a b
      rw [if_pos (a.trans b)]; exact listLt_trans xs ys zs h1 h2
    · rename_i a b
      rw [if_neg (fun e => b (a ▸ e)), a]; exact h2
    · rename_i a b
      rw [if_neg (fun e => a (e.trans b.symm)), ← b]; exact h1
    · rename_i a b
      have h3 := Lin.trans _ _ _ h1 h2
      rw [if_neg (Lin.ne h3)]; exact h3
theorem listLt_tri : ∀ xs ys : List α, listLt xs ys = true ∨ xs = ys ∨ listLt ys xs = true
  | [], [] => .inr (.inl rfl)
  | [], y :: ys => .inl (by simp [listLt])
  | x :: xs, [] => .inr (.inr (by simp [listLt]))
  | x :: xs, y :: ys => by
    simp only [listLt]
    by_cases h : x = y
    · rw [if_pos h, if_pos h.symm]
      rcases listLt_tri xs ys with h2 | h2 | h2
      · exact .inl h2
      · exact .inr (.inl (by rw [h, h2]))
      · exact .inr (.inr h2)
    · rw [if_neg h, if_neg (fun e => h e.symm)]
      rcases Lin.tri x y with h2 | h2 | h2
      · exact .inl h2
      · exact absurd h2 h
      · exact .inr (.inr h2)
instance : Lin (List α) := ⟨listLt_irr, listLt_trans, listLt_tri⟩
/-- m is the least of l -/
def Least (l : List α) (m : α) : Prop := m ∈ l ∧ ∀ y ∈ l, DatumOrd.lt y m = false
theorem Least.uniq {l : List α} {a b : α} (h : Least l a) (g : Least l b) : a = b := by
  rcases Lin.tri a b with e | e | e
  · rw [g.2 a h.1] at e; cases e
  · exact e
  · rw [h.2 b g.1] at e; cases e
theorem Least.perm {l l' : List α} {a : α} (hm : ∀ y, y ∈ l ↔ y ∈ l') (h : Least l a) : Least l' a := ⟨(hm a).mp h.1, fun y hy => h.2 y ((hm y).mpr hy)⟩
theorem Lin.nlt_trans {a b c : α} (h1 : DatumOrd.lt b a = false) (h2 : DatumOrd.lt c b = false) : DatumOrd.lt c a = false := by
  cases e : DatumOrd.lt c a
  · rfl
  · rcases Lin.tri a b with h | h | h
    · have := Lin.trans _ _ _ e h
      rw [h2] at this; cases this
    · subst h; rw [h2] at e; cases e
    · rw [h1] at h; cases h
theorem minOf_least (x : α) (xs : List α) : Least (x :: xs) (minOf x xs) := by
  unfold minOf
  induction xs generalizing x with
  | nil => exact ⟨by simp, fun y hy => by simp at hy; subst hy; exact Lin.irr y⟩
  | cons y ys ih =>
    rw [List.foldl_cons]
    by_cases h : DatumOrd.lt y x = true
    · rw [if_pos h]
      obtain ⟨h1, h2⟩ := ih y
      refine ⟨List.mem_cons_of_mem _ h1, fun z hz => ?_⟩
      rcases List.mem_cons.mp hz with rfl | hz
      · exact Lin.nlt_trans (h2 y (by simp)) (Lin.asymm h)
      · exact h2 z hz
    · rw [if_neg h]
      obtain ⟨h1, h2⟩ := ih x
      refine ⟨?_, fun z hz => ?_⟩
      · rcases List.mem_cons.mp h1 with h1 | h1
        · rw [h1]; simp
        · exact List.mem_cons_of_mem _ (List.mem_cons_of_mem _ h1)
      · rcases List.mem_cons.mp hz with rfl | hz
        · exact h2 z (by simp)
        · rcases List.mem_cons.mp hz with rfl | hz
          · exact Lin.nlt_trans (h2 x (by simp)) (by simpa using h)
          · exact h2 z (List.mem_cons_of_mem _ hz)
theorem maxOf_greatest (x : α) (xs : List α) : maxOf x xs ∈ x :: xs ∧ ∀ y ∈ x :: xs, DatumOrd.lt (maxOf x xs) y = false := by
  unfold maxOf
  induction xs generalizing x with
  | nil => exact ⟨by simp, fun y hy => by simp at hy; subst hy; exact Lin.irr y⟩
  | cons y ys ih =>
    rw [List.foldl_cons]
    by_cases h : DatumOrd.lt x y = true
    · rw [if_pos h]
      obtain ⟨h1, h2⟩ := ih y
      refine ⟨List.mem_cons_of_mem _ h1, fun z hz => ?_⟩
      rcases List.mem_cons.mp hz with rfl | hz
      · exact Lin.nlt_trans (Lin.asymm h) (h2 y (by simp))
      · exact h2 z hz
    · rw [if_neg h]
      obtain ⟨h1, h2⟩ := ih x
      refine ⟨?_, fun z hz => ?_⟩
      · rcases List.mem_cons.mp h1 with h1 | h1
        · rw [h1]; simp
        · exact List.mem_cons_of_mem _ (List.mem_cons_of_mem _ h1)
      · rcases List.mem_cons.mp hz with rfl | hz
        · exact h2 z (by simp)
        · rcases List.mem_cons.mp hz with rfl | hz
          · exact Lin.nlt_trans (by simpa using h) (h2 x (by simp))
          · exact h2 z (List.mem_cons_of_mem _ hz)
theorem Least.min {x : α} {xs : List α} {m : α} (h : Least (x :: xs) m) : minOf x xs = m := (minOf_least x xs).uniq h
end
end DV

namespace DV
open PySem L2 PySem.Spec PyProof.Rows
/-! ### loops and comprehensions once more; sets of ints -/
theorem nLc_map {β : Type} {it : Env → R (List D)} {g : D → Env → R Env} {t : Env → R Bool} {elt : Env → R D} {own : List Nat} {s : Env} (xs : List β) (d f : β → D) (hit : it s = .ok (xs.map d)) (hl : xs.length ≤ 1000000)
    (h : ∀ x ∈ xs, ∃ s1, g (d x) (wipeE s own) = .ok s1 ∧ t s1 = .ok true ∧ elt s1 = .ok (f x)) : nLc it g t elt own s = .ok (xs.map f) := by
  rw [nLc_ap, hit, R.bind_ok, if_pos (by simpa using hl)]
  exact lcGo_map (γ := Unit) d f xs h
theorem nLc_filter {β : Type} {it : Env → R (List D)} {g : D → Env → R Env} {t : Env → R Bool} {elt : Env → R D} {own : List Nat} {s : Env} (xs : List β) (d : β → D) (p : β → Bool) (f : β → D) (hit : it s = .ok (xs.map d)) (hl : xs.length ≤ 1000000)
    (h : ∀ x ∈ xs, ∃ s1, g (d x) (wipeE s own) = .ok s1 ∧ t s1 = .ok (p x) ∧ (p x = true → elt s1 = .ok (f x))) : nLc it g t elt own s = .ok ((xs.filter p).map f) := by
  rw [nLc_ap, hit, R.bind_ok, if_pos (by simpa using hl)]
  exact lcGo_filter d p f xs h
def Out.ends : Out → Bool
  | .nx _ => false
  | .ct _ => false
  | .bk _ => false
  | _ => true
/-- a loop that returns at the first item where p does not hold -/
theorem forD_all {β : Type} {g : D → Env → R Env} {F : Env → Out} {wp : List Nat} {s : Env} (d : β → D) (p : β → Bool) (o : Out) (ho : o.ends = true) : ∀ xs : List β,
    (∀ x ∈ xs, ∃ s1, g (d x) s = .ok s1 ∧ (p x = true → ∃ s2, (F s1 = .nx s2 ∨ F s1 = .ct s2) ∧ wipeE s2 wp = s) ∧ (p x = false → F s1 = o)) →
    forD g F wp (xs.map d) s = if xs.all p = true then .nx s else o
  | [], _ => rfl
  | x :: xs, h => by
    obtain ⟨s1, h1, h2, h3⟩ := h x (by simp)
    have ih := forD_all d p o ho xs fun y hy => h y (by simp [hy])
    rw [List.map_cons, List.all_cons]
    cases hp : p x with
    | true =>
      obtain ⟨s2, h4, h5⟩ := h2 hp
      rw [Bool.true_and, ← ih]
      rcases h4 with h4 | h4 <;> simp only [forD, h1, h4, h5]
    | false =>
      have h4 := h3 hp
      simp only [forD, h1, h4, Bool.false_and, Bool.false_eq_true, if_false]
      revert ho
      cases o <;> simp [Out.ends]
@[simp] theorem neD_nil : neD (.lst []) (.lst []) = .ok (.bl false) := en_ne ([] : List Int) []
@[simp] theorem eqD_nil : eqD (.lst []) (.lst []) = .ok (.bl true) := en_eq ([] : List Int) []
theorem neD_ints (xs ys : List Int) : neD (.lst (xs.map D.int)) (.lst (ys.map D.int)) = .ok (.bl (!decide (xs = ys))) := en_ne xs ys
theorem eqD_ints (xs ys : List Int) : eqD (.lst (xs.map D.int)) (.lst (ys.map D.int)) = .ok (.bl (decide (xs = ys))) := en_eq xs ys
theorem neD_ints0 (xs : List Int) : neD (.lst (xs.map D.int)) (.lst []) = .ok (.bl (!decide (xs = []))) := en_ne xs ([] : List Int)
theorem eqD_ints0 (xs : List Int) : eqD (.lst (xs.map D.int)) (.lst []) = .ok (.bl (decide (xs = []))) := en_eq xs ([] : List Int)
theorem cut_from {α : Type} (xs : List α) (n : Nat) : cutG xs (some (n : Int)) none = xs.drop n := by
  unfold cutG
  have h0 : ¬ ((n : Int) < 0) := by omega
  have h1 : HT.sIx xs.length 0 (some (n : Int)) = min n xs.length := by simp [HT.sIx, h0]
  have h2 : HT.sIx xs.length xs.length none = xs.length := by simp [HT.sIx]
  rw [h1, h2]
  by_cases h : n ≤ xs.length
  · rw [Nat.min_eq_left h, List.take_of_length_le (by simp)]
  · rw [Nat.min_eq_right (by omega), List.drop_eq_nil_of_le (by omega), List.drop_eq_nil_of_le (by omega)]; simp
theorem cut_to {α : Type} (xs : List α) (n : Nat) : cutG xs none (some (n : Int)) = xs.take n := by
  unfold cutG
  have h0 : ¬ ((n : Int) < 0) := by omega
  have h1 : HT.sIx xs.length 0 none = 0 := by simp [HT.sIx]
  have h2 : HT.sIx xs.length xs.length (some (n : Int)) = min n xs.length := by simp [HT.sIx, h0]
  rw [h1, h2, List.drop_zero, Nat.sub_zero]
  by_cases h : n ≤ xs.length
  · rw [Nat.min_eq_left h]
  · rw [Nat.min_eq_right (by omega), List.take_of_length_le (by omega), List.take_of_length_le (by omega)]
/-- a loop that goes through, one state for each count of items that were met -/
theorem forD_steps {β : Type} {g : D → Env → R Env} {F : Env → Out} {wp : List Nat} (xs : List β) (d : β → D) (st : Nat → Env)
    (h : ∀ i (hi : i < xs.length), ∃ s1 s2, g (d xs[i]) (st i) = .ok s1 ∧ (F s1 = .nx s2 ∨ F s1 = .ct s2) ∧ wipeE s2 wp = st (i + 1)) : forD g F wp (xs.map d) (st 0) = .nx (st xs.length) := by
  have := forD_at (g := g) (F := F) (wp := wp) (xs.map d) st (fun i => i) fun i x e => by
    rw [List.getElem?_map, Option.map_eq_some_iff] at e
    obtain ⟨y, ey, rfl⟩ := e
    obtain ⟨hi, rfl⟩ := List.getElem?_eq_some_iff.mp ey
    exact h i hi
  simpa using this
theorem step_dedup_len (acc : List Int) : ∀ xs : List Int, (xs.foldl step_dedup acc).length ≤ acc.length + xs.length ∧ ((xs.foldl step_dedup acc).length = acc.length + xs.length ↔ xs.Nodup ∧ ∀ x ∈ xs, x ∉ acc)
  | [] => by simp
  | x :: xs => by
    rw [List.foldl_cons]
    have ih := step_dedup_len (step_dedup acc x) xs
    by_cases h : x ∈ acc
    · have e : step_dedup acc x = acc := by
        unfold step_dedup
        simp [h]
      rw [e] at ih ⊢
      refine ⟨by simp; omega, ⟨fun z => ?_, fun z => ?_⟩⟩
      · simp at z; omega
      · exact absurd h (z.2 x (by simp))
    · have e : step_dedup acc x = acc ++ [x] := by
        unfold step_dedup
        simp [h]
      rw [e] at ih ⊢
      obtain ⟨h1, h2⟩ := ih
      simp only [List.length_append, List.length_cons, List.length_nil] at h1 h2 ⊢
      refine ⟨by omega, ⟨fun z => ?_, fun ⟨z1, z2⟩ => ?_⟩⟩
      · obtain ⟨a, b⟩ := h2.mp (by omega)
        refine ⟨List.nodup_cons.mpr ⟨fun hx => b x hx (by simp), a⟩, fun y hy => ?_⟩
        rcases List.mem_cons.mp hy with rfl | hy
        · exact h
        · exact fun q => b y hy (by simp [q])
      · obtain ⟨n1, n2⟩ := List.nodup_cons.mp z1
        have := h2.mpr ⟨n2, fun y hy => by
          simp only [List.mem_append, List.mem_singleton, not_or]
          exact ⟨z2 y (by simp [hy]), fun e => n1 (e ▸ hy)⟩⟩
        omega
theorem distinct_iff (ns : List Int) : distinct ns = ns.length ↔ ns.Nodup := by
  unfold distinct firstMet
  have e : (List.range ns.length).map (fun i => ns.getD i 0) = ns := by
    apply List.ext_getElem
    · simp
    · intro i h1 h2
      simp at h1 h2 ⊢
      simp [List.getD, h2]
  rw [e]
  have := (step_dedup_len [] ns).2
  simpa using this
/-- as many, all within, none twice: the same items -/
theorem perm_of_nodup {α : Type} [DecidableEq α] : ∀ {l m : List α}, l.Nodup → (∀ x ∈ l, x ∈ m) → m.length ≤ l.length → l.Perm m
  | [], m, _, _, h => by
    have : m = [] := List.length_eq_zero_iff.mp (by simpa using h)
    subst this; exact List.Perm.refl _
  | x :: l, m, hn, hs, hl => by
    have hx : x ∈ m := hs x (by simp)
    obtain ⟨h1, h2⟩ := List.nodup_cons.mp hn
    have hp := List.perm_cons_erase hx
    have := perm_of_nodup (l := l) (m := m.erase x) h2 (fun y hy => by
      have := hp.mem_iff.mp (hs y (by simp [hy]))
      rcases List.mem_cons.mp this with e | e
      · subst e; exact absurd hy h1
      · exact e) (by have := hp.length_eq; simp at this hl; omega)
    exact (this.cons x).trans hp.symm
theorem nodup_of_asc {l : List Int} (h : l.Pairwise (· < ·)) : l.Nodup := h.imp fun h e => by omega
end DV

namespace DV
open PySem L2 PySem.Spec PyProof.Rows HotX L2H

/-! ### iterators that end while an exception is handled -/
section
variable {prog : Program} {w : World} {A : Around} {E : Value → Shared → Prop} {s : Shared}
theorem hot_keeps {x1 : Addr} {h h' : Heap} (a : HotAt A x1 h) (k : ∀ o, h.get? x1 = some o → h'.get? x1 = some o) : HotAt A x1 h' := by
  obtain ⟨hh, o, vs, e, d, c⟩ := a
  exact ⟨hh, o, vs, k _ e, d, c⟩
theorem hot_lt {x1 : Addr} {h : Heap} (a : HotAt A x1 h) : x1 < h.objs.size := by
  obtain ⟨hh, o, vs, e, d, c⟩ := a
  exact Heap.lt_size e
theorem hot_list_end {it l x1 : Addr} {i : Nat} {items : Array Value} {Q : Option Value → Shared → Prop} (hot : HotAt A x1 s.heap) (hne : x1 ≠ it) (st : s.heap.IsListIter it l i) (hl : s.heap.IsList l items) (hx : items[i]? = none)
    (hQ : ∀ h', Heap.ExtBut it s.heap h' → Q none { s with heap := h' }) : wpAny (model prog w) A (pyNext (.ref it)) Q E s := by
  obtain ⟨oi, hoi, ci, di⟩ := id st
  obtain ⟨ol, hol, _, nl, hdl⟩ := hl
  unfold pyNext
  refine wpAny_bind (wpAny_attempt (wpAny_callSpecial?_slot (name := Str.ofString "__next__") st.typeIs slot_listiter_next (wpAny_call_entry slot_listiter_next st.typeIs entry_listiter_next ?_ (args_listiter_next _))))
  show wpAny _ _ (field (.ref it) 0 >>= _) _ _ s
  refine wpAny_bind (wpAny_field hoi di (x := .ref l) rfl ?_)
  show wpAny _ _ (if (Value.ref l == Value.none) = true then _ else _) _ _ s
  rw [if_neg (show ¬ ((Value.ref l == Value.none) = true) from Bool.false_ne_true)]
  show wpAny _ _ (field (.ref it) 1 >>= _) _ _ s
  refine wpAny_bind (wpAny_field hoi di (x := .int i 0) rfl ?_)
  show wpAny _ _ (seqItems? (.ref l) >>= _) _ _ s
  refine wpAny_bind (wpAny_seqItems hol hdl ?_)
  simp only [Int.toNat_natCast, hx]
  refine wpAny_bind (wpAny_rule (wpAny_bind (wpAny_setField hoi di (by simp) ?_)))
  show wpAny _ _ (newExc (.type "StopIteration") [] >>= _) _ _ _
  refine wpAny_bind ?_; simp only [newExc, newTuple]
  refine wpAny_bind (wpAny_newObj_type ?_ (by size_fits))
  refine wpAny_bind (m := firstArgMember _ _) (wpAny_of_eq (a := Value.none) (by first | rfl | (simp only [firstArgMember]; rfl)) (wpAny_newObj_type ?_ (by size_fits)))
  obtain ⟨hh, o1, vs1, e1, d1, c1⟩ := hot_keeps hot (h' := s.heap.update it (Obj.mapFields (·.setIfInBounds 0 Value.none))) fun o e => (Heap.get?_update_other _ _ (Ne.symm hne)).trans e
  have up := Heap.get?_push_of_some { cls := .type "StopIteration", data := .fields (#[.ref (s.heap.update it (Obj.mapFields (·.setIfInBounds 0 Value.none))).objs.size, .none, .none, .none, .bool false, .none] ++ ownMembersOf (.type "StopIteration") []) } (Heap.get?_push_of_some { cls := .type "tuple", data := .seq #[] } e1)
  refine raiseNew_hot ⟨hh, o1, vs1, up, d1, c1⟩ (Nat.ne_of_lt (Heap.lt_size (Heap.get?_push_of_some _ e1))) (Heap.get?_push_size _ rfl) rfl (by first | (simp; done) | (simp; omega) | (simp only [Array.size_append]; simp; omega)) ?_
  refine wpAny_bind (wpAny_isInstance (T := "StopIteration") (b := true) ⟨_, Heap.get?_update_self _ (Heap.get?_push_size _ rfl) rfl, rfl⟩ isSubtype_stop ?_)
  refine wpAny_pure (hQ _ fun b o hb e => ?_)
  have e2 := (Heap.get?_update_other _ (Obj.mapFields (·.setIfInBounds 0 Value.none)) (Ne.symm hb)).trans e
  exact (Heap.get?_update_other _ _ (Nat.ne_of_gt (Heap.lt_size (Heap.get?_push_of_some _ e2)))).trans (Heap.get?_push_of_some _ (Heap.get?_push_of_some _ e2))
theorem hot_tuple_end {it l x1 : Addr} {i : Nat} {items : Array Value} {Q : Option Value → Shared → Prop} (hot : HotAt A x1 s.heap) (hne : x1 ≠ it) (st : IsTupIter s.heap it l i) (hl : IsTup s.heap l items) (hx : items[i]? = none)
    (hQ : ∀ h', Heap.ExtBut it s.heap h' → Q none { s with heap := h' }) : wpAny (model prog w) A (pyNext (.ref it)) Q E s := by
  obtain ⟨oi, hoi, ci, di⟩ := id st
  obtain ⟨ol, hol, _, nl, hdl⟩ := hl
  unfold pyNext
  refine wpAny_bind (wpAny_attempt (wpAny_callSpecial?_slot (name := Str.ofString "__next__") st.typeIs slot_tupleiter_next (wpAny_call_entry slot_tupleiter_next st.typeIs entry_tupleiter_next ?_ (args_tupleiter_next _))))
  show wpAny _ _ (field (.ref it) 0 >>= _) _ _ s
  refine wpAny_bind (wpAny_field hoi di (x := .ref l) rfl ?_)
  show wpAny _ _ (if (Value.ref l == Value.none) = true then _ else _) _ _ s
  rw [if_neg (show ¬ ((Value.ref l == Value.none) = true) from Bool.false_ne_true)]
  show wpAny _ _ (field (.ref it) 1 >>= _) _ _ s
  refine wpAny_bind (wpAny_field hoi di (x := .int i 0) rfl ?_)
  show wpAny _ _ (seqItems? (.ref l) >>= _) _ _ s
  refine wpAny_bind (wpAny_seqItems hol hdl ?_)
  simp only [Int.toNat_natCast, hx]
  refine wpAny_bind (wpAny_rule (wpAny_bind (wpAny_setField hoi di (by simp) ?_)))
  show wpAny _ _ (newExc (.type "StopIteration") [] >>= _) _ _ _
  refine wpAny_bind ?_; simp only [newExc, newTuple]
  refine wpAny_bind (wpAny_newObj_type ?_ (by size_fits))
  refine wpAny_bind (m := firstArgMember _ _) (wpAny_of_eq (a := Value.none) (by first | rfl | (simp only [firstArgMember]; rfl)) (wpAny_newObj_type ?_ (by size_fits)))
  obtain ⟨hh, o1, vs1, e1, d1, c1⟩ := hot_keeps hot (h' := s.heap.update it (Obj.mapFields (·.setIfInBounds 0 Value.none))) fun o e => (Heap.get?_update_other _ _ (Ne.symm hne)).trans e
  have up := Heap.get?_push_of_some { cls := .type "StopIteration", data := .fields (#[.ref (s.heap.update it (Obj.mapFields (·.setIfInBounds 0 Value.none))).objs.size, .none, .none, .none, .bool false, .none] ++ ownMembersOf (.type "StopIteration") []) } (Heap.get?_push_of_some { cls := .type "tuple", data := .seq #[] } e1)
  refine raiseNew_hot ⟨hh, o1, vs1, up, d1, c1⟩ (Nat.ne_of_lt (Heap.lt_size (Heap.get?_push_of_some _ e1))) (Heap.get?_push_size _ rfl) rfl (by first | (simp; done) | (simp; omega) | (simp only [Array.size_append]; simp; omega)) ?_
  refine wpAny_bind (wpAny_isInstance (T := "StopIteration") (b := true) ⟨_, Heap.get?_update_self _ (Heap.get?_push_size _ rfl) rfl, rfl⟩ isSubtype_stop ?_)
  refine wpAny_pure (hQ _ fun b o hb e => ?_)
  have e2 := (Heap.get?_update_other _ (Obj.mapFields (·.setIfInBounds 0 Value.none)) (Ne.symm hb)).trans e
  exact (Heap.get?_update_other _ _ (Nat.ne_of_gt (Heap.lt_size (Heap.get?_push_of_some _ e2)))).trans (Heap.get?_push_of_some _ (Heap.get?_push_of_some _ e2))
theorem hot_unpackItems {t x1 : Addr} {items : Array Value} {Q : List Value → Shared → Prop} (hot : HotAt A x1 s.heap) (ht : IsTup s.heap t items)
    (hQ : ∀ h', Heap.ExtBut s.heap.objs.size s.heap h' → Q items.toList { s with heap := h' }) : wpAny (model prog w) A (unpackItems (.ref t) items.size none) Q E s := by
  have nt : t ≠ s.heap.objs.size := by
    obtain ⟨o, ho, _⟩ := ht
    exact Nat.ne_of_lt (Heap.lt_size ho)
  have nx1 : x1 ≠ s.heap.objs.size := Nat.ne_of_lt (hot_lt hot)
  unfold unpackItems notIterableAtAll
  refine wpAny_bind (wpAny_bind (wpAny_specialOf ht.typeIs slot_tuple_iter.lookup (wpAny_pure ?_)))
  simp only [Bool.false_eq_true, if_false]
  refine wpAny_bind (wpAny_holding (iter_tuple ht (wpAny_bind (wpAny_holding (draw_tuple nt items.size 0 _ _ ⟨_, Heap.get?_push_size _ rfl, rfl, rfl⟩ (ht.push _) (by omega) fun h1 it1 sb1 => ?_)))))
  rw [show List.take items.size (List.drop 0 items.toList) = items.toList by rw [List.drop_zero]; exact List.take_of_length_le (by simp), if_neg (by simp)]
  refine wpAny_bind (wpAny_holding (hot_tuple_end (x1 := x1) (hot_keeps hot fun o e => ?_) nx1 it1 ((ht.push _).extBut sb1.extBut nt) (by simp) fun h2 eb2 => ?_))
  · exact (sb1.2 x1 nx1).trans (Heap.get?_push_of_some _ e)
  · simp only [Option.isSome_none, Bool.false_eq_true, if_false]
    exact wpAny_pure (hQ h2 fun b o hb e => eb2 b o hb (sb1.extBut b o hb (Heap.get?_push_of_some _ e)))
theorem hot_assign_tuple {env : PySem.Env} {elts : List Expr} {k : Nat} {pos : Pos} {t x1 : Addr} {items : Array Value} {Q : Unit → Shared → Prop} (hot : HotAt A x1 s.heap) (ht : IsTup s.heap t items)
    (hn : (assignEach elts env).length = items.size) (hstar : (assignEach elts env).findIdx? (·.1) = none)
    (h : ∀ h', Heap.ExtBut s.heap.objs.size s.heap h' → wpAny (model prog w) A (assignInOrder ((assignEach elts env).map (·.2)) items.toList) Q E { s with heap := h' }) :
    wpAny (model prog w) A (assign (.Tuple elts k pos) env (.ref t)) Q E s := by
  rw [assign_Tuple]
  refine wpAny_bind (wpAny_standAt ?_)
  unfold unpack
  rw [hn, hstar]
  exact wpAny_bind (wpAny_holding (hot_unpackItems hot ht h))
end

/-! ### rules that lean on a pinned exception -/
theorem hot1_at {X : Cx} {q : Addr × Obj} {pins : List (Addr × Obj)} {σ : L2.St} {H : Hp} {s : Shared} (hot : Hot1 X.A q) (hq : q ∈ X.pn ++ pins) (I : Inv X pins σ H s) : HotAt X.A q.1 s.heap := by
  obtain ⟨hh, vs, d, c⟩ := hot
  exact ⟨hh, q.2, vs, (I.pin q hq).1, d, c⟩
def PGq (X : Cx) (q : Addr × Obj) (tg : Expr) (t : TG) : Prop := ∀ (pins : List (Addr × Obj)) (s : Shared) (σ : L2.St) (H : Hp) (v : V) (u : Value) (Q : L2.St → Hp → Prop), q ∈ X.pn ++ pins → Inv X pins σ H s → RelV v u → t v σ H Q →
    wpAny (model X.prog X.w) X.A (assign tg X.env u) (fun _ s' => ∃ σ' H', Inv X pins σ' H' s' ∧ Q σ' H') X.xe s
theorem PG.q {X : Cx} {q : Addr × Obj} {tg : Expr} {t : TG} (h : PG X tg t) : PGq X q tg t := fun pins s σ H v u Q _ I r w => h.run pins s σ H v u Q I r w
theorem pgq_tup {X : Cx} {q : Addr × Obj} {es : List Expr} {k : Nat} {t : TGs} {n : Nat} {pos : Pos} (hot : Hot1 X.A q) (h : PGs X es t) (hn : (assignEach es X.env).length = n := by rfl) (hst : (assignEach es X.env).findIdx? (·.1) = none := by rfl) :
    PGq X q (.Tuple es k pos) (gTup X.K n t) := fun pins s σ H v u Q hq I r hw => by
  obtain ⟨a, xs, rfl, hT, hl, hw⟩ := hw
  cases r
  obtain ⟨its, rv, ht, hz⟩ := I.tuple hT
  refine hot_assign_tuple (hot1_at hot hq I) ht (by simp [hn, ← hl, rv.length]) hst fun h' hx => ?_
  have J : Inv X pins σ H { s with heap := h' } := I.kept (t' := s.toks) fun b o e => hx b o (Nat.ne_of_lt (Heap.lt_size e)) e
  exact h.run pins _ σ H xs its Q J (by simpa using rv) hw
/-- an iterator's turns there -/
structure TurnQ (P : Program) (w : World) (K : PySem.W.Frag) (q : Addr × Obj) (tg : Expr) (J : It) (it : Addr) (tn : Nat → Heap → Prop) : Prop where
  obj : ∀ i h, tn i h → ∃ o, h.get? it = some o ∧ ∀ v, o.data ≠ .cell v
  keep : ∀ i h h', tn i h → (∀ o, h.get? it = some o → h'.get? it = some o) → tn i h'
  item : ∀ (X : Cx), X.prog = P → X.w = w → X.K = K → ∀ (i : Nat) (pins : List (Addr × Obj)) (s : Shared) (σ : L2.St) (H : Hp) (E : Value → Shared → Prop), Inv X pins σ H s → FpOk X pins H it → tn i s.heap → J.go i H →
    wpAny (model P w) X.A (pyNext (.ref it)) (fun r s1 => ∃ u, r = some u ∧ wpAny (model P w) X.A (letOwnedTupleGo tg (.ref it) u) (fun _ s2 => ∃ x H', Inv X pins σ H' s2 ∧ RelV x u ∧ J.yld i H x H' ∧ tn (i + 1) s2.heap ∧ H' it = none) E s1) E s
  done : ∀ (X : Cx), X.prog = P → X.w = w → X.K = K → Hot1 X.A q → ∀ (i : Nat) (pins : List (Addr × Obj)) (s : Shared) (σ : L2.St) (H : Hp) (E : Value → Shared → Prop), q ∈ X.pn ++ pins → Inv X pins σ H s → FpOk X pins H it → tn i s.heap → J.stop i H →
    wpAny (model P w) X.A (pyNext (.ref it)) (fun r s1 => r = none ∧ Inv X pins σ H s1) E s
  self : ∀ (A : Around) (i : Nat) (s : Shared) (Q : Value → Shared → Prop) (E : Value → Shared → Prop), tn i s.heap → Q (.ref it) s → wpAny (model P w) A (pyIter (.ref it)) Q E s
theorem turnq_list {P : Program} {w : World} {K : PySem.W.Frag} {q : Addr × Obj} {tg : Expr} (a it : Addr) : TurnQ P w K q tg (Itl K a) it (fun i h => h.IsListIter it a i) where
  obj := fun i h st => by
    obtain ⟨o, e, c, d⟩ := st
    exact ⟨o, e, fun v z => by rw [d] at z; cases z⟩
  keep := fun i h h' st k => st.at k
  item := by
    rintro X rfl rfl rfl i pins s σ H E I ⟨f0, f1, f2, f3, f4, f5⟩ st ⟨xs, x, hq, hx⟩
    obtain ⟨its, rv, p, hz⟩ := I.list hq
    obtain ⟨u, hu, ru⟩ := rv.get hx
    refine wpAny_pyNext_list_item st p.isList (x := u) (by simpa using hu) fun h' st2 sb => ⟨u, rfl, ?_⟩
    have J : Inv X pins σ H { s with heap := h' } := I.turned (t' := s.toks) (fun b o hb e => (sb.2 b hb).trans e) f0 f1 f3 f4 f5
    obtain ⟨o, e, c, d⟩ := id st2
    exact go_of (s := { s with heap := h' }) e c d (by decide) ⟨x, H, J, ru, ⟨rfl, fun ys hy => by rw [I.list_inj hy hq]; exact hx⟩, st2, f0⟩
  done := by
    rintro X rfl rfl rfl hot i pins s σ H E hq I ⟨f0, f1, f2, f3, f4, f5⟩ st ⟨xs, hl, hx⟩
    obtain ⟨its, rv, p, hz⟩ := I.list hl
    have hlen := rv.length
    exact hot_list_end (hot1_at hot hq I) (f5 q hq) st p.isList (by simp; omega) fun h' eb => ⟨rfl, I.turned (t' := s.toks) (fun b o hb e => eb b o hb e) f0 f1 f3 f4 f5⟩
  self := fun _ _ _ _ _ st h => wpAny_pyIter_listiter st h
structure PIq (X : Cx) (q : Addr × Obj) (tg iter : Expr) (wi : TI) : Prop where
  run : ∀ (pins : List (Addr × Obj)) (s : Shared) (σ : L2.St) (H : Hp) (R : It → Hp → Prop), Inv X pins σ H s → wi σ H R →
    wpAny (model X.prog X.w) X.A (eval iter X.env) (fun v s1 => wpAny (model X.prog X.w) X.A (pyIter v) (fun itv s2 => ∃ (it : Addr) (tn : Nat → Heap → Prop) (J : It) (H' : Hp), itv = .ref it ∧ Inv X pins σ H' s2 ∧ TurnQ X.prog X.w X.K q tg J it tn ∧ tn 0 s2.heap ∧ FpOk X pins H' it ∧ R J H') X.xe s1) X.xe s
theorem PIq.imp {X : Cx} {q : Addr × Obj} {tg e : Expr} {t t' : TI} (h : PIq X q tg e t) (i : ∀ σ H Q, t' σ H Q → t σ H Q) : PIq X q tg e t' :=
  ⟨fun pins s σ H Q I z => h.run pins s σ H Q I (i σ H Q z)⟩
theorem piq_list {X : Cx} {q : Addr × Obj} {tg l : Expr} {tl : TE} (hl : PE X l tl) : PIq X q tg l (iList X.K tl) := by
  refine ⟨fun pins s σ H R I h => thn (hl.run pins s σ H _ I h) fun v s1 ⟨x, H1, I1, r1, a, ea, ⟨xs, hq⟩, z⟩ => ?_⟩
  subst ea
  cases r1
  obtain ⟨its, rv, p, hz⟩ := I1.list hq
  refine wpAny_pyIter_list p.isList ⟨s1.heap.objs.size, _, _, H1, rfl, I1.kept (t' := s1.toks) fun b o e => Heap.get?_push_of_some _ e, turnq_list a _, ⟨_, Heap.get?_push_size _ rfl, rfl, rfl⟩, ?_, z⟩
  exact I1.fpOk (Nat.le_refl _) (I1.hok.fresh (Nat.le_refl _))
/-- [elt for tg in iter if ..] while the exception q is handled -/
theorem pe_lcQ {X : Cx} {q : Addr × Obj} {elt tg iter : Expr} {ifs : List Expr} {scope : Scope} {own : List (Str × Nat)} {pos : Pos} {wi : TI} {g : TG} {tt : TT} {te : TE} (hot : Hot1 X.A q) (hqX : q ∈ X.pn) (hN : X.N.Nodup) (hi : PIq X q tg iter wi) (ok : BlkOk X.N X.env.scope scope own)
    (hg : ∀ (s : Shared) (H : Hp) (C : Addr) (cl : List (Str × Addr)) (fp : List Addr), PGq (X.blk s H scope (compEnvC scope cl C X.env) fp) q tg g) (ht : ∀ (s : Shared) (H : Hp) (C : Addr) (cl : List (Str × Addr)) (fp : List Addr), PTs (X.blk s H scope (compEnvC scope cl C X.env) fp) ifs tt)
    (he : ∀ (s : Shared) (H : Hp) (C : Addr) (cl : List (Str × Addr)) (fp : List Addr), PE (X.blk s H scope (compEnvC scope cl C X.env) fp) elt te) (hs : ∀ x, foldedSetIterable iter X.env x = pure x := by intro _; rfl) :
    PE X (.ListComp elt [⟨tg, iter, ifs, 0⟩] scope pos) (tLc wi g tt te (own.map (·.2))) := by
  refine ⟨fun pins s σ H Q I h => ?_⟩
  rw [eval_ListComp]
  have hcells : ∀ y ∈ scope.names, y.2 = .free → ∃ c, X.env.cells.lookup y.1 = some c := fun y hy e => (ok.free y hy e).elim (fun k => I.ok.has _ (.inl k)) fun k => I.ok.has _ (.inr k)
  refine wpAny_comprehension_free (use := none) rfl hs (closure_ok hcells) ok.kind (fun y hy e => by rw [ok.uniq y hy, e]) (thn (hi.run pins s σ H _ I h) fun xv s1 z1 => thn z1 fun itv s2 z2 => ?_)
  obtain ⟨it, tn, J, H2, rfl, I2, T, st2, f2, ask⟩ := z2
  refine wpAny_newObj_type (newEnv_comp ?_) (by show 0 ≤ sizeLine; decide)
  generalize hD : s2.heap.objs.size = D
  have nD : H2 D = none := I2.hok.fresh (Nat.le_of_eq hD)
  obtain ⟨W, ⟨m0, w0⟩, turn⟩ := ask D nD
  -- the list that is filled
  generalize e3 : ({ s2 with heap := s2.heap.push { cls := .type "list", data := .seq ([] : List Value).toArray } } : Shared) = s3
  have h3 : s3.heap = s2.heap.push { cls := .type "list", data := .seq ([] : List Value).toArray } := by rw [← e3]
  generalize eH3 : upd H2 D (.lst []) = H3
  have I3 : Inv X pins σ H3 s3 := by
    rw [← e3, ← eH3]
    refine I2.laid (t' := s2.toks) (fun b o e => Heap.get?_push_of_some _ e) (Nat.le_of_eq hD) ⟨Nat.zero_le _, [], 0, .nil, ?_⟩
    rw [← hD]; exact Heap.get?_push_size _ rfl
  obtain ⟨oit, eit, _⟩ := T.obj _ _ st2
  have ltit : it < s2.heap.objs.size := Heap.lt_size eit
  have f3 : FpOk X pins H3 it := ⟨by rw [← eH3, upd_ne (by rw [← hD]; exact Nat.ne_of_lt ltit)]; exact f2.1, f2.2⟩
  have lt3 : it < s3.heap.objs.size := by rw [h3, Heap.size_push]; exact Nat.lt_succ_of_lt ltit
  have st3 : tn 0 s3.heap := T.keep _ _ _ st2 fun o e => by rw [h3]; exact Heap.get?_push_of_some _ e
  have I4 := block_start (fp := [it]) I3 ok hN fun b hb => by
    obtain rfl : b = it := by simpa using hb
    exact ⟨f3, lt3⟩
  have P3 := I3.pin q (List.mem_append_left _ hqX)
  have pg := hg s3 H3 s3.heap.objs.size (cellsFrom (s3.heap.objs.size + 1) scope.names (cloFrom X.env.cells scope.names [])) [it]
  have pt := ht s3 H3 s3.heap.objs.size (cellsFrom (s3.heap.objs.size + 1) scope.names (cloFrom X.env.cells scope.names [])) [it]
  have pe := he s3 H3 s3.heap.objs.size (cellsFrom (s3.heap.objs.size + 1) scope.names (cloFrom X.env.cells scope.names [])) [it]
  have w0 : W 0 m0 H3 := eH3 ▸ w0
  show codeAny _ _ (.compStart (.ListComp elt [⟨tg, iter, ifs, 0⟩] scope pos) 0 (.ref it) (.ref D) (compEnvC scope (cellsFrom (s3.heap.objs.size + 1) scope.names (cloFrom X.env.cells scope.names [])) s3.heap.objs.size X.env)) _ { s3 with heap := pushCells (s3.heap.push { cls := .type "dict", data := .dict #[] }) scope.names }
  generalize hce : compEnvC scope (cellsFrom (s3.heap.objs.size + 1) scope.names (cloFrom X.env.cells scope.names [])) s3.heap.objs.size X.env = ce at I4 pg pt pe ⊢
  have cL : ce.locals = s3.heap.objs.size := by subst hce; rfl
  have up4 : ∀ b o, s3.heap.get? b = some o → (pushCells (s3.heap.push { cls := .type "dict", data := .dict #[] }) scope.names).get? b = some o := fun b o e => pushCells_keeps _ _ _ _ (Heap.get?_push_of_some _ e)
  generalize e4 : ({ s3 with heap := pushCells (s3.heap.push { cls := .type "dict", data := .dict #[] }) scope.names } : Shared) = s4 at I4 ⊢
  have up4' : ∀ b o, s3.heap.get? b = some o → s4.heap.get? b = some o := by rw [← e4]; exact up4
  have st4 : tn 0 s4.heap := T.keep _ _ _ st3 fun o e => up4' _ o e
  have nL : q.1 ≠ (X.blk s3 H3 scope ce [it]).env.locals := by
    show q.1 ≠ ce.locals
    rw [cL]; exact Nat.ne_of_lt (Heap.lt_size P3.1)
  have nF : q.1 ∉ (X.blk s3 H3 scope ce [it]).fs := fun hm => (List.mem_cons.mp (I3.stkSub q.1 hm)).elim P3.2.2.1 P3.2.2.2.1
  have I4q : Inv (X.blk s3 H3 scope ce [it]) [q] (wipe σ (own.map (·.2))) H3 s4 := I4.pins_of fun p hp => by
    obtain rfl : p = q := by simpa using hp
    exact ⟨up4' _ _ P3.1, P3.2.1, nL, nF, P3.2.2.2.2⟩
  have nqit : q.1 ≠ it := f3.2.2.2.2.2 q (List.mem_append_left _ hqX)
  have mq : ∀ {l : List (Addr × Obj)}, q ∈ (X.blk s3 H3 scope ce [it]).pn ++ ([q] ++ l) := fun {l} => by simp
  have mq0 : q ∈ (X.blk s3 H3 scope ce [it]).pn ++ [q] := by simp
  have stat : ∀ {σ' : L2.St} {H' : Hp} {s' : Shared}, Inv (X.blk s3 H3 scope ce [it]) [q] σ' H' s' → H' it = none → FpOk (X.blk s3 H3 scope ce [it]) [q] H' it := fun {σ' H' s'} I' hn =>
    ⟨hn, (I'.ok.exf it (by simp)).1, I'.ok.exfs it (by simp), .inl (by simp), fun x c e => (I'.ok.exf it (by simp)).2 x c e, fun p hp => by
      obtain rfl : p = q := by simpa using hp
      exact nqit⟩
  have loop : codeAny (model X.prog X.w) X.A (.compLoop (.ListComp elt [⟨tg, iter, ifs, 0⟩] scope pos) 0 (.ref it) (.ref D) ce) (compPost (model X.prog X.w) X.A X.xe none (EP X pins σ Q) (.ref D) s3.heap.objs.size) s4 := by
    refine compLoop_any (fun n s' => ∃ i H', Inv (X.blk s3 H3 scope ce [it]) [q] (wipe σ (own.map (·.2))) H' s' ∧ tn i s'.heap ∧ H' it = none ∧ W i n H') ?_ m0 ⟨0, H3, I4q, st4, f3.1, w0⟩
    rintro n s5 ⟨i, H5, I5, st5, n5, w5⟩
    rcases turn i n H5 w5 with ⟨stop, fin⟩ | ⟨go, Nx, hNx, step⟩
    · refine thnF (T.done (X.blk s3 H3 scope ce [it]) rfl rfl rfl hot i [q] s5 _ H5 (fun _ _ => False) mq0 I5 (stat I5 n5) st5 stop) fun r s6 ⟨hr, I6⟩ => ?_
      subst hr
      have I7 : Inv X pins σ H5 s6 := I3.call' (ch := [it]) I6.os I6.base I6.hok I6.bare fun b hb => by
        obtain rfl : b = it := by simpa using hb
        exact ⟨f3.2.2.2.1, f3.2.1, f3.2.2.2.2.1, f3.2.2.2.2.2⟩
      have nC : H5 s3.heap.objs.size = none := cL ▸ (show H5 ce.locals = none from I6.free)
      obtain ⟨m, hn, _⟩ := I6.loc
      have hn : s6.heap.Ns s3.heap.objs.size m := cL ▸ (show s6.heap.Ns ce.locals m from hn)
      obtain ⟨g0, g1, g2, g3, g4, g5⟩ := I3.fpOk (Nat.le_refl _) nC
      exact ⟨m, hn, fun h'' sb => ⟨.ref D, H5, I7.turned (t' := s6.toks) (fun b o hb e => (sb.2 b hb).trans e) g0 g1 g3 g4 g5, rfl, fin⟩⟩
    · refine thnF (T.item (X.blk s3 H3 scope ce [it]) rfl rfl rfl i [q] s5 _ H5 (fun _ _ => False) I5 (stat I5 n5) st5 go) fun r s6 ⟨u, hr, z6⟩ => ?_
      subst hr
      refine thnF z6 fun _ s7 ⟨x, H7, I7, r7, y7, st7, n7⟩ => ?_
      have I7' := I7.pinned (fp := [it]) (fun b hb => by
        obtain rfl : b = it := by simpa using hb
        exact stat I7 n7) fun b hb => by
        obtain rfl : b = it := by simpa using hb
        exact T.obj _ _ st7
      refine thnF (pg _ s7 _ H7 x u _ mq I7' r7 (step x H7 y7)) fun _ s8 ⟨σ8, H8, I8, hw8, q8⟩ => ?_
      refine thnF (pt.run _ s8 σ8 H8 _ I8 q8) fun b s9 ⟨H9, I9, q9⟩ => ?_
      have again : ∀ {s' : Shared} {H' : Hp}, Inv (X.blk s3 H3 scope ce [it]) ([q] ++ pinsAt [it] s7.heap) σ8 H' s' → Nx H' → ∃ m, m < n ∧ ∃ i H', Inv (X.blk s3 H3 scope ce [it]) [q] (wipe σ (own.map (·.2))) H' s' ∧ tn i s'.heap ∧ H' it = none ∧ W i m H' := fun {s' H'} I' nx => by
        obtain ⟨m', hm, w'⟩ := hNx H' nx
        have pin' : ∀ o, s7.heap.get? it = some o → s'.heap.get? it = some o ∧ H' it = none := fun o e =>
          let z := I'.pin (it, o) (List.mem_append_right _ (List.mem_append_right _ (mem_pinsAt (by simp) e)))
          ⟨z.1, z.2.1⟩
        have hl : (wipe σ (own.map (·.2))).length = σ8.length := by rw [← hw8, wipe_length]
        obtain ⟨o, e, _⟩ := T.obj _ _ st7
        exact ⟨m', hm, i + 1, H', (I'.unpinned (pins := [q])).weak hl (fun j v e => (wipe_some (hw8 ▸ e)).1), T.keep _ _ _ st7 fun o e => (pin' o e).1, (pin' o e).2, w'⟩
      cases b with
      | false =>
        simp only [Bool.false_eq_true, if_false] at q9 ⊢
        exact again I9 q9
      | true =>
        simp only [if_true] at q9 ⊢
        refine thnF (pe.run _ s9 σ8 H9 _ I9 q9) fun z s10 ⟨yv, H10, I10, r10, acc, hD10, hz10, nx⟩ => ?_
        exact app_ok (X := X.blk s3 H3 scope ce [it]) I10 hD10 hz10 r10 fun s11 I11 => again I11 nx
  exact codeAny_compStart_list loop (T.self X.A 0 _ _ _ st4 loop)
end DV

namespace DV
open PySem L2 PySem.Spec PyProof.Rows HotX L2H

/-! ### a def that is handed the exception that is handled -/
def DIq (X : Cx) (q : Addr × Obj) (W : WX) (m : Bool) (tg e : Expr) (f : Env → R (List D)) : Prop := PIq X q tg e (tI X.K X.mg W m f)
def DGq (X : Cx) (q : Addr × Obj) (tg : Expr) (ts : List Nat) (g : D → Env → R Env) : Prop := PGq X q tg (tG X.K ts g)
section
variable {X : Cx} {q : Addr × Obj} {W : WX} {m : Bool} {tg a el iter : Expr} {f : Env → R D} {pos : Pos}
theorem diq_list (h : DE X W m a f) : DIq X q W m tg a (iLst f) := PIq.imp (piq_list h) fun σ H R ⟨env, O, rs, z⟩ => by
  refine ⟨env, O, rs, ?_⟩
  unfold iLst at z
  cases e : f env with
  | exc c n => rw [e] at z; exact z
  | no => rw [e] at z; exact z
  | ok x =>
    rw [e] at z
    intro v H1 s1 r1
    have z1 := FinI.same s1 z
    rw [DV.R.bind_ok] at z1
    cases x with
    | lst xs =>
      obtain ⟨p, vs, rfl, h1, h2⟩ := repLst r1
      exact ⟨p, rfl, ⟨vs, .of h1⟩, z1 _ _ H1 (Same.refl _) (fun y hy => by rw [List.mem_singleton.mp hy]; exact r1) iter_list⟩
    | _ => exact z1.elim
theorem dgq_tup {es : List Expr} {k n : Nat} {ts : List Nat} {h : List D → Env → R Env} (hot : Hot1 X.A q) (hg : DGs X es ts h) (hn : (assignEach es X.env).length = n := by rfl) (hst : (assignEach es X.env).findIdx? (·.1) = none := by rfl) : DGq X q (.Tuple es k pos) ts (gTupD n h) :=
  fun pins s σ H v u Q hq I r ⟨env, O, d, rs, rd, z⟩ => pgq_tup hot hg hn hst pins s σ H v u Q hq I r (by
    cases d with
    | tup xs =>
      simp only [RepD] at rd
      obtain ⟨b, vs, e, hT, r1⟩ := rd
      simp only [gTupD] at z
      by_cases hl : xs.length = n
      · rw [if_pos hl] at z
        exact ⟨b, vs, e, hT, r1.length.symm.trans hl, env, O, xs, rs, r1, z⟩
      · rw [if_neg hl] at z; exact z.elim
    | _ => exact z.elim)
theorem dn_lcQ {ifs : List Expr} {scope : Scope} {own : List (Str × Nat)} {it : Env → R (List D)} {g : D → Env → R Env} {t : Env → R Bool} {elt : Env → R D} {ts : List Nat} (hot : Hot1 X.A q) (hqX : q ∈ X.pn) (hN : X.N.Nodup) (hi : DIq X q W m tg iter it) (ok : BlkOk X.N X.env.scope scope own)
    (hg : ∀ (s : Shared) (H : Hp) (C : Addr) (cl : List (Str × Addr)) (fp : List Addr), DGq (X.blk s H scope (compEnvC scope cl C X.env) fp) q tg ts g)
    (ht : ∀ (s : Shared) (H : Hp) (C : Addr) (cl : List (Str × Addr)) (fp : List Addr), DTs (X.blk s H scope (compEnvC scope cl C X.env) fp) W0 ifs t)
    (he : ∀ (s : Shared) (H : Hp) (C : Addr) (cl : List (Str × Addr)) (fp : List Addr), DE (X.blk s H scope (compEnvC scope cl C X.env) fp) W0 false el elt) (hto : ∀ j ∈ ts, j ∈ own.map (·.2)) (hs : ∀ x, foldedSetIterable iter X.env x = pure x := by intro _; rfl) {os : List Nat} (hos : own.map (·.2) = os := by rfl) :
    DN X W (.ListComp el [⟨tg, iter, ifs, 0⟩] scope pos) (nLc it g t elt os) := hos ▸
  PE.imp (pe_lcQ (wi := tI X.K X.mg W m it) (g := tG X.K ts g) (tt := tT X.K X.mg W0 t) (te := tD X.K X.mg W0 false elt) hot hqX hN hi ok hg ht he hs) (lc_tN hto)
end

/-! isinstance(e, c), e.at, ' '.join -/
structure XisC (K : PySem.W.Frag) (C : Addr) : Prop where
  cl : (PySem.W.clsIn K C).isSome = true
  ha : PySem.W.findIn K (.ref C) "__class__" = some (some (.builtin "object.__class__"))
  hn : PySem.W.specialIn K (.builtin "object.__class__") "__get__" = some (some (.builtin "getset_descriptor.__get__"))
  ht : PySem.W.takesIn K (.builtin "object.__class__") = some true
  hm : PySem.W.mroIn K C (.type "object") = some true
/-- c's instances where x is asked -/
def IsAt (K : PySem.W.Frag) (mg : Str → Option Value) (c x : Str) (b : Bool) : Prop :=
  ∀ C' C, mg c = some (.ref C') → mg x = some (.ref C) → PySem.W.kitOne K (.ref C') (.ref C) = some b
def IsOk (K : PySem.W.Frag) (mg : Str → Option Value) (x : Str) (l : List (Str × Bool)) : Prop := ∀ c b, catL l c = some b → IsAt K mg c x b
theorem isNil {K : PySem.W.Frag} {mg : Str → Option Value} {x : Str} : IsOk K mg x [] := fun c b e => by cases e
theorem isCons {K : PySem.W.Frag} {mg : Str → Option Value} {x c : Str} {b : Bool} {l : List (Str × Bool)} (h : IsAt K mg c x b) (r : IsOk K mg x l) : IsOk K mg x ((c, b) :: l) := fun c' b' e => by
  unfold catL at e
  simp only [List.lookup] at e
  split at e
  · rename_i he
    cases e
    rw [eq_of_beq he]; exact h
  · exact r c' b' e
/-- what is known of the exception that is handled -/
structure Caught (K : PySem.W.Frag) (mg : Str → Option Value) (c : Str) (C dx : Addr) (oe : Obj) : Prop where
  mc : mg c = some (.ref C)
  xf : XfC K C
  no : PySem.W.findIn K (.ref C) "at" = some none
  xi : XisC K C
  zn : L2N.Zn (.ref C) (some dx) oe
  fl : ∃ vs, oe.data = .fields vs
def isK (a dx : Addr) (ob : Option Bool) : Option (Option SV) → R D
  | some (some (.ex a' dx' _)) => if a' = a ∧ dx' = dx then (match ob with | some b => .ok (.bl b) | none => .no) else .no
  | _ => .no
def eIsE (i : Nat) (a dx : Addr) (ob : Option Bool) : Env → R D := fun s => isK a dx ob s[i]?
@[simp] theorem eIsE_ap (i : Nat) (a dx : Addr) (ob : Option Bool) (s : Env) : eIsE i a dx ob s = isK a dx ob s[i]? := Eq.trans rfl rfl
@[simp] theorem isK_at (a dx : Addr) (b : Bool) (n : Int) : isK a dx (some b) (some (some (.ex a dx n))) = .ok (.bl b) := by simp [isK]
def atK (a dx : Addr) : Option (Option SV) → R D
  | some (some (.ex a' dx' n)) => if a' = a ∧ dx' = dx then .ok (.int n) else .no
  | _ => .no
@[simp] theorem eAt_ap (i : Nat) (a dx : Addr) (s : Env) : eAt i a dx s = atK a dx s[i]? := by unfold eAt atK; rfl
@[simp] theorem atK_at (a dx : Addr) (n : Int) : atK a dx (some (some (.ex a dx n))) = .ok (.int n) := by simp [atK]
section
variable {X : Cx} {W : WX} {m : Bool} {a dx C : Addr} {c : Str} {oe : Obj} {pos p p2 : Pos}
theorem inst_of {pins : List (Addr × Obj)} {σ : L2.St} {H : Hp} {s : Shared} {fs : List (Str × V)} (F : Caught X.K X.mg c C dx oe) (hq : (a, oe) ∈ X.pn) (I : Inv X pins σ H s) (hd : H dx = some (.xd fs)) :
    ∃ od, PySem.W.InstAt s.heap a oe C (some od) ∧ ∀ name v, fs.lookup name = some v → ∃ u, PySem.W.lookIn name od = some (some u) ∧ RelV v u := by
  have P1 := I.pin (a, oe) (List.mem_append_left _ hq)
  obtain ⟨vs, hv⟩ := F.fl
  obtain ⟨mA, hns, hr⟩ := (show ObjOk X.prog X.w H s.heap dx (.xd fs) from I.hok dx _ hd)
  obtain ⟨od, ho, hl⟩ := lookIn_ns hns
  have hz := F.zn
  refine ⟨od, ⟨P1.1, hz.1, by unfold PySem.W.notCls; rw [hv] <;> rfl, by rw [hz.2.1]; exact ho⟩, fun name v l => ?_⟩
  obtain ⟨u, hu, ru⟩ := RelO.some_of (v := v) (o := mA name) (by rw [← l]; exact hr name)
  exact ⟨u, by rw [hl, hu], ru⟩
theorem call_isD (F : Caught X.K X.mg c C dx oe) (hq : (a, oe) ∈ X.pn) : CallR X (.builtin "isinstance") (fun xs H Q => ∃ (C2 : Addr) (b : Bool) (fs : List (Str × V)), xs = [.ref a, .ref C2] ∧ H dx = some (.xd fs) ∧ PySem.W.kitOne X.K (.ref C) (.ref C2) = some b ∧ Q (.bl b) H) := by
  intro pins s σ H xs us Q I r h
  obtain ⟨C2, b, fs, rfl, hd, e, z⟩ := h
  obtain ⟨u1, u2, rfl, r1, r2⟩ := vals2 r
  cases r1
  cases r2
  obtain ⟨od, J, _⟩ := inst_of F hq I hd
  exact PySem.W.kia_one (PySem.W.kitx_exc (od := some od) F.xi.cl F.xf.ga F.xf.gg F.xf.exC F.xi.ha F.xi.hn F.xi.ht F.xi.hm) I.kIn J e (fun y => nomatch y) fun tk => ⟨.bl b, H, I.kept (t' := tk) fun _ _ y => y, rfl, z⟩
theorem de_isE {i : Nat} {x y : Str} {l : List (Str × Bool)} (F : Caught X.K X.mg c C dx oe) (hq : (a, oe) ∈ X.pn) (hm : X.mg "isinstance" = none) (hl : IsOk X.K X.mg y l) (hy : ∃ C2, X.mg y = some (.ref C2)) (hv : PE X (.Name x p) (tVar i)) (hg : Gl X "isinstance" := by rfl) (hgy : Gl X y := by rfl) (hdy : (y == ("__debug__" : Str)) = false := by decide)
    (hst : starEach [.Name x p, .Name y p2] X.env = (false, eval (.Name x p) X.env) :: starEach [.Name y p2] X.env := by rfl) (hst2 : starEach [.Name y p2] X.env = (false, eval (.Name y p2) X.env) :: starEach [] X.env := by rfl) (hpl : (backTo pos (starEach [.Name y p2] X.env)).any (·.1) = false := by rfl) {pn : Pos} :
    DE X W m (.Call (.Name "isinstance" pn) [.Name x p, .Name y p2] [] pos) (eIsE i a dx (catL l c)) := by
  obtain ⟨C2, hC2⟩ := hy
  refine PE.imp (pe_callB (call_isD F hq) hg hm (by decide +kernel) (pa_cons hv (pa_cons (pe_glob (v := .ref C2) hgy hC2 rfl hdy) pa_nil hst2) hst) (by decide) (by decide) hst hpl) fun σ H Q ⟨env, O, rs, z⟩ => ?_
  unfold eIsE at z
  cases e : env[i]? with
  | none => rw [e] at z; exact z.elim
  | some w =>
    rw [e] at z
    cases w with
    | none => exact z.elim
    | some sv =>
      cases sv with
      | ex a' dx' n =>
        simp only [isK] at z
        split at z
        · rename_i h
          obtain ⟨rfl, rfl⟩ := h
          cases eb : catL l c with
          | none => rw [eb] at z; exact z.elim
          | some b =>
            rw [eb] at z
            obtain ⟨v, e1, rfl, hd⟩ := rs.get i _ e
            exact ⟨_, e1, C2, b, _, rfl, hd, hl c b eb C C2 F.mc hC2, z.val (by simp [RepD])⟩
        · exact z.elim
      | _ => exact z.elim
theorem de_atP {i : Nat} {x : Str} (F : Caught X.K X.mg c C dx oe) (hq : (a, oe) ∈ X.pn) (hv : PE X (.Name x p) (tVar i)) (hb : attributeBase (.Name x p) "at" X.env (eval (.Name x p) X.env) = eval (.Name x p) X.env := by rfl) :
    DE X W m (.Attribute (.Name x p) "at" pos) (eAt i a dx) := by
  refine ⟨fun pins s σ H Q I h => ?_⟩
  obtain ⟨env, O, rs, z⟩ := h
  rw [eAt_ap] at z
  cases e : env[i]? with
  | none => rw [e] at z; exact z.elim
  | some w =>
    rw [e] at z
    cases w with
    | none => exact z.elim
    | some sv =>
      cases sv with
      | ex a' dx' n =>
        simp only [atK] at z
        split at z
        · rename_i h
          obtain ⟨rfl, rfl⟩ := h
          obtain ⟨v, e1, rfl, hd⟩ := rs.get i _ e
          refine attr_of hb (thn (hv.run pins s σ H (fun x H1 => x = .ref a' ∧ H1 = H) I ⟨_, e1, rfl, rfl⟩) fun u s1 hh => ?_)
          obtain ⟨x1, H1, I1, rx, rfl, rfl⟩ := hh
          obtain rfl : u = Value.ref a' := rx
          obtain ⟨od, J, hl⟩ := inst_of F hq I1 hd
          obtain ⟨u, hu, ru⟩ := hl "at" (.int n) rfl
          exact PySem.HandSPX.exc_get I1.kIn J F.xf.ga F.xf.gg F.xf.exC (PySem.W.findObj_own F.xf.hdC F.no rfl hu) (handed_of ru) ⟨.int n, H1, I1.tok _, ru, z.val (by simp [RepD])⟩
        · exact z.elim
      | _ => exact z.elim
end
def strs? : List D → Option (List Str)
  | [] => some []
  | .str x :: r => (strs? r).map (x :: ·)
  | _ :: _ => none
theorem strs?_eq : ∀ {ds : List D} {ns : List Str}, strs? ds = some ns → ds = ns.map D.str
  | [], ns, h => by simp only [strs?, Option.some.injEq] at h; subst h; rfl
  | .str i :: r, ns, h => by
    simp only [strs?, Option.map_eq_some_iff] at h
    obtain ⟨l, e, rfl⟩ := h
    rw [strs?_eq e]; rfl
  | .non :: _, _, h | .bl _ :: _, _, h | .int _ :: _, _, h | .lst _ :: _, _, h | .tup _ :: _, _, h | .dct _ :: _, _, h | .scr _ :: _, _, h => by simp [strs?] at h
theorem repStrs {K : PySem.W.Frag} {O : Addr → Prop} {H : Hp} : ∀ {ns : List Str} {vs : List V}, RepDs K O H (ns.map D.str) vs → vs = ns.map V.str
  | [], vs, h => by simpa [RepDs] using h
  | n :: ns, vs, h => by
    simp only [List.map_cons, RepDs, RepD] at h
    obtain ⟨v, r, e, h1, h2⟩ := h
    subst e h1
    rw [repStrs h2]; rfl
def asSt : D → R Str
  | .str a => .ok a
  | _ => .no
def joinK (a : Str) : D → R D
  | .lst xs => match strs? xs with
    | some ys => if (ys.map (·.length)).sum + ys.length * a.length ≤ 1000000 then .ok (.str (Txt.join a ys)) else .no
    | none => .no
  | _ => .no
def eJoin (f g : Env → R D) : Env → R D := fun s => (f s).bind fun x => (asSt x).bind fun a => (g s).bind (joinK a)
@[simp] theorem asSt_str (a : Str) : asSt (.str a) = .ok a := Eq.trans rfl rfl
@[simp] theorem eJoin_ap (f g : Env → R D) (s : Env) : eJoin f g s = (f s).bind fun x => (asSt x).bind fun a => (g s).bind (joinK a) := Eq.trans rfl rfl
theorem de_join {X : Cx} {W : WX} {m : Bool} {o e : Expr} {f g : Env → R D} {apos pos : Pos} (ho : DE X W true o f) (he : DE X W true e g) (hs : starEach [e] X.env = [(false, eval e X.env)] := by rfl) (hbase : attributeBase o "join" X.env (eval o X.env) = eval o X.env := by rfl) (hline : (apos.endLine == pos.line) = true := by rfl) :
    DE X W m (.Call (.Attribute o "join" apos) [e] [] pos) (eJoin f g) := PE.imp (pe_join ho he hs hbase hline) fun σ H Q ⟨env, O, rs, z⟩ => by
  refine fin1 rs z fun x v H1 _ s1 rx rs1 z1 => ?_
  cases x with
  | str sep =>
    rw [repStr] at rx; subst rx
    rw [asSt_str, R.bind_ok] at z1
    refine ⟨⟨_, rfl⟩, fin1 rs1 z1 fun y w H2 _ s2 ry rs2 z2 => ?_⟩
    cases y with
    | lst xs =>
      obtain ⟨b, vs, rfl, h1, h2⟩ := repLst ry
      simp only [joinK] at z2
      split at z2
      · rename_i ys ey
        split at z2
        · rename_i hz
          rw [strs?_eq ey] at h2
          have := repStrs h2
          subst this
          exact ⟨_, _, ys, rfl, rfl, .inl (.of h1), by omega, z2.val (by simp [RepD])⟩
        · exact z2.elim
      · exact z2.elim
    | _ => exact z2.elim
  | _ => exact z1.elim

/-! the call within the suite, the def's body -/
/-- what the def x makes of the exception: nm, by its class's name and its at -/
def NameOk (P : Program) (w : World) (K : PySem.W.Frag) (mg : Str → Option Value) (base : Heap) (k : Nat) (x : Str) (nm : Str → Int → R D) : Prop :=
  ∃ (f : Addr) (fd : FuncData) (y : Str), mg x = some (.ref f) ∧ PySem.W.keepIn K (.ref f) = true ∧ Binds K fd [y] [] ∧
    ∀ (A : Around) (outer : List PySem.Env) (s : Shared) (H : Hp) (args : Args) (a C dx : Addr) (oe : Obj) (c : Str) (n : Int) (d : D) (O : Addr → Prop) (Q : VK) (E : XK), RoomH k A → Hot1 A (a, oe) → PinOk outer H s (a, oe) → Env0 P w K mg base A outer s H → BindsTo s fd args ([y].zip [.ref a]) →
      Caught K mg c C dx oe → H dx = some (.xd [(("at" : Str), .int n)]) → nm c n = .ok d → (∀ b, O b → H b ≠ none) → (∀ v H', Same H H' → RepD K O H' d v → Q v H') → codeAny (model P w) A (.call (.ref f) args) (CR (L2N.CX P w) outer P w H s Q E) s
def tNm (K : PySem.W.Frag) (nm : Str → Int → R D) (i : Nat) (c : Str) (a dx : Addr) : TE := fun σ H Q => ∃ (O : Addr → Prop) (n : Int) (d : D), (∀ b, O b → H b ≠ none) ∧ σ[i]? = some (some (.ref a)) ∧ H dx = some (.xd [(("at" : Str), .int n)]) ∧ nm c n = .ok d ∧ ∀ v H', Same H H' → RepD K O H' d v → Q v H'
theorem pe_nm {X : Cx} {k i : Nat} {x e : Str} {nm : Str → Int → R D} {a C dx : Addr} {c : Str} {oe : Obj} {pn : List (Addr × Obj)} {p p2 pos : Pos} (N : NameOk X.prog X.w X.K X.mg X.base k x nm) (hr : Room k X.A) (F : Caught X.K X.mg c C dx oe) (hv : PE (X.suite a ((a, oe) :: pn)) (.Name e p2) (tVar i)) (hg : Gl X x := by rfl) (hdb : (x == ("__debug__" : Str)) = false := by decide)
    (he : starEach [.Name e p2] X.env = (false, eval (.Name e p2) X.env) :: starEach [] X.env := by rfl) (hpl : (backTo pos (starEach [] X.env)).any (·.1) = false := by rfl) :
    PE (X.suite a ((a, oe) :: pn)) (.Call (.Name x p) [.Name e p2] [] pos) (tNm X.K nm i c a dx) := by
  obtain ⟨f, fd, y, hm, hk, hb, run⟩ := N
  refine ⟨fun pins s σ H Q I h => ?_⟩
  obtain ⟨O, n, d, tr, e1, hd, en, fin⟩ := h
  refine wpAny_Call_Name_kw (ld_glob I (x := x) hg hm (PySem.W.callWith_K (h₀ := X.base) I.ok.mod.kin hk (thn ((pa_cons hv pa_nil he).run pos pins s σ H (fun vs H1 => vs = [.ref a] ∧ H1 = H) I ⟨_, e1, rfl, rfl⟩) fun us s1 z => ?_) he hpl) hdb)
  obtain ⟨vs, H1, I1, r1, rfl, rfl⟩ := z
  refine ⟨I1.kIn, ?_⟩
  obtain ⟨vx, hvx⟩ := F.fl
  have P1 := I1.pin (a, oe) (List.mem_append_left _ List.mem_cons_self)
  have hpin : PinOk X.stack H1 s1 (a, oe) := ⟨P1.1, P1.2.1, fun hmm => (List.mem_cons.mp (I1.stkSub a hmm)).elim P1.2.2.1 P1.2.2.2.1, P1.2.2.2.2⟩
  have hot : Hot1 (X.suite a ((a, oe) :: pn)).A (a, oe) := ⟨rfl, vx, hvx, F.zn.2.2 vx hvx⟩
  obtain rfl : us = [.ref a] := by
    cases r1 with
    | cons ru rn =>
      cases rn
      cases ru
      rfl
  have bd := hb s1 [.ref a] I1.kIn rfl
  rw [List.append_nil] at bd
  show wpAny _ _ (call (.ref f) [.ref a]) _ _ _
  refine wpAny_call (codeAny_mono (run _ X.stack s1 H1 ⟨[.ref a], []⟩ a C dx oe c n d O Q (fun _ _ _ => False) ⟨hr.dp, hr.un⟩ hot hpin I1.env0 bd F hd en tr fin) fun r s' hq => ?_)
  match r, hq with
  | .error er, hq =>
    obtain ⟨_, _, _, _, _, _, _, _, _, _, _, _, z⟩ := hq
    exact z.elim
  | .ok (.ret u), hq => exact I1.after hq
  | .ok .next, hq => exact hq.elim
  | .ok .brk, hq => exact hq.elim
  | .ok .cont, hq => exact hq.elim
/-- return f(e) in the suite -/
def nmK (f : Int → R D) (a dx : Addr) : Option (Option SV) → Out
  | some (some (.ex a' dx' n)) => if a' = a ∧ dx' = dx then (match f n with | .ok d => .rt d | _ => .no) else .no
  | _ => .no
def sNm (i : Nat) (a dx : Addr) (f : Int → R D) : Env → Out := fun s => nmK f a dx s[i]?
@[simp] theorem sNm_ap (i : Nat) (a dx : Addr) (f : Int → R D) (s : Env) : sNm i a dx f s = nmK f a dx s[i]? := Eq.trans rfl rfl
def nmO : R D → Out
  | .ok d => .rt d
  | _ => .no
@[simp] theorem nmO_ok (d : D) : nmO (.ok d) = .rt d := Eq.trans rfl rfl
@[simp] theorem nmK_at (f : Int → R D) (a dx : Addr) (n : Int) : nmK f a dx (some (some (.ex a dx n))) = nmO (f n) := by
  simp only [nmK, and_self, if_true]
  cases f n <;> rfl
theorem ds_retNm {X : Cx} {W : WX} {B : Ent} {k i : Nat} {x e : Str} {nm : Str → Int → R D} {a C dx : Addr} {c : Str} {oe : Obj} {pn : List (Addr × Obj)} {p p2 pos pos' : Pos} (N : NameOk X.prog X.w X.K X.mg X.base k x nm) (hr : Room k X.A) (F : Caught X.K X.mg c C dx oe) (hv : PE (X.suite a ((a, oe) :: pn)) (.Name e p2) (tVar i)) (hg : Gl X x := by rfl) (hdb : (x == ("__debug__" : Str)) = false := by decide)
    (he : starEach [.Name e p2] X.env = (false, eval (.Name e p2) X.env) :: starEach [] X.env := by rfl) (hpl : (backTo pos (starEach [] X.env)).any (·.1) = false := by rfl) :
    DS (X.suite a ((a, oe) :: pn)) W B (.Return (some (.Call (.Name x p) [.Name e p2] [] pos)) pos') (sNm i a dx (nm c)) := fun G => PS.imp (ps_ret (pe_nm N hr F hv hg hdb he hpl)) fun Dd σ H ⟨env, h, z⟩ => by
  obtain ⟨O, rs, zz, s0, g, nn⟩ := h
  rw [sNm_ap] at z
  cases ev : env[i]? with
  | none => rw [ev] at z; exact z.elim
  | some w =>
    rw [ev] at z
    cases w with
    | none => exact z.elim
    | some sv =>
      cases sv with
      | ex a' dx' n =>
        simp only [nmK] at z
        split at z
        · rename_i hh
          obtain ⟨rfl, rfl⟩ := hh
          obtain ⟨v, e1, rfl, hd⟩ := rs.get i _ ev
          cases en : nm c n with
          | ok d =>
            rw [en] at z
            exact ⟨B.O0, n, d, fun b hb => fun y => rs.trk b (zz b hb) y, e1, hd, en, fun v H' s r => z v H' (s0.trans s) r⟩
          | exc c' n' => rw [en] at z; exact z.elim
          | no => rw [en] at z; exact z.elim
        · exact z.elim
      | _ => exact z.elim
/-- the def, from its body -/
theorem name_ok {P : Program} {w : World} {K : PySem.W.Frag} {mg : Str → Option Value} {base : Heap} {x qual y : Str} {st : Stmt} {f : Addr} {fd : FuncData} {N : List Str} {k : Nat} {Fb : Str → Addr → Addr → Env → Out} {nm : Str → Int → R D} (Fu : Fun K x qual st f fd) (hm : mg x = some (.ref f)) (hb : Binds K fd [y] []) (S : FnScope N [y] (defScope st))
    (hbody : ∀ (cdv : Value) (A : Around) (outer : List PySem.Env) (s : Shared) (H : Hp) (E : XK) (B : Ent) (a C dx : Addr) (oe : Obj) (c : Str), Hot1 A (a, oe) → Caught K mg c C dx oe →
      DSs (cxH (L2N.CX P w) P w K mg base N qual (defScope st) f cdv A outer s H E (a, oe)) W0 B (defBody st) (Fb c a dx))
    (hnm : ∀ (c : Str) (a dx : Addr) (n : Int) (d : D), nm c n = .ok d → Fb c a dx (some (.ex a dx n) :: List.replicate (N.length - 1) none) = .rt d) : NameOk P w K mg base (k + 1) x nm := by
  obtain ⟨oc, od, kV, doc, pm, an, cdv, ct, osl, rfl, lk, hcd⟩ := Fu.ex
  refine ⟨f, _, y, hm, Fu.kp, hb, fun A outer s H args a C dx oe c n d O Q E hr hot hpin e0 bd F hd en tr fin => ?_⟩
  have hkeep : ∀ b o, base.get? b = some o → s.heap.get? b = some o := fun b o e => (e0.bs b o e).1
  have KX : K.In s.heap := e0.mod.kin.keeps hkeep
  have hkd : ∀ z ∈ [y].zip [Value.ref a], (defScope st).names.lookup z.1 = some .local ∨ ((defScope st).names.lookup z.1 = some .cell ∧ ((cellsFrom (s.heap.objs.size + 1) (defScope st).names []).lookup z.1).isSome = true) := by
    rintro ⟨n, v⟩ hy
    exact (S.par n (List.of_mem_zip hy).1).imp id fun q => ⟨q, PySem.W.cellsFrom_some _ _ _ (.inl q)⟩
  refine codeAny_call_function hr.depth (KX _ _ lk) rfl S.co S.gen rfl (PySem.W.codeRec_of KX hcd) (bd _ _ _ _ (wpAny_newFunctionEnv_cells S.kind hkd fun env he s1 ic => ?_))
  subst he
  refine ⟨(e0.mod.nolimit.keeps hkeep).keeps ic.toInCall.keep, codeAny_func ?_⟩
  have J := inv_startH (CX := L2N.CX P w) (E := E) (vs := [V.ref a]) (us := [Value.ref a]) S hpin e0 rfl (.cons rfl .nil) ic
  have hN : 1 ≤ N.length := by
    have := congrArg List.length S.pre
    rw [List.length_take] at this
    simp at this
    omega
  have sok : SOK K H O [] (some (.ex a dx n) :: List.replicate (N.length - 1) none) (L2.start N [V.ref a]) H := by
    refine ⟨O, ⟨by simp [L2.start], fun i sv e => ?_, fun i j b su sv e1 _ o1 _ _ _ => ?_, tr⟩, fun _ z => z, Same.refl _, (fun p hp => nomatch hp), fun i sv b e o1 _ => ?_⟩
    · cases i with
      | zero =>
        simp at e
        subst e
        exact ⟨.ref a, by simp [L2.start], rfl, hd⟩
      | succ i =>
        rw [List.getElem?_cons_succ, List.getElem?_replicate] at e
        split at e <;> simp at e
    · cases i with
      | zero => simp at e1; subst e1; cases o1
      | succ i =>
        rw [List.getElem?_cons_succ, List.getElem?_replicate] at e1
        split at e1 <;> simp at e1
    · cases i with
      | zero => simp at e; subst e; cases o1
      | succ i =>
        rw [List.getElem?_cons_succ, List.getElem?_replicate] at e
        split at e <;> simp at e
  have bod := hbody cdv A outer s H E ⟨H, O, tr⟩ a C dx oe c hot F []
  refine wpAny_mono (bod.run [] s1 (L2.start N [V.ref a]) H { nx := fun _ H' => Q .non H', rt := Q } J ⟨_, sok, ?_⟩) (fun fl s' hsp => ?_) fun e s' he => he
  · rw [hnm c a dx n d en]
    exact fin
  · have last : ∀ {σ' : L2.St} {H' : Hp} {v : V} {u : Value}, Inv (cxH (L2N.CX P w) P w K mg base N qual (defScope st) f cdv A outer s H E (a, oe)) [] σ' H' s' → RelV v u → Q v H' → CE outer P w H s Q u s' :=
      fun J' ru q => ⟨_, _, J'.os, J'.bare, J'.base, J'.hok, ru, q⟩
    match fl, hsp with
    | .next, ⟨σ', H', J', q⟩ => exact last (v := .non) (u := Value.none) J' rfl q
    | .ret u, ⟨v, σ', H', J', ru, q⟩ => exact last J' ru q
    | .brk, ⟨_, _, _, z⟩ => exact False.elim z
    | .cont, ⟨_, _, _, z⟩ => exact False.elim z
/-- the answer by a table of classes -/
def nmT (t : List (Str × Str)) (c : Str) (n : Int) : R D := match t.lookup c with
  | some w => .ok (.tup [.str w, .int n])
  | none => .no
theorem lookup_mem' {t : List (Str × Str)} {c w : Str} (h : t.lookup c = some w) : (c, w) ∈ t := by
  induction t with
  | nil => cases h
  | cons p r ih =>
    obtain ⟨k, v⟩ := p
    simp only [List.lookup] at h
    split at h
    · rename_i e
      cases h
      rw [eq_of_beq e]; exact List.mem_cons_self
    · exact List.mem_cons_of_mem _ (ih h)
theorem nmT_elim {t : List (Str × Str)} {c : Str} {n : Int} {d : D} (h : nmT t c n = .ok d) : ∃ w, (c, w) ∈ t ∧ d = .tup [.str w, .int n] := by
  unfold nmT at h
  cases e : t.lookup c with
  | none => rw [e] at h; cases h
  | some w =>
    rw [e] at h
    cases h
    exact ⟨w, lookup_mem' e, rfl⟩
/-- c's instances can be asked -/
def XiAt (K : PySem.W.Frag) (mg : Str → Option Value) (c : Str) : Prop := ∀ C, mg c = some (.ref C) → XisC K C
def XiOk (K : PySem.W.Frag) (mg : Str → Option Value) (l : List (Str × Bool)) : Prop := ∀ c b, catL l c = some b → XiAt K mg c
theorem xiNil {K : PySem.W.Frag} {mg : Str → Option Value} : XiOk K mg [] := fun c b e => by cases e
theorem xiCons {K : PySem.W.Frag} {mg : Str → Option Value} {c : Str} {b : Bool} {l : List (Str × Bool)} (h : XiAt K mg c) (r : XiOk K mg l) : XiOk K mg ((c, b) :: l) := fun c' b' e => by
  unfold catL at e
  simp only [List.lookup] at e
  split at e
  · rename_i he
    rw [eq_of_beq he]; exact h
  · exact r c' b' e
theorem xi_of {K : PySem.W.Frag} {mg : Str → Option Value} {l : List (Str × Bool)} {c : Str} {b : Bool} {C : Addr} (h : XiOk K mg l) (hc : catL l c = some b) (hm : mg c = some (.ref C)) : XisC K C := h c b hc C hm
theorem ExcAt.mg {P : Program} {K : PySem.W.Frag} {mg : Str → Option Value} {c : Str} (h : ExcAt P K mg c) : ∃ C, mg c = some (.ref C) := by
  obtain ⟨C, _, _, _, h, _⟩ := h
  exact ⟨C, h⟩
theorem xi_mk {K : PySem.W.Frag} {h : Heap} {mg : Str → Option Value} {c : Str} {C : Addr} (X : K.In h) (G : h.Ns mainGlobals mg) (n1 : PySem.W.nsIn K mainGlobals c = some (some (.ref C))) (x : XisC K C) : XiAt K mg c := fun A h1 => by
  have e1 := h1.symm.trans (PySem.W.mg_of X G n1)
  cases e1
  exact x
theorem is_same {K : PySem.W.Frag} {mg : Str → Option Value} {c : Str} : IsAt K mg c c true := fun A B h1 h2 => by
  rw [h1] at h2
  cases h2
  unfold PySem.W.kitOne
  rw [if_pos (by simp)]
theorem is_mk {K : PySem.W.Frag} {h : Heap} {mg : Str → Option Value} {c x : Str} {C' C : Addr} {cd : ClassData} {b : Bool} (X : K.In h) (G : h.Ns mainGlobals mg) (n1 : PySem.W.nsIn K mainGlobals c = some (some (.ref C'))) (n2 : PySem.W.nsIn K mainGlobals x = some (some (.ref C)))
    (ne : (Value.ref C' == Value.ref C) = false) (h2 : PySem.W.clsIn K C = some cd) (h3 : PySem.W.typeIn K (.ref C) = some (.type "type")) (h4 : PySem.W.subIn K (.ref C') (.ref C) = some b) : IsAt K mg c x b := fun A B q1 q2 => by
  have e1 := q1.symm.trans (PySem.W.mg_of X G n1)
  have e2 := q2.symm.trans (PySem.W.mg_of X G n2)
  cases e1
  cases e2
  unfold PySem.W.kitOne
  rw [if_neg (by rw [ne]; decide)]
  unfold PySem.W.kitCls
  dsimp only
  rw [if_pos (by rw [h2, h3]; rfl), h4]
end DV

namespace DV
open PySem L2 PySem.Spec PyProof.Rows
/-! ### [*a, b] -/
def aStar (f : Env → R D) (g : Env → R (List D)) : Env → R (List D) := fun s => (f s).bind fun x => (itD x).bind fun xs => (g s).bind fun ys => .ok (xs ++ ys)
@[simp] theorem itD_lst (xs : List D) : itD (.lst xs) = .ok xs := Eq.trans rfl rfl
@[simp] theorem itD_tup (xs : List D) : itD (.tup xs) = .ok xs := Eq.trans rfl rfl
@[simp] theorem aStar_ap (f : Env → R D) (g : Env → R (List D)) (s : Env) : aStar f g s = (f s).bind fun x => (itD x).bind fun xs => (g s).bind fun ys => .ok (xs ++ ys) := Eq.trans rfl rfl
theorem RepMs.app {K : PySem.W.Frag} {O : Addr → Prop} {H : Hp} {m : Bool} : ∀ {ds : List D} {vs : List V} {es : List D} {us : List V}, RepDs K O H ds vs → RepMs K O H m es us → RepMs K O H m (ds ++ es) (vs ++ us)
  | [], vs, es, us, h, g => by simp only [RepDs] at h; subst h; exact g
  | x :: xs, vs, es, us, h, g => by
    simp only [RepDs] at h
    obtain ⟨v, r, rfl, h1, h2⟩ := h
    exact ⟨v, r ++ us, rfl, .ofD h1, RepMs.app h2 g⟩
theorem da_star {X : Cx} {W : WX} {m : Bool} {e : Expr} {es : List Expr} {f : Env → R D} {g : Env → R (List D)} {p : Pos} (he : DE X W true e f) (hr : DA X W m es g) (hs : starEach (.Starred e p :: es) X.env = (true, eval e X.env) :: starEach es X.env := by rfl) :
    DA X W m (.Starred e p :: es) (aStar f g) := PA.imp (StX.pa_star he hr hs) fun σ H Q ⟨env, O, rs, q⟩ => by
  unfold aStar at q
  refine ⟨env, O, rs, ?_⟩
  revert q
  cases f env with
  | exc c n => exact fun q => q
  | no => exact fun q => q
  | ok d =>
    intro q v H1 s1 r1
    have rs1 := rs.same s1
    have q1 := FinA.same s1 q
    rw [R.bind_ok] at q1
    obtain ⟨xs, ex, a, vs, ev, hv, hr⟩ : ∃ xs, itD d = .ok xs ∧ ∃ a vs, v = .ref a ∧ (SqT X.K H1 a vs ∨ SqL X.K H1 a vs) ∧ RepDs X.K O H1 xs vs := by
      cases d with
      | lst xs =>
        obtain ⟨a, vs, e, h1, h2⟩ := repLst r1
        exact ⟨xs, rfl, a, vs, e, .inr (.of h1), h2⟩
      | tup xs =>
        rw [repTup] at r1
        obtain ⟨a, vs, e, h1, h2⟩ := r1
        exact ⟨xs, rfl, a, vs, e, .inl h1, h2⟩
      | _ => exact q1.elim
    rw [ex, R.bind_ok] at q1
    refine ⟨a, vs, ev, hv, env, O, rs1, ?_⟩
    revert q1
    cases g env with
    | exc c n => exact fun q => q
    | no => exact fun q => q
    | ok ds => exact fun q1 us H2 s2 r2 => q1 _ H2 s2 (RepMs.app (hr.same s2) r2)
end DV

namespace DV
open PySem L2 PySem.Spec PyProof.Rows
/-! ### enumerate(zip(a, b)), a and b tuples: the zip's pairs live on in enumerate's -/
section
variable {prog : Program} {w : World} {A : Around} {E : Value → Shared → Prop} {s : Shared}
theorem wpAny_loadIfAlive {M : Model} {a : Addr} {Q : Option Obj → Shared → Prop} (h : Q (s.heap.get? a) s) : wpAny M A (loadIfAlive a) Q E s := fun Γ p _ => by
  unfold loadIfAlive
  rw [Sem.wp_loadIfAlive, Sem.wp_pure]
  exact h
/-- a zip, whatever was handed out -/
abbrev IsZipF (h : Heap) (z TI TO : Addr) (f0 : Value) (f1 : Bool) : Prop :=
  h.get? z = some { cls := .type "zip", dict := none, data := .fields #[f0, .bool f1, .bool false, .ref TI, .ref TO], slots := #[] }
def Handed (f0 : Value) : Prop := f0 = .none ∨ ∃ T : Addr, f0 = rawInt T
theorem owned_any {z TI TO : Addr} {f0 : Value} {f1 : Bool} {Q : Bool → Shared → Prop} (hz : IsZipF s.heap z TI TO f0 f1) (hf : Handed f0) (ht : Q true s) (hn : ∀ h', IsZipF h' z TI TO f0 true → Heap.SameBut z s.heap h' → Q false { s with heap := h' }) :
    wpAny (model prog w) A (Builtin.SmallTypes.ownedTupleIsFree (.ref z)) Q E s := by
  unfold Builtin.SmallTypes.ownedTupleIsFree
  rcases hf with rfl | ⟨T, rfl⟩
  · exact wpAny_bind (wpAny_field hz rfl (x := .none) rfl (wpAny_pure ht))
  · refine wpAny_bind (wpAny_field hz rfl (x := rawInt T) rfl ?_)
    show wpAny _ _ (loadIfAlive (Int.toNat (T : Int)) >>= _) _ _ s
    refine wpAny_bind (wpAny_loadIfAlive ?_)
    cases hT : s.heap.get? (Int.toNat (T : Int)) with
    | none =>
      rw [if_pos (show (none : Option Obj).isNone = true from rfl)]
      exact wpAny_pure ht
    | some o =>
      rw [if_neg (show ¬ ((some o : Option Obj).isNone = true) from Bool.false_ne_true)]
      refine wpAny_bind (wpAny_field hz rfl (x := .bool f1) rfl ?_)
      cases f1 with
      | true =>
        rw [if_neg (by decide)]
        exact wpAny_pure (hn s.heap hz (Heap.SameBut.refl ..))
      | false =>
        rw [if_pos (by decide)]
        refine wpAny_bind (wpAny_setField_rec hz (by simp) fun h' hz' sb => ?_)
        exact wpAny_pure (hn h' hz' sb)
end
end DV

namespace DV
open PySem L2 PySem.Spec PyProof.Rows
section
variable {prog : Program} {w : World} {A : Around} {E : Value → Shared → Prop} {s : Shared} {z TI TO i1 i2 : Addr} {fp1 fp2 : List Addr} {n1 n2 i : Nat} {P1 P2 : Nat → Value → Prop} {St1 St2 : Nat → Heap → Prop} {a1 a2 f0 : Value} {f1 : Bool}
theorem zipF_next_item {Q : Value → Shared → Prop} (S : ZipSep2 z TI TO i1 i2 fp1 fp2) (D1 : Draws prog w A i1 fp1 n1 P1 St1) (D2 : Draws prog w A i2 fp2 n2 P2 St2)
    (hz : IsZipF s.heap z TI TO f0 f1) (hf : Handed f0) (hTI : IsTupOf2 s.heap TI (.ref i1) (.ref i2)) (hTO : IsTupOf2 s.heap TO a1 a2) (st1 : St1 i s.heap) (st2 : St2 i s.heap) (hlt1 : i < n1) (hlt2 : i < n2)
    (hQ : ∀ x1 x2 h' tk, P1 i x1 → P2 i x2 → (∃ f0' f1', IsZipF h' z TI TO f0' f1' ∧ Handed f0') → (∃ a1 a2, IsTupOf2 h' TO a1 a2) → St1 (i + 1) h' → St2 (i + 1) h' → IsTupOf2 h' s.heap.objs.size x1 x2 → h'.objs.size = s.heap.objs.size + 1 →
      (∀ c o, c ≠ z → c ≠ TO → c ≠ i1 → c ≠ i2 → s.heap.get? c = some o → h'.get? c = some o) → Q (.ref s.heap.objs.size) { s with heap := h', toks := tk }) :
    wpAny (model prog w) A (Builtin.«zip.__next__» ⟨[.ref z], []⟩) (fun fin s' => ∃ v, fin = .done (.ret v) ∧ Q v s') E s := by
  obtain ⟨hp, g, d, tk0, os⟩ := s
  show wpAny _ _ (field (.ref z) 2 >>= _) _ _ _
  refine wpAny_bind (wpAny_field hz rfl (x := .bool false) rfl ?_)
  show wpAny _ _ (field (.ref z) 3 >>= _) _ _ _
  refine wpAny_bind (wpAny_field hz rfl (x := .ref TI) rfl (wpAny_bind (wpAny_seqItems hTI rfl ?_)))
  show wpAny _ _ (Builtin.SmallTypes.ownedTupleIsFree (.ref z) >>= _) _ _ _
  refine wpAny_bind (owned_any hz hf ?_ fun gB hzB sbB => ?_)
  · -- its pair is taken anew
    simp only [if_true]
    refine wpAny_bind (wpAny_rule (wpAny_bind (wpAny_field hz rfl (x := .ref TO) rfl (wpAny_bind (wpAny_setField_rec hz (by simp) fun g0 hz0 sb0 => wpAny_bind ?_)))))
    have hz0 : IsZipF g0 z TI TO .ellipsis f1 := hz0
    have sb0 : Heap.SameBut z hp g0 := sb0
    simp only [List.zipIdx_cons, List.zipIdx_nil, List.forIn_cons, List.forIn_nil]
    refine wpAny_bind (wpAny_bind (wpAny_onRaise ?_))
    show wpAny _ _ (Builtin.SmallTypes.nextOf (.ref i1) >>= _) _ _ ⟨g0, g, d, tk0, os⟩
    refine wpAny_bind (D1.item i _ _ _ hlt1 (D1.over st1 sb0 S.zf1) fun x1 p1 tk1 y1 sn1 sp1 => wpAny_pure ?_)
    have sp1 : Heap.SameBut i1 g0 p1 := sp1
    have u1 : IsTupOf2 p1 TO a1 a2 := sp1.extBut _ _ S.Ti1 (sb0.extBut _ _ S.TOz hTO)
    refine wpAny_bind (wpAny_seqItems (s := ⟨p1, g, d, tk1, os⟩) u1 rfl (wpAny_bind (updateSeq_IsTupOf2 (s := ⟨p1, g, d, tk1, os⟩) u1 fun g1 t1 sb1 => ?_)))
    have t1 : IsTupOf2 g1 TO x1 a2 := t1
    have sb1 : Heap.SameBut TO p1 g1 := sb1
    refine wpAny_bind (wpAny_letGo (wpAny_pure (wpAny_bind (wpAny_bind (wpAny_onRaise ?_)))))
    show wpAny _ _ (Builtin.SmallTypes.nextOf (.ref i2) >>= _) _ _ ⟨g1, g, d, tk1, os⟩
    refine wpAny_bind (D2.item i _ _ _ hlt2 (D2.over (D2.over (D2.over st2 sb0 S.zf2) sp1 S.sep1_2) sb1 S.Tf2) fun x2 p2 tk2 y2 sn2 sp2 => wpAny_pure ?_)
    have sp2 : Heap.SameBut i2 g1 p2 := sp2
    have u2 : IsTupOf2 p2 TO x1 a2 := sp2.extBut _ _ S.Ti2 t1
    refine wpAny_bind (wpAny_seqItems (s := ⟨p2, g, d, tk2, os⟩) u2 rfl (wpAny_bind (updateSeq_IsTupOf2 (s := ⟨p2, g, d, tk2, os⟩) u2 fun g2 t2 sb2 => ?_)))
    have t2 : IsTupOf2 g2 TO x1 x2 := t2
    have sb2 : Heap.SameBut TO p2 g2 := sb2
    refine wpAny_bind (wpAny_letGo (wpAny_pure (wpAny_pure (wpAny_bind (wpAny_seqItems (s := ⟨g2, g, d, tk2, os⟩) t2 rfl (wpAny_bind (wpAny_newTuple ?_)))))))
    have sz2 : g2.objs.size = hp.objs.size := by rw [sb2.1, sp2.1, sb1.1, sp1.1, sb0.1]
    have zz : IsZipF g2 z TI TO .ellipsis f1 := sb2.extBut _ _ S.TOz.symm (sp2.extBut _ _ S.zi2 (sb1.extBut _ _ S.TOz.symm (sp1.extBut _ _ S.zi1 hz0)))
    have kk : ∀ c o, c ≠ z → c ≠ TO → c ≠ i1 → c ≠ i2 → hp.get? c = some o → g2.get? c = some o := fun c o n1 n2 n3 n4 e => sb2.extBut _ _ n2 (sp2.extBut _ _ n4 (sb1.extBut _ _ n2 (sp1.extBut _ _ n3 (sb0.extBut _ _ n1 e))))
    have j1 : St1 (i + 1) g2 := D1.over (D1.over (D1.over sn1 sb1 S.Tf1) sp2 S.sep2_1) sb2 S.Tf1
    have j2 : St2 (i + 1) g2 := D2.over sn2 sb2 S.Tf2
    have zlt : z < g2.objs.size := Heap.lt_size zz
    show wpAny _ _ (Builtin.SmallTypes.ownedTupleHandOut (.ref z) (.ref g2.objs.size) >>= _) _ _ ⟨g2.push { cls := .type "tuple", data := .seq #[x1, x2] }, g, d, tk2, os⟩
    refine wpAny_bind ?_
    unfold Builtin.SmallTypes.ownedTupleHandOut
    have z6 : IsZipF (g2.push { cls := .type "tuple", data := .seq #[x1, x2] }) z TI TO .ellipsis f1 := Heap.get?_push_of_some _ zz
    refine wpAny_bind (wpAny_setField_rec z6 (by simp) fun h7 z7 s7 => ?_)
    have z7 : IsZipF h7 z TI TO (rawInt g2.objs.size) f1 := z7
    refine wpAny_setField_rec z7 (by simp) fun h8 z8 s8 => ?_
    have z8 : IsZipF h8 z TI TO (rawInt g2.objs.size) false := z8
    have s7 : Heap.SameBut z (g2.push { cls := .type "tuple", data := .seq #[x1, x2] }) h7 := s7
    have s8 : Heap.SameBut z h7 h8 := s8
    have up : ∀ c o, c ≠ z → g2.get? c = some o → h8.get? c = some o := fun c o n e => s8.extBut _ _ n (s7.extBut _ _ n (Heap.get?_push_of_some _ e))
    have t8 : IsTupOf2 h8 g2.objs.size x1 x2 := s8.extBut _ _ (Nat.ne_of_gt zlt) (s7.extBut _ _ (Nat.ne_of_gt zlt) (Heap.get?_push_size _ rfl))
    have sz8 : h8.objs.size = g2.objs.size + 1 := by rw [s8.1, s7.1, Heap.size_push]
    rw [sz2] at t8 sz8
    refine wpAny_pure ⟨_, rfl, ?_⟩
    show Q (.ref g2.objs.size) ⟨h8, g, d, tk2, os⟩
    rw [sz2]
    exact hQ x1 x2 h8 tk2 y1 y2 ⟨_, _, z8, .inr ⟨_, rfl⟩⟩ ⟨_, _, up _ _ S.TOz t2⟩ (D1.frame _ _ _ j1 fun b hb o e => up b o (fun q => S.zf1 (q ▸ hb)) e) (D2.frame _ _ _ j2 fun b hb o e => up b o (fun q => S.zf2 (q ▸ hb)) e) t8 sz8 fun c o n1 n2 n3 n4 e => up c o n1 (kk c o n1 n2 n3 n4 e)
  · -- its pair is still held
    simp only [Bool.false_eq_true, if_false]
    have sbB : Heap.SameBut z hp gB := sbB
    have hzB : IsZipF gB z TI TO f0 true := hzB
    rw [← Array.forIn_toList]
    simp only [List.forIn_cons, List.forIn_nil]
    refine wpAny_bind (wpAny_bind (wpAny_bind (wpAny_holding ?_)))
    show wpAny _ _ (Builtin.SmallTypes.nextOf (.ref i1) >>= _) _ _ ⟨gB, g, d, tk0, os⟩
    refine wpAny_bind (D1.item i _ _ _ hlt1 (D1.over st1 sbB S.zf1) fun x1 p1 tk1 y1 sn1 sp1 => wpAny_pure ?_)
    have sp1 : Heap.SameBut i1 gB p1 := sp1
    refine wpAny_pure (wpAny_bind (wpAny_bind (wpAny_holding ?_)))
    show wpAny _ _ (Builtin.SmallTypes.nextOf (.ref i2) >>= _) _ _ ⟨p1, g, d, tk1, os⟩
    refine wpAny_bind (D2.item i _ _ _ hlt2 (D2.over (D2.over st2 sbB S.zf2) sp1 S.sep1_2) fun x2 p2 tk2 y2 sn2 sp2 => wpAny_pure ?_)
    have sp2 : Heap.SameBut i2 p1 p2 := sp2
    refine wpAny_pure (wpAny_pure (wpAny_bind (wpAny_newTuple (hsz := by show 2 ≤ sizeLine; decide) ?_)))
    have sz2 : p2.objs.size = hp.objs.size := by rw [sp2.1, sp1.1, sbB.1]
    have zz : IsZipF p2 z TI TO f0 true := sp2.extBut _ _ S.zi2 (sp1.extBut _ _ S.zi1 hzB)
    have tt : IsTupOf2 p2 TO a1 a2 := sp2.extBut _ _ S.Ti2 (sp1.extBut _ _ S.Ti1 (sbB.extBut _ _ S.TOz hTO))
    have up : ∀ c o, p2.get? c = some o → (p2.push { cls := .type "tuple", data := .seq #[x1, x2] }).get? c = some o := fun c o e => Heap.get?_push_of_some _ e
    refine wpAny_pure ⟨_, rfl, ?_⟩
    show Q (.ref p2.objs.size) ⟨p2.push { cls := .type "tuple", data := .seq #[x1, x2] }, g, d, tk2, os⟩
    have t8 : IsTupOf2 (p2.push { cls := .type "tuple", data := .seq #[x1, x2] }) p2.objs.size x1 x2 := Heap.get?_push_size _ rfl
    have sz8 : (p2.push { cls := .type "tuple", data := .seq #[x1, x2] }).objs.size = p2.objs.size + 1 := by rw [Heap.size_push]
    rw [sz2] at t8 sz8 ⊢
    exact hQ x1 x2 _ tk2 y1 y2 ⟨_, _, up _ _ zz, hf⟩ ⟨_, _, up _ _ tt⟩ (D1.frame _ _ _ (D1.over sn1 sp2 S.sep2_1) fun b hb o e => up b o e) (D2.frame _ _ _ sn2 fun b hb o e => up b o e) t8 sz8 fun c o n1 n2 n3 n4 e => up c o (sp2.extBut _ _ n4 (sp1.extBut _ _ n3 (sbB.extBut _ _ n1 e)))
theorem zipF_next_end {Q : PySem.Fin → Shared → Prop} (S : ZipSep2 z TI TO i1 i2 fp1 fp2) (D1 : Draws prog w A i1 fp1 n1 P1 St1) (D2 : Draws prog w A i2 fp2 n2 P2 St2)
    (hz : IsZipF s.heap z TI TO f0 f1) (hf : Handed f0) (hTI : IsTupOf2 s.heap TI (.ref i1) (.ref i2)) (hTO : IsTupOf2 s.heap TO a1 a2) (st1 : St1 i s.heap) (st2 : St2 i s.heap) (hle1 : i ≤ n1) (hle2 : i ≤ n2) (hend : i = n1 ∨ i = n2)
    (hE : ∀ h' tk e, (∀ c o, c ≠ z → c ≠ TO → c ≠ i1 → c ≠ i2 → s.heap.get? c = some o → h'.get? c = some o) → (∃ o, h'.get? e = some o ∧ o.cls = .type "StopIteration") → E (.ref e) { s with heap := h', toks := tk }) :
    wpAny (model prog w) A (Builtin.«zip.__next__» ⟨[.ref z], []⟩) Q E s := by
  obtain ⟨hp, g, d, tk0, os⟩ := s
  show wpAny _ _ (field (.ref z) 2 >>= _) _ _ _
  refine wpAny_bind (wpAny_field hz rfl (x := .bool false) rfl ?_)
  show wpAny _ _ (field (.ref z) 3 >>= _) _ _ _
  refine wpAny_bind (wpAny_field hz rfl (x := .ref TI) rfl (wpAny_bind (wpAny_seqItems hTI rfl ?_)))
  show wpAny _ _ (Builtin.SmallTypes.ownedTupleIsFree (.ref z) >>= _) _ _ _
  refine wpAny_bind (owned_any hz hf ?_ fun gB hzB sbB => ?_)
  · simp only [if_true]
    refine wpAny_bind (wpAny_rule (wpAny_bind (wpAny_field hz rfl (x := .ref TO) rfl (wpAny_bind (wpAny_setField_rec hz (by simp) fun g0 hz0 sb0 => wpAny_bind ?_)))))
    have hz0 : IsZipF g0 z TI TO .ellipsis f1 := hz0
    have sb0 : Heap.SameBut z hp g0 := sb0
    simp only [List.zipIdx_cons, List.zipIdx_nil, List.forIn_cons, List.forIn_nil]
    refine wpAny_bind (wpAny_bind (wpAny_onRaise ?_))
    show wpAny _ _ (Builtin.SmallTypes.nextOf (.ref i1) >>= _) _ _ ⟨g0, g, d, tk0, os⟩
    by_cases hlt1 : i < n1
    · refine wpAny_bind (D1.item i _ _ _ hlt1 (D1.over st1 sb0 S.zf1) fun x1 p1 tk1 y1 sn1 sp1 => wpAny_pure ?_)
      have sp1 : Heap.SameBut i1 g0 p1 := sp1
      have u1 : IsTupOf2 p1 TO a1 a2 := sp1.extBut _ _ S.Ti1 (sb0.extBut _ _ S.TOz hTO)
      refine wpAny_bind (wpAny_seqItems (s := ⟨p1, g, d, tk1, os⟩) u1 rfl (wpAny_bind (updateSeq_IsTupOf2 (s := ⟨p1, g, d, tk1, os⟩) u1 fun g1 t1 sb1 => ?_)))
      have t1 : IsTupOf2 g1 TO x1 a2 := t1
      have sb1 : Heap.SameBut TO p1 g1 := sb1
      have e2 : i = n2 := by omega
      refine wpAny_bind (wpAny_letGo (wpAny_pure (wpAny_bind (wpAny_bind (wpAny_onRaise ?_)))))
      show wpAny _ _ (Builtin.SmallTypes.nextOf (.ref i2) >>= _) _ _ ⟨g1, g, d, tk1, os⟩
      refine wpAny_bind (D2.done ⟨g1, g, d, tk1, os⟩ _ _ (by rw [← e2]; exact D2.over (D2.over (D2.over st2 sb0 S.zf2) sp1 S.sep1_2) sb1 S.Tf2) fun q e hq he => ?_)
      have hq : Heap.ExtBut i2 g1 q := hq
      obtain ⟨oe, hoe, hce⟩ := he
      have hoe : q.get? e = some oe := hoe
      have hzq : IsZipF q z TI TO .ellipsis f1 := hq _ _ S.zi2 (sb1.extBut _ _ S.TOz.symm (sp1.extBut _ _ S.zi1 hz0))
      have nez : e ≠ z := fun x => by subst x; rw [hzq] at hoe; cases hoe; simp at hce
      refine wpAny_setField_rec (s := ⟨q, g, d, tk1, os⟩) hzq (by simp) fun q' _ hq' => ?_
      have hq' : Heap.SameBut z q q' := hq'
      exact hE q' tk1 e (fun c o n1 n2 n3 n4 x => hq'.extBut _ _ n1 (hq _ _ n4 (sb1.extBut _ _ n2 (sp1.extBut _ _ n3 (sb0.extBut _ _ n1 x))))) ⟨oe, hq'.extBut _ _ nez hoe, hce⟩
    · have e1 : i = n1 := by omega
      refine wpAny_bind (D1.done ⟨g0, g, d, tk0, os⟩ _ _ (by rw [← e1]; exact D1.over st1 sb0 S.zf1) fun q e hq he => ?_)
      have hq : Heap.ExtBut i1 g0 q := hq
      obtain ⟨oe, hoe, hce⟩ := he
      have hoe : q.get? e = some oe := hoe
      have hzq : IsZipF q z TI TO .ellipsis f1 := hq _ _ S.zi1 hz0
      have nez : e ≠ z := fun x => by subst x; rw [hzq] at hoe; cases hoe; simp at hce
      refine wpAny_setField_rec (s := ⟨q, g, d, tk0, os⟩) hzq (by simp) fun q' _ hq' => ?_
      have hq' : Heap.SameBut z q q' := hq'
      exact hE q' tk0 e (fun c o n1 n2 n3 n4 x => hq'.extBut _ _ n1 (hq _ _ n3 (sb0.extBut _ _ n1 x))) ⟨oe, hq'.extBut _ _ nez hoe, hce⟩
  · simp only [Bool.false_eq_true, if_false]
    have sbB : Heap.SameBut z hp gB := sbB
    have hzB : IsZipF gB z TI TO f0 true := hzB
    rw [← Array.forIn_toList]
    simp only [List.forIn_cons, List.forIn_nil]
    refine wpAny_bind (wpAny_bind (wpAny_bind (wpAny_holding ?_)))
    show wpAny _ _ (Builtin.SmallTypes.nextOf (.ref i1) >>= _) _ _ ⟨gB, g, d, tk0, os⟩
    by_cases hlt1 : i < n1
    · refine wpAny_bind (D1.item i _ _ _ hlt1 (D1.over st1 sbB S.zf1) fun x1 p1 tk1 y1 sn1 sp1 => wpAny_pure ?_)
      have sp1 : Heap.SameBut i1 gB p1 := sp1
      have e2 : i = n2 := by omega
      refine wpAny_pure (wpAny_bind (wpAny_bind (wpAny_holding ?_)))
      show wpAny _ _ (Builtin.SmallTypes.nextOf (.ref i2) >>= _) _ _ ⟨p1, g, d, tk1, os⟩
      refine wpAny_bind (D2.done ⟨p1, g, d, tk1, os⟩ _ _ (by rw [← e2]; exact D2.over (D2.over st2 sbB S.zf2) sp1 S.sep1_2) fun q e hq he => ?_)
      have hq : Heap.ExtBut i2 p1 q := hq
      exact hE q tk1 e (fun c o n1 n2 n3 n4 x => hq _ _ n4 (sp1.extBut _ _ n3 (sbB.extBut _ _ n1 x))) he
    · have e1 : i = n1 := by omega
      refine wpAny_bind (D1.done ⟨gB, g, d, tk0, os⟩ _ _ (by rw [← e1]; exact D1.over st1 sbB S.zf1) fun q e hq he => ?_)
      have hq : Heap.ExtBut i1 gB q := hq
      exact hE q tk0 e (fun c o n1 n2 n3 n4 x => hq _ _ n3 (sbB.extBut _ _ n1 x)) he
/-- the zip's next, asked by another iterator -/
theorem nextOf_zip {Q : Value → Shared → Prop} {E' : Value → Shared → Prop} {z : Addr} {o : Obj} (ho : s.heap.get? z = some o) (hc : o.cls = .type "zip")
    (h : wpAny (model prog w) A.in1 (Builtin.«zip.__next__» ⟨[.ref z], []⟩) (fun fin s' => ∃ v, fin = .done (.ret v) ∧ Q v s') E' s) : wpAny (model prog w) A (Builtin.SmallTypes.nextOf (.ref z)) Q E' s := by
  have hT : s.TypeIs (.ref z) "zip" := ⟨_, ho, hc⟩
  unfold Builtin.SmallTypes.nextOf
  refine wpAny_bind (wpAny_callSpecial?_slot (name := Str.ofString "__next__") hT F.slot_zip_next (wpAny_call_entry F.slot_zip_next hT F.entry_zip_next ?_ (F.args_zip_next_1 _)))
  exact wpAny_mono h (fun fin s' ⟨v, e, q⟩ => ⟨v, e, wpAny_pure q⟩) fun _ _ z => z
end
end DV

namespace DV
open PySem L2 PySem.Spec PyProof.Rows
section
variable {prog : Program} {w : World} {A : Around} {E : Value → Shared → Prop} {s : Shared}
/-- enumerate's next over any iterator that draws v at the heap h1 -/
theorem enumF_next_item {e it : Addr} {c : Int} {old : Value} {R : Value → Heap → Prop} {Q : Value → Shared → Prop} (he : IsEnum s.heap e it c old)
    (hN : ∀ Q' : Value → Shared → Prop, (∀ v h1 tk, IsEnum h1 e it c old → R v h1 → Q' v { s with heap := h1, toks := tk }) → wpAny (model prog w) A (Builtin.SmallTypes.nextOf (.ref it)) Q' E s)
    (hQ : ∀ v h1 h' tk, R v h1 → e < h1.objs.size → IsEnumOut h' e it (c + 1) v h1.objs.size → h'.get? h1.objs.size = some { cls := .type "tuple", data := .seq #[.int c tk, v] } → h'.objs.size = h1.objs.size + 1 →
      (∀ b o, b ≠ e → h1.get? b = some o → h'.get? b = some o) → Q (.ref h1.objs.size) { s with heap := h', toks := tk + 1 }) :
    wpAny (model prog w) A (Builtin.«enumerate.__next__» ⟨[.ref e], []⟩) (fun fin s' => ∃ v, fin = .done (.ret v) ∧ Q v s') E s := by
  obtain ⟨hp, g, d, tk₀, os⟩ := s
  show wpAny _ _ (field (.ref e) 2 >>= _) _ _ _
  refine wpAny_bind (wpAny_field he rfl (x := .ref it) rfl ?_)
  refine wpAny_bind (hN _ fun x h₁ tk he₁ hR => ?_)
  show wpAny _ _ (field (.ref e) 3 >>= _) _ _ ⟨h₁, g, d, tk, os⟩
  refine wpAny_bind (wpAny_field he₁ rfl (x := rawInt c) rfl ?_)
  show wpAny _ _ (field (.ref e) 4 >>= _) _ _ ⟨h₁, g, d, tk, os⟩
  refine wpAny_bind (wpAny_field he₁ rfl (x := .none) rfl ?_)
  show wpAny _ _ (mkInt c >>= _) _ _ ⟨h₁, g, d, tk, os⟩
  refine wpAny_bind (wpAny_mkInt ?_)
  show wpAny _ _ (setField (.ref e) 3 (rawInt (c + 1)) >>= _) _ _ ⟨h₁, g, d, tk + 1, os⟩
  refine wpAny_bind (wpAny_setField_rec he₁ (by simp) fun h₂ he₂ hs₂ => ?_)
  replace hs₂ : Heap.SameBut e h₁ h₂ := hs₂
  replace he₂ : IsEnum h₂ e it (c + 1) old := he₂
  show wpAny _ _ (setField (.ref e) 4 .none >>= _) _ _ ⟨h₂, g, d, tk + 1, os⟩
  refine wpAny_bind (wpAny_setField_rec he₂ (by simp) fun h₃ he₃ hs₃ => ?_)
  replace hs₃ : Heap.SameBut e h₂ h₃ := hs₃
  replace he₃ : IsEnum h₃ e it (c + 1) old := he₃
  show wpAny _ _ (newTuple [.int c tk, x] >>= _) _ _ ⟨h₃, g, d, tk + 1, os⟩
  refine wpAny_bind (wpAny_newTuple ?_)
  have he₄ : IsEnum (h₃.push { cls := .type "tuple", data := .seq #[.int c tk, x] }) e it (c + 1) old := Heap.get?_push_of_some _ he₃
  generalize hh₄ : h₃.push { cls := .type "tuple", data := .seq #[.int c tk, x] } = h₄ at he₄
  have hsz : h₃.objs.size = h₁.objs.size := by rw [hs₃.1, hs₂.1]
  have hel : e < h₁.objs.size := Heap.lt_size he₁
  have ht₄ : h₄.get? h₁.objs.size = some { cls := .type "tuple", data := .seq #[.int c tk, x] } := by rw [← hh₄, ← hsz]; exact Heap.get?_push_size _ rfl
  have hz₄ : h₄.objs.size = h₁.objs.size + 1 := by rw [← hh₄, Heap.size_push, hsz]
  have hk₄ : ∀ b o, b ≠ e → h₁.get? b = some o → h₄.get? b = some o := fun b o hbe hb => by
    rw [← hh₄]; exact Heap.get?_push_of_some _ (hs₃.extBut b o hbe (hs₂.extBut b o hbe hb))
  show wpAny _ _ (Builtin.SmallTypes.ownedTupleIsFree (.ref e) >>= _) _ _ ⟨h₄, g, d, tk + 1, os⟩
  rw [hsz]
  clear hh₄ he₃ hs₃ he₂ hs₂ he₁ hsz h₃ h₂
  refine wpAny_bind ?_
  · unfold Builtin.SmallTypes.ownedTupleIsFree
    refine wpAny_bind (wpAny_field he₄ rfl (x := .none) rfl (wpAny_pure ?_))
    simp only [if_true]
    refine wpAny_bind (wpAny_rule ?_)
    refine wpAny_bind (wpAny_field he₄ rfl (x := old) rfl ?_)
    refine wpAny_bind (wpAny_setField_rec he₄ (by simp) fun h₅ he₅ hs₅ => ?_)
    replace hs₅ : Heap.SameBut e h₄ h₅ := hs₅
    replace he₅ : IsEnum h₅ e it (c + 1) x := he₅
    show wpAny _ _ (Builtin.SmallTypes.ownedTupleHandOut (.ref e) (.ref h₁.objs.size) >>= _) _ _ ⟨h₅, g, d, tk + 1, os⟩
    refine wpAny_bind ?_
    · unfold Builtin.SmallTypes.ownedTupleHandOut
      refine wpAny_bind (wpAny_setField_rec he₅ (by simp) fun h₆ he₆ hs₆ => ?_)
      replace hs₆ : Heap.SameBut e h₅ h₆ := hs₆
      replace he₆ : IsEnumOut h₆ e it (c + 1) x h₁.objs.size := he₆
      refine wpAny_setField_rec he₆ (by simp) fun h₇ he₇ hs₇ => ?_
      replace hs₇ : Heap.SameBut e h₆ h₇ := hs₇
      replace he₇ : IsEnumOut h₇ e it (c + 1) x h₁.objs.size := he₇
      refine wpAny_bind (wpAny_letGo (wpAny_pure ⟨_, rfl, hQ x h₁ h₇ tk hR hel he₇ ?_ ?_ ?_⟩))
      · exact hs₇.extBut _ _ (Nat.ne_of_gt hel) (hs₆.extBut _ _ (Nat.ne_of_gt hel) (hs₅.extBut _ _ (Nat.ne_of_gt hel) ht₄))
      · rw [hs₇.1, hs₆.1, hs₅.1, hz₄]
      · exact fun b o hbe hb => hs₇.extBut b o hbe (hs₆.extBut b o hbe (hs₅.extBut b o hbe (hk₄ b o hbe hb)))
theorem pyNext_enumF_item {e it : Addr} {c : Int} {old : Value} {R : Value → Heap → Prop} {Q : Option Value → Shared → Prop} (he : IsEnum s.heap e it c old)
    (hN : ∀ (E' : Value → Shared → Prop) (Q' : Value → Shared → Prop), (∀ v h1 tk, IsEnum h1 e it c old → R v h1 → Q' v { s with heap := h1, toks := tk }) → wpAny (model prog w) A.in1 (Builtin.SmallTypes.nextOf (.ref it)) Q' E' s)
    (hQ : ∀ v h1 h' tk, R v h1 → e < h1.objs.size → IsEnumOut h' e it (c + 1) v h1.objs.size → h'.get? h1.objs.size = some { cls := .type "tuple", data := .seq #[.int c tk, v] } → h'.objs.size = h1.objs.size + 1 →
      (∀ b o, b ≠ e → h1.get? b = some o → h'.get? b = some o) → Q (some (.ref h1.objs.size)) { s with heap := h', toks := tk + 1 }) :
    wpAny (model prog w) A (pyNext (.ref e)) Q E s := by
  have hT : s.TypeIs (.ref e) "enumerate" := ⟨_, he, rfl⟩
  unfold pyNext
  exact wpAny_bind (wpAny_attempt (wpAny_callSpecial?_slot (name := Str.ofString "__next__") hT F.slot_enumerate_next
    (wpAny_call_entry F.slot_enumerate_next hT F.entry_enumerate_next
      (enumF_next_item he (hN _) fun v h1 h' tk a b c d k q => wpAny_pure (hQ v h1 h' tk a b c d k q)) (F.args_enumerate_next_1 _))))
theorem pyNext_enumF_end {e it : Addr} {c : Int} {old : Value} {R : Heap → Prop} {Q : Option Value → Shared → Prop} (he : IsEnum s.heap e it c old)
    (hN : ∀ (E' : Value → Shared → Prop) (Q' : Value → Shared → Prop), (∀ h1 tk x, R h1 → (∃ o, h1.get? x = some o ∧ o.cls = .type "StopIteration") → E' (.ref x) { s with heap := h1, toks := tk }) → wpAny (model prog w) A.in1 (Builtin.SmallTypes.nextOf (.ref it)) Q' E' s)
    (hQ : ∀ h1 tk, R h1 → Q none { s with heap := h1, toks := tk }) : wpAny (model prog w) A (pyNext (.ref e)) Q E s := by
  have hT : s.TypeIs (.ref e) "enumerate" := ⟨_, he, rfl⟩
  unfold pyNext
  refine wpAny_bind (wpAny_attempt (wpAny_callSpecial?_slot (name := Str.ofString "__next__") hT F.slot_enumerate_next
    (wpAny_call_entry F.slot_enumerate_next hT F.entry_enumerate_next ?_ (F.args_enumerate_next_1 _))))
  show wpAny _ _ (field (.ref e) 2 >>= _) _ _ _
  refine wpAny_bind (wpAny_field he rfl (x := .ref it) rfl ?_)
  refine wpAny_bind (hN _ _ fun h' tk x hR hx' => ?_)
  obtain ⟨o, ho, hc⟩ := hx'
  refine wpAny_bind (wpAny_isInstance (T := "StopIteration") (b := true) ⟨o, ho, hc⟩ isSubtype_stop ?_)
  exact wpAny_pure (hQ _ _ hR)
end
set_option maxHeartbeats 1000000 in
theorem meets_enumerate_newZ {z TI TO : Addr} {f0 : Value} :
    Meets (Builtin.«enumerate.__new__» ⟨[.type "enumerate", .ref z], []⟩) (fun _ R s => IsZip s.heap z TI TO f0 ∧
      R (.ok (.ret (.ref s.heap.objs.size))) { s with heap := s.heap.push { cls := .type "enumerate", data := .fields #[.none, .bool false, .ref z, rawInt 0, .none, .none] } }) :=
  .of_wp fun prog w A R s h => by
    obtain ⟨hp, g, d, tk, os⟩ := s; obtain ⟨h1, h⟩ := h
    have hsub := sub_enumerate
    have hnf : (!Builtin.SmallTypes.fitsIndex 0) = false := rfl
    have q1 : ∀ {A' : Around} {E : Value → Shared → Prop} {Q : Value → Shared → Prop}, Q (.ref z) ⟨hp, g, d, tk, os⟩ → wpAny (model prog w) A' (pyIter (.ref z)) Q E ⟨hp, g, d, tk, os⟩ :=
      fun q => wpAny_pyIter_zip (s := ⟨hp, g, d, tk, os⟩) h1 q
    wp_walk using q1
    refine wpAny_stack_any fun st => wpAny_pure ?_
    split
    · rename_i c _ _ _ _ _
      cases (c == Value.type "enumerate")
      · wp_walk using q1
        exact ⟨_, rfl, h⟩
      · wp_walk using q1
        exact ⟨_, rfl, h⟩
    · wp_walk using q1
      exact ⟨_, rfl, h⟩
section
variable {prog : Program} {w : World} {A : Around} {E : Value → Shared → Prop} {s : Shared}
theorem call_enumZ {z TI TO : Addr} {f0 : Value} {Q : Value → Shared → Prop} (h1 : IsZip s.heap z TI TO f0)
    (h : ∀ h', IsEnum h' s.heap.objs.size z 0 .none → h'.objs.size = s.heap.objs.size + 1 → (∀ b o, s.heap.get? b = some o → h'.get? b = some o) → Q (.ref s.heap.objs.size) { s with heap := h' }) :
    wpAny (model prog w) A (call (.type "enumerate") [.ref z]) Q E s := by
  refine callType_new F.called_enumerate (by decide) (F.typeCall_enumerate_1 _) (F.newCall_enumerate_1 _) (fun obj => F.args_object_init_2 obj _) F.entry_enumerate_new
    meets_enumerate_newZ ⟨h1, ?_⟩
  have he : IsEnum (s.heap.push { cls := .type "enumerate", data := .fields #[.none, .bool false, .ref z, rawInt 0, .none, .none] }) s.heap.objs.size z 0 .none := Heap.get?_push_size _ rfl
  exact ⟨⟨_, he, rfl⟩, h _ he (Heap.size_push ..) fun b o x => Heap.get?_push_of_some _ x⟩
end
end DV

namespace DV
open PySem L2 PySem.Spec PyProof.Rows
/-- the tuples at a and b, the items in new pairs, each in a new pair behind its number -/
def ItzE (K : PySem.W.Frag) (a b : Addr) (n : Nat) : It :=
  ⟨fun i H => ∃ (xs ys : List V) (x y : V), SqT K H a xs ∧ SqT K H b ys ∧ min xs.length ys.length = n ∧ xs[i]? = some x ∧ ys[i]? = some y,
    fun i H v H' => ∃ T U x y, v = .ref U ∧ H T = none ∧ upd H T (.tup [x, y]) U = none ∧ H' = upd (upd H T (.tup [x, y])) U (.tup [.int i, .ref T]) ∧ (∀ xs, SqT K H a xs → xs[i]? = some x) ∧ ∀ ys, SqT K H b ys → ys[i]? = some y,
    fun i H => ∃ xs ys : List V, SqT K H a xs ∧ SqT K H b ys ∧ min xs.length ys.length = n ∧ (xs.length ≤ i ∨ ys.length ≤ i)⟩
theorem turn_enumZ {P : Program} {w : World} {K : PySem.W.Frag} {elts : List Expr} {kk : Nat} {tpos : Pos} {a b e z TI TO i1 i2 : Addr} {n : Nat} (D : ZipApart z TI TO i1 i2 a b) (hez : e ≠ z) (heI : e ≠ TI) (heO : e ≠ TO) (he1 : e ≠ i1) (he2 : e ≠ i2) :
    Turn P w K (.Tuple elts kk tpos) (ItzE K a b n) [e, z, TI, TO, i1, i2] e (fun i h => (∃ old, IsEnum h e z ((i : Nat) : Int) old) ∧ (∃ f0 f1, IsZipF h z TI TO f0 f1 ∧ Handed f0) ∧ IsTupOf2 h TI (.ref i1) (.ref i2) ∧ (∃ x y, IsTupOf2 h TO x y) ∧ h.IsTupleIter i1 a i ∧ h.IsTupleIter i2 b i ∧ i ≤ n) where
  mem := by simp
  obj := fun i h st c hc => by
    obtain ⟨⟨old, he⟩, ⟨f0, f1, hz, _⟩, hTI, ⟨x, y, hTO⟩, ⟨o1, e1, _, d1⟩, ⟨o2, e2, _, d2⟩, _⟩ := st
    have e' : c = e ∨ c = z ∨ c = TI ∨ c = TO ∨ c = i1 ∨ c = i2 := by simpa using hc
    rcases e' with q | q | q | q | q | q
    · rw [q]; exact ⟨_, he, fun v q => nomatch q⟩
    · rw [q]; exact ⟨_, hz, fun v q => nomatch q⟩
    · rw [q]; exact ⟨_, hTI, fun v q => nomatch q⟩
    · rw [q]; exact ⟨_, hTO, fun v q => nomatch q⟩
    · rw [q]; exact ⟨o1, e1, fun v q => by rw [d1] at q; cases q⟩
    · rw [q]; exact ⟨o2, e2, fun v q => by rw [d2] at q; cases q⟩
  keep := fun i h h' st k => by
    obtain ⟨⟨old, he⟩, ⟨f0, f1, hz, hf⟩, hTI, ⟨x, y, hTO⟩, h1, h2, hin⟩ := st
    exact ⟨⟨old, k e (by simp) _ he⟩, ⟨f0, f1, k z (by simp) _ hz, hf⟩, k TI (by simp) _ hTI, ⟨x, y, k TO (by simp) _ hTO⟩, h1.at fun o q => k i1 (by simp) o q, h2.at fun o q => k i2 (by simp) o q, hin⟩
  item := by
    intro X hP hw hK hc i pins s σ H E I hf st hg
    subst hP hw hK
    obtain ⟨⟨old, he⟩, ⟨f0, f1, hz, hH⟩, hTI, ⟨x0, y0, hTO⟩, h1, h2, hin⟩ := st
    obtain ⟨xs, ys, x, y, hqx, hqy, hn, hx, hy⟩ := hg
    obtain ⟨its, rv, p, _⟩ := I.tuple hqx
    obtain ⟨its2, rv2, p2, _⟩ := I.tuple hqy
    obtain ⟨u, hu, ru⟩ := rv.get hx
    obtain ⟨u2, hu2, ru2⟩ := rv2.get hy
    have hu' : its.toArray[i]? = some u := by simpa using hu
    have hu2' : its2.toArray[i]? = some u2 := by simpa using hu2
    have lt1 : i < its.toArray.size := by
      rcases Nat.lt_or_ge i its.toArray.size with q | q
      · exact q
      · rw [Array.getElem?_eq_none q] at hu'; cases hu'
    have lt2 : i < its2.toArray.size := by
      rcases Nat.lt_or_ge i its2.toArray.size with q | q
      · exact q
      · rw [Array.getElem?_eq_none q] at hu2'; cases hu2'
    have el : e < s.heap.objs.size := Heap.lt_size he
    have zl : z < s.heap.objs.size := Heap.lt_size hz
    have TIl : TI < s.heap.objs.size := Heap.lt_size hTI
    have TOl : TO < s.heap.objs.size := Heap.lt_size hTO
    have i1l : i1 < s.heap.objs.size := by obtain ⟨_, e1, _⟩ := h1; exact Heap.lt_size e1
    have i2l : i2 < s.heap.objs.size := by obtain ⟨_, e2, _⟩ := h2; exact Heap.lt_size e2
    have S : ZipSep2 z TI TO i1 i2 [i1, a] [i2, b] := by
      refine ⟨D.TIz, D.TOz, D.TITO, D.TIi1, by simp, ?_, ?_, D.TIi2, by simp, ?_, ?_, ?_, ?_⟩ <;> simp only [List.mem_cons, List.not_mem_nil, or_false, not_or]
      · exact ⟨Ne.symm D.i1z, Ne.symm D.l1z⟩
      · exact ⟨D.TOi1, Ne.symm D.l1TO⟩
      · exact ⟨Ne.symm D.i2z, Ne.symm D.l2z⟩
      · exact ⟨D.TOi2, Ne.symm D.l2TO⟩
      · exact ⟨D.i12, Ne.symm D.l2i1⟩
      · exact ⟨Ne.symm D.i12, Ne.symm D.l1i2⟩
    have hh : X.A.in1.in1.handled = none := I.ok.hd hc
    have D1 := Draws.tuple (prog := X.prog) (w := X.w) hh i1 a D.l1i1 its.toArray
    have D2 := Draws.tuple (prog := X.prog) (w := X.w) hh i2 b D.l2i2 its2.toArray
    refine pyNext_enumF_item (old := old) (R := fun v h1' => v = .ref s.heap.objs.size ∧ IsTupOf2 h1' s.heap.objs.size u u2 ∧ h1'.objs.size = s.heap.objs.size + 1 ∧ (∃ f0' f1', IsZipF h1' z TI TO f0' f1' ∧ Handed f0') ∧ (∃ a1 a2, IsTupOf2 h1' TO a1 a2) ∧
      h1'.IsTupleIter i1 a (i + 1) ∧ h1'.IsTupleIter i2 b (i + 1) ∧ ∀ c o, c ≠ z → c ≠ TO → c ≠ i1 → c ≠ i2 → s.heap.get? c = some o → h1'.get? c = some o) he ?_ ?_
    · intro E' Q' hQ'
      refine nextOf_zip hz rfl (zipF_next_item S D1 D2 hz hH hTI hTO ⟨h1, p⟩ ⟨h2, p2⟩ lt1 lt2 fun x1 x2 h' tk q1 q2 zz tt s1 s2 t8 sz kk => ?_)
      have ex1 : x1 = u := by
        have q1 : its.toArray[i]? = some x1 := q1
        rw [hu'] at q1; exact (Option.some.inj q1).symm
      have ex2 : x2 = u2 := by
        have q2 : its2.toArray[i]? = some x2 := q2
        rw [hu2'] at q2; exact (Option.some.inj q2).symm
      subst ex1 ex2
      exact hQ' _ h' tk (kk _ _ hez heO he1 he2 he) ⟨rfl, t8, sz, zz, tt, s1.1, s2.1, kk⟩
    · rintro v h1' h' tk ⟨rfl, t1, sz1, ⟨f0', f1', zz, hH'⟩, ⟨a1, a2, tt⟩, s1, s2, kk⟩ el1 ho hT sz2 k2
      refine ⟨_, rfl, wpAny_letOwnedTupleGo_enum (s := { s with heap := h', toks := tk + 1 }) ho fun h'' he'' sb => ?_⟩
      have sb : Heap.SameBut e h' h'' := sb
      have k3 : ∀ c o, c ≠ e → h1'.get? c = some o → h''.get? c = some o := fun c o n q => (sb.2 c n).trans (k2 c o n q)
      have ne1 : s.heap.objs.size ≠ e := Nat.ne_of_gt el
      have t1' : IsTupOf2 h'' s.heap.objs.size u u2 := k3 _ _ ne1 t1
      have hT2 : h''.get? h1'.objs.size = some { cls := .type "tuple", data := .seq #[.int i tk, .ref s.heap.objs.size] } := (sb.2 _ (Nat.ne_of_gt el1)).trans hT
      rw [sz1] at hT2
      have new : ObjOk X.prog X.w (upd H s.heap.objs.size (.tup [x, y])) h1' s.heap.objs.size (.tup [x, y]) :=
        ⟨by show 2 ≤ sizeLine; decide, [u, u2], .cons ru (.cons ru2 .nil), ⟨_, t1, rfl, _, rfl⟩⟩
      have I1 : Inv X pins σ (upd H s.heap.objs.size (.tup [x, y])) { s with heap := h1', toks := tk } :=
        I.turnedNew (ch := [e, z, TI, TO, i1, i2]) (fun c o hb q => kk c o (fun q' => hb (by simp [q'])) (fun q' => hb (by simp [q'])) (fun q' => hb (by simp [q'])) (fun q' => hb (by simp [q'])) q) hf (Nat.le_refl _) new
      have hf2 : ∀ c ∈ [e], FpOk X pins (upd H s.heap.objs.size (.tup [x, y])) c := fun c hc => by
        rw [List.mem_singleton.mp hc]
        have q := hf e (by simp)
        exact ⟨by rw [upd_ne (Ne.symm ne1)]; exact q.1, q.2⟩
      have szl : ({ s with heap := h1', toks := tk } : Shared).heap.objs.size ≤ s.heap.objs.size + 1 := by show h1'.objs.size ≤ _; omega
      have new2 : ObjOk X.prog X.w (upd (upd H s.heap.objs.size (.tup [x, y])) (s.heap.objs.size + 1) (.tup [.int (i : Nat), .ref s.heap.objs.size])) h'' (s.heap.objs.size + 1) (.tup [.int (i : Nat), .ref s.heap.objs.size]) :=
        ⟨by show 2 ≤ sizeLine; decide, [.int i tk, .ref s.heap.objs.size], .cons ⟨_, rfl⟩ (.cons rfl .nil), ⟨_, hT2, rfl, _, rfl⟩⟩
      have I2 : Inv X pins σ (upd (upd H s.heap.objs.size (.tup [x, y])) (s.heap.objs.size + 1) (.tup [.int (i : Nat), .ref s.heap.objs.size])) { s with heap := h'', toks := tk + 1 } :=
        I1.turnedNew (t' := tk + 1) (ch := [e]) (fun c o hb q => k3 c o (fun q' => hb (by simp [q'])) q) hf2 szl new2
      rw [sz1]
      refine ⟨.ref (s.heap.objs.size + 1), _, I2, rfl, ⟨_, _, x, y, rfl, I.hok.fresh (Nat.le_refl _), I1.hok.fresh szl, rfl, fun l hl => by rw [I.tuple_inj hl hqx]; exact hx, fun l hl => by rw [I.tuple_inj hl hqy]; exact hy⟩, ⟨⟨.ref s.heap.objs.size, ?_⟩, ⟨f0', f1', k3 _ _ (Ne.symm hez) zz, hH'⟩, ?_, ⟨a1, a2, k3 _ _ (Ne.symm heO) tt⟩, ?_, ?_, ?_⟩, fun c hcm => ?_⟩
      · have e1 : ((i + 1 : Nat) : Int) = (i : Int) + 1 := by omega
        rw [e1]; exact he''
      · exact k3 _ _ (Ne.symm heI) (kk _ _ D.TIz D.TITO D.TIi1 D.TIi2 hTI)
      · exact s1.at fun o q => k3 _ _ (Ne.symm he1) q
      · exact s2.at fun o q => k3 _ _ (Ne.symm he2) q
      · have g1 := rv.length
        have g2 := rv2.length
        simp only [List.size_toArray] at lt1 lt2
        omega
      · have hlt : c < s.heap.objs.size := by
          have e' : c = e ∨ c = z ∨ c = TI ∨ c = TO ∨ c = i1 ∨ c = i2 := by simpa using hcm
          rcases e' with q | q | q | q | q | q <;> (rw [q]; assumption)
        rw [upd_ne (Nat.ne_of_lt (Nat.lt_succ_of_lt hlt)), upd_ne (Nat.ne_of_lt hlt)]
        exact (hf c hcm).1
  done := by
    intro X hP hw hK hc i pins s σ H E I hf st hg
    subst hP hw hK
    obtain ⟨⟨old, he⟩, ⟨f0, f1, hz, hH⟩, hTI, ⟨x0, y0, hTO⟩, h1, h2, hin⟩ := st
    obtain ⟨xs, ys, hqx, hqy, hn, hend⟩ := hg
    obtain ⟨its, rv, p, _⟩ := I.tuple hqx
    obtain ⟨its2, rv2, p2, _⟩ := I.tuple hqy
    have l1 := rv.length
    have l2 := rv2.length
    have S : ZipSep2 z TI TO i1 i2 [i1, a] [i2, b] := by
      refine ⟨D.TIz, D.TOz, D.TITO, D.TIi1, by simp, ?_, ?_, D.TIi2, by simp, ?_, ?_, ?_, ?_⟩ <;> simp only [List.mem_cons, List.not_mem_nil, or_false, not_or]
      · exact ⟨Ne.symm D.i1z, Ne.symm D.l1z⟩
      · exact ⟨D.TOi1, Ne.symm D.l1TO⟩
      · exact ⟨Ne.symm D.i2z, Ne.symm D.l2z⟩
      · exact ⟨D.TOi2, Ne.symm D.l2TO⟩
      · exact ⟨D.i12, Ne.symm D.l2i1⟩
      · exact ⟨Ne.symm D.i12, Ne.symm D.l1i2⟩
    have hh : X.A.in1.in1.handled = none := I.ok.hd hc
    have D1 := Draws.tuple (prog := X.prog) (w := X.w) hh i1 a D.l1i1 its.toArray
    have D2 := Draws.tuple (prog := X.prog) (w := X.w) hh i2 b D.l2i2 its2.toArray
    refine pyNext_enumF_end (R := fun h1' => ∀ c o, c ≠ z → c ≠ TO → c ≠ i1 → c ≠ i2 → s.heap.get? c = some o → h1'.get? c = some o) he ?_ ?_
    · intro E' Q' hQ'
      refine nextOf_zip hz rfl (zipF_next_end S D1 D2 hz hH hTI hTO ⟨h1, p⟩ ⟨h2, p2⟩ (by simp only [List.size_toArray]; omega) (by simp only [List.size_toArray]; omega) (by simp only [List.size_toArray]; omega) fun h' tk x kk ex => hQ' h' tk x kk ex)
    · intro h1' tk kk
      exact ⟨rfl, I.turnedL (t' := tk) (ch := [e, z, TI, TO, i1, i2]) (fun c o hb q => kk c o (fun q' => hb (by simp [q'])) (fun q' => hb (by simp [q'])) (fun q' => hb (by simp [q'])) (fun q' => hb (by simp [q'])) q) hf⟩
  self := fun A i s Q E st h => let ⟨⟨_, he⟩, _⟩ := st; wpAny_pyIter_enum he h
def iEnumZ (K : PySem.W.Frag) (ta : TA) : TI := fun σ H R => ta σ H fun vs H1 => ∃ a b xs ys, vs = [.ref a, .ref b] ∧ SqT K H1 a xs ∧ SqT K H1 b ys ∧ R (ItzE K a b (min xs.length ys.length)) H1
theorem pi_enumZ {X : Cx} {e e2 : Expr} {ta : TA} {p p2 pos q tpos : Pos} {elts : List Expr} {kk : Nat} (hg : Gl X "zip") (hm : X.mg "zip" = none) (hg2 : Gl X "enumerate") (hm2 : X.mg "enumerate" = none) (ha : PA X [e, e2] ta)
    (hs : starEach [e, e2] X.env = (false, eval e X.env) :: starEach [e2] X.env := by rfl) (hpl : (backTo q (starEach [e2] X.env)).any (·.1) = false := by rfl)
    (na : starEach [Expr.Call (.Name "zip" p2) [e, e2] [] q] X.env = (false, eval (Expr.Call (.Name "zip" p2) [e, e2] [] q) X.env) :: starEach [] X.env := by rfl) :
    PI X (.Tuple elts kk tpos) (.Call (.Name "enumerate" p) [.Call (.Name "zip" p2) [e, e2] [] q] [] pos) (iEnumZ X.K ta) := by
  refine ⟨fun pins s σ H R I h => ?_⟩
  refine Call_ (ld_blt I hg2 hm2 boot_enumerate ?_)
  refine PyProof.Rows.callWith_type1 (PyProof.Rows.args_cons ?_ na) na rfl
  refine Call_ (ld_blt I hg hm PyProof.Rows.boot_zip (PyProof.Rows.callWith_type1 (thn (ha.run q pins s σ H _ I h) fun us s1 ⟨vs, H1, I1, r1, q1⟩ => ?_) hs hpl))
  obtain ⟨a, b, xs, ys, ex, hqx, hqy, q1⟩ := q1
  subst ex
  cases r1 with
  | cons r rr =>
    cases rr with
    | cons r' rr =>
      cases rr
      cases r
      cases r'
      obtain ⟨its, rv, p1, _⟩ := I1.tuple hqx
      obtain ⟨its2, rv2, p2, _⟩ := I1.tuple hqy
      have la : a < s1.heap.objs.size := by obtain ⟨_, z, _⟩ := id p1; exact Heap.lt_size z
      have lb : b < s1.heap.objs.size := by obtain ⟨_, z, _⟩ := id p2; exact Heap.lt_size z
      refine RZ.call_zipT (show s1.heap.IsTuple a its.toArray from p1) (show s1.heap.IsTuple b its2.toArray from p2) fun h' hz hTI hTO h1 h2 hsz hk => ?_
      refine PyProof.Rows.args_nil ?_
      refine call_enumZ (s := { s1 with heap := h' }) hz fun h2' he hsz2 hk2 => wpAny_pyIter_enum he ?_
      have hsz : h'.objs.size = s1.heap.objs.size + 5 := hsz
      have he : IsEnum h2' h'.objs.size (s1.heap.objs.size + 4) 0 .none := he
      have I2 : Inv X pins σ H1 { s1 with heap := h2' } := I1.kept (t' := s1.toks) fun c o z => hk2 _ _ (hk c o z)
      rw [hsz] at he
      show PIE X pins σ _ R (.ref h'.objs.size) _
      rw [hsz]
      have ne : ∀ k, k < 5 → s1.heap.objs.size + 5 ≠ s1.heap.objs.size + k := fun k h z => by omega
      refine ⟨s1.heap.objs.size + 5, [s1.heap.objs.size + 5, s1.heap.objs.size + 4, s1.heap.objs.size + 2, s1.heap.objs.size + 3, s1.heap.objs.size, s1.heap.objs.size + 1], _, _, H1, rfl, I2,
        turn_enumZ (PySem.W.ktu_apart s1.heap.objs.size a b la lb) (ne 4 (by omega)) (ne 2 (by omega)) (ne 3 (by omega)) (ne 0 (by omega)) (ne 1 (by omega)),
        ⟨⟨.none, he⟩, ⟨.none, false, hk2 _ _ hz, .inl rfl⟩, hk2 _ _ hTI, ⟨_, _, hk2 _ _ hTO⟩, h1.at fun o z => hk2 _ _ z, h2.at fun o z => hk2 _ _ z, Nat.zero_le _⟩, fun c hcm => ?_, q1⟩
      have e' : c = s1.heap.objs.size + 5 ∨ c = s1.heap.objs.size + 4 ∨ c = s1.heap.objs.size + 2 ∨ c = s1.heap.objs.size + 3 ∨ c = s1.heap.objs.size ∨ c = s1.heap.objs.size + 1 := by simpa using hcm
      have hle : s1.heap.objs.size ≤ c := by
        rcases e' with z | z | z | z | z | z <;> rw [z] <;> first | exact Nat.le_refl _ | exact Nat.le_add_right _ _
      exact I1.fpOk hle (I1.hok.fresh hle)
/-! ### as data -/
theorem iter_enumZ {K : PySem.W.Frag} {m : Bool} {a b : Addr} {xs ys : List D} : IterD K m (ItzE K a b (min xs.length ys.length)) [(.ref a, .tup xs), (.ref b, .tup ys)] (enumD (zipD xs ys)) := fun O H tr hG i => by
  have g1 := hG _ List.mem_cons_self
  have g2 := hG _ (List.mem_cons_of_mem _ List.mem_cons_self)
  rw [repTup] at g1 g2
  obtain ⟨a', vs, e, h1, h2⟩ := g1
  cases e
  obtain ⟨b', us, e, h3, h4⟩ := g2
  cases e
  have hl : min vs.length us.length = min xs.length ys.length := by rw [← h2.length, ← h4.length]
  refine ⟨fun x e => ?_, fun hle => ⟨vs, us, h1, h3, hl, by rw [← h2.length, ← h4.length]; simp only [enumD, zipD, List.length_mapIdx, List.length_zipWith] at hle; omega⟩⟩
  unfold enumD zipD at e
  rw [List.getElem?_mapIdx, Option.map_eq_some_iff] at e
  obtain ⟨d, ed, rfl⟩ := e
  rw [List.getElem?_zipWith] at ed
  cases ex : xs[i]? with
  | none => rw [ex] at ed; simp at ed
  | some x' =>
    cases ey : ys[i]? with
    | none => rw [ex, ey] at ed; simp at ed
    | some y' =>
      rw [ex, ey] at ed
      simp at ed
      subst ed
      obtain ⟨v, ev, rv⟩ := h2.get ex
      obtain ⟨u, eu, ru⟩ := h4.get ey
      refine ⟨⟨vs, us, v, u, h1, h3, hl, ev, eu⟩, fun w H' y => ?_⟩
      obtain ⟨T, U, x2, y2, e1, nT, nU, eH, y, z⟩ := y
      have q1 := y vs h1
      have q2 := z us h3
      rw [ev] at q1
      rw [eu] at q2
      cases q1; cases q2
      subst e1 eH
      have sm := Same.new' (o := .tup [v, u]) nT
      refine ⟨sm.trans (Same.new' nU), ?_⟩
      exact .newT nU (.cons (by simp [RepD]) (.cons (.newT nT (.cons rv (.cons ru .nil))) .nil))
def iEnumZD (ga : Env → R (List D)) : Env → R (List D) := fun s => (ga s).bind fun ds => match ds with
  | [.tup xs, .tup ys] => .ok (enumD (zipD xs ys))
  | _ => .no
section
variable {X : Cx} {W : WX} {m : Bool} {a b : Expr} {ga : Env → R (List D)} {p p2 q pos tpos : Pos}
theorem di_enumZ {elts : List Expr} {kk : Nat} {tpos : Pos} (hm2 : X.mg "enumerate" = none) (hm : X.mg "zip" = none) (ha : DA X W m [a, b] ga) (hg2 : Gl X "enumerate" := by rfl) (hg : Gl X "zip" := by rfl) (hs : starEach [a, b] X.env = (false, eval a X.env) :: starEach [b] X.env := by rfl) (hs2 : (backTo q (starEach [b] X.env)).any (·.1) = false := by rfl)
    (na : starEach [Expr.Call (.Name "zip" p2) [a, b] [] q] X.env = (false, eval (Expr.Call (.Name "zip" p2) [a, b] [] q) X.env) :: starEach [] X.env := by rfl) :
    DI X W m (.Tuple elts kk tpos) (.Call (.Name "enumerate" p) [.Call (.Name "zip" p2) [a, b] [] q] [] pos) (iEnumZD ga) := PI.imp (pi_enumZ hg hm hg2 hm2 ha hs hs2 na) fun σ H R ⟨env, O, rs, q⟩ => by
  refine finAI rs q fun ds vs H1 _ s1 r1 rs1 q1 => ?_
  split at q1
  · obtain ⟨v, w, e, h, h'⟩ := repMs2 r1
    have h0 := h
    have h0' := h'
    rw [repTup] at h0 h0'
    obtain ⟨p, us, e2, h1, h2⟩ := h0
    obtain ⟨p', us', e2', h1', h2'⟩ := h0'
    subst e2 e2'
    refine ⟨p, p', us, us', e, h1, h1', ?_⟩
    rw [← h2.length, ← h2'.length]
    exact q1 _ _ H1 (Same.refl _) (fun z hz => by
      rcases List.mem_cons.mp hz with hz | hz
      · subst hz; exact h
      · rw [List.mem_singleton.mp hz]; exact h') iter_enumZ
  · exact q1.elim
end
def enumZK : List D → R (List D)
  | [.tup xs, .tup ys] => .ok (enumD (zipD xs ys))
  | _ => .no
@[simp] theorem enumZK_ap (xs ys : List D) : enumZK [.tup xs, .tup ys] = .ok (enumD (zipD xs ys)) := Eq.trans rfl rfl
@[simp] theorem iEnumZD_ap (ga : Env → R (List D)) (s : Env) : iEnumZD ga s = (ga s).bind enumZK := by unfold iEnumZD; congr
end DV

namespace DV
open PySem L2 PySem.Spec PyProof.Rows
/-! ### sorted, so that the kernel reckons it -/
def insI (x : Int) : List Int → List Int
  | [] => [x]
  | y :: ys => if x ≤ y then x :: y :: ys else y :: insI x ys
def isortI : List Int → List Int
  | [] => []
  | x :: xs => insI x (isortI xs)
theorem insI_perm (x : Int) : ∀ ys, (insI x ys).Perm (x :: ys)
  | [] => List.Perm.refl _
  | y :: ys => by
    unfold insI
    split
    · exact List.Perm.refl _
    · exact ((insI_perm x ys).cons y).trans (List.Perm.swap x y ys)
theorem insI_sorted (x : Int) : ∀ ys : List Int, ys.Pairwise (· ≤ ·) → (insI x ys).Pairwise (· ≤ ·)
  | [], _ => by simp [insI]
  | y :: ys, h => by
    unfold insI
    have h' := List.pairwise_cons.mp h
    split
    · rename_i hxy
      exact List.pairwise_cons.mpr ⟨fun z hz => by
        rcases List.mem_cons.mp hz with rfl | hz
        · exact hxy
        · exact Int.le_trans hxy (h'.1 z hz), h⟩
    · rename_i hxy
      exact List.pairwise_cons.mpr ⟨fun z hz => by
        rcases List.mem_cons.mp ((insI_perm x ys).mem_iff.mp hz) with rfl | hz
        · omega
        · exact h'.1 z hz, insI_sorted x ys h'.2⟩
theorem isortI_perm : ∀ xs, (isortI xs).Perm xs
  | [] => List.Perm.refl _
  | x :: xs => (insI_perm x _).trans ((isortI_perm xs).cons x)
theorem isortI_sorted : ∀ xs, (isortI xs).Pairwise (· ≤ ·)
  | [] => List.Pairwise.nil
  | x :: xs => insI_sorted x _ (isortI_sorted xs)
theorem sortI_isort (xs : List Int) : sortI xs = isortI xs := (sortI_eq (isortI_perm xs) (isortI_sorted xs)).symm
def sortD' : List D → R (List D)
  | [.lst xs] => match ints? xs with
    | some ns => .ok ((isortI ns).map D.int)
    | none => .no
  | _ => .no
theorem sortD_kern : sortD = sortD' := by
  have e : sortI = isortI := funext sortI_isort
  funext ds
  unfold sortD
  rw [e]
  rfl
/-! ### what a def answers, looked at -/
/-- nothing, or a word and a number -/
abbrev Er := Option (Str × Int)
def erD : Er → D
  | none => .non
  | some (w, n) => .tup [.str w, .int n]
def strIs (a b : Str) : Bool := decide (a.cps.toList = b.cps.toList)
theorem strIs_eq {a b : Str} (h : strIs a b = true) : a = b := by
  unfold strIs at h
  have h := of_decide_eq_true h
  cases a with | mk a => cases b with | mk b =>
  have : a = b := by
    cases a; cases b
    simp at h
    rw [h]
  rw [this]
/-- the answer is this -/
def vIs : FR → Er → Bool
  | .val .non, none => true
  | .val (.tup [.str w, .int n]), some (w', n') => strIs w w' && decide (n = n')
  | _, _ => false
theorem vIs_eq : ∀ {r : FR} {e : Er}, vIs r e = true → r = .val (erD e)
  | .val .non, none, _ => rfl
  | .val (.tup [.str w, .int n]), some (w', n'), h => by
    simp only [vIs, Bool.and_eq_true, decide_eq_true_eq] at h
    rw [strIs_eq h.1, h.2]; rfl
/-- it raises this, or answers something -/
def xIs : FR → Option (Str × Int) → Bool
  | .val _, none => true
  | .ol _, none => true
  | .exc c n, some (c', n') => strIs c c' && decide (n = n')
  | _, _ => false
def bIs : FR → Bool → Bool
  | .val (.bl b), b' => b == b'
  | _, _ => false
theorem bIs_eq : ∀ {r : FR} {b : Bool}, bIs r b = true → r = .val (.bl b)
  | .val (.bl b), b', h => by
    simp only [bIs, beq_iff_eq] at h
    rw [h]
theorem all_of {α : Type} {p : α → Bool} {xs : List α} (h : xs.all p = true) : ∀ x ∈ xs, p x = true := List.all_eq_true.mp h
end DV

namespace DV
open PySem L2 PySem.Spec PyProof.Rows
/-! ### a or b, a any value -/
def tOrG (K : PySem.W.Frag) (ta tb : TE) : TE := fun σ H Q => ta σ H fun x H1 => ∃ k, TruV K x H1 k ∧ if k = true then Q x H1 else tb σ H1 Q
theorem pe_orG {X : Cx} {a b : Expr} {rest : List Expr} {pos : Pos} {ta tb : TE} (ha : PE X a ta) (hb : PE X (.BoolOp .Or (b :: rest) pos) tb) : PE X (.BoolOp .Or (a :: b :: rest) pos) (tOrG X.K ta tb) := by
  refine ⟨fun pins s σ H Q I h => ?_⟩
  refine BoolOp_or (thn (ha.run pins s σ H _ I h) fun v s1 ⟨x, H1, I1, r1, q1⟩ => ?_)
  obtain ⟨k, e, q1⟩ := q1
  refine thn (tru_ok pins s1 σ H1 x v (fun c H2 => if c = true then Q x H2 else tb σ H2 Q) I1 r1 ⟨k, e, q1⟩) fun c s2 ⟨H2, I2, q2⟩ => ?_
  cases c with
  | false => exact hb.run pins s2 σ H2 Q I2 q2
  | true => exact ⟨x, H2, I2, r1, q2⟩
/-- the truth of a value -/
def truD : D → Option Bool
  | .non => some false
  | .bl b => some b
  | .int i => some (i != 0)
  | .lst xs => some (!xs.isEmpty)
  | .tup xs => some (!xs.isEmpty)
  | _ => none
@[simp] theorem truD_non : truD .non = some false := Eq.trans rfl rfl
@[simp] theorem truD_bl (b : Bool) : truD (.bl b) = some b := Eq.trans rfl rfl
@[simp] theorem truD_int (i : Int) : truD (.int i) = some (i != 0) := Eq.trans rfl rfl
@[simp] theorem truD_lst (xs : List D) : truD (.lst xs) = some (!xs.isEmpty) := Eq.trans rfl rfl
@[simp] theorem truD_tup (xs : List D) : truD (.tup xs) = some (!xs.isEmpty) := Eq.trans rfl rfl
def orGk (g : R D) (x : D) : R D := match truD x with
  | some true => .ok x
  | some false => g
  | none => .no
def eOrG (f g : Env → R D) : Env → R D := fun s => (f s).bind fun x => orGk (g s) x
@[simp] theorem eOrG_ap (f g : Env → R D) (s : Env) : eOrG f g s = (f s).bind fun x => orGk (g s) x := Eq.trans rfl rfl
theorem truD_is {K : PySem.W.Frag} {O : Addr → Prop} {H : Hp} {m : Bool} {x : D} {v : V} {k : Bool} (e : truD x = some k) (r : RepM K O H m x v) : TruV K v H k := by
  cases x with
  | non => rw [repNon] at r; subst r; cases e; exact rfl
  | bl b => rw [repBl] at r; subst r; cases e; exact rfl
  | int i => rw [repInt] at r; subst r; cases e; exact rfl
  | lst xs =>
    obtain ⟨a, vs, rfl, h1, h2⟩ := repLst r
    cases e
    refine .inl ⟨vs, .of h1, ?_⟩
    have := h2.length
    cases xs <;> cases vs <;> simp_all
  | tup xs =>
    rw [repTup] at r
    obtain ⟨a, vs, rfl, h1, h2⟩ := r
    cases e
    refine .inr (.inl ⟨vs, h1, ?_⟩)
    have := h2.length
    cases xs <;> cases vs <;> simp_all
  | _ => cases e
section
variable {X : Cx} {W : WX} {m : Bool} {a b : Expr} {f g : Env → R D} {pos : Pos}
theorem de_orG {rest : List Expr} (ha : DE X W m a f) (hb : DE X W m (.BoolOp .Or (b :: rest) pos) g) : DE X W m (.BoolOp .Or (a :: b :: rest) pos) (eOrG f g) := PE.imp (pe_orG ha hb) fun σ H Q ⟨env, O, rs, q⟩ => by
  refine fin1 rs q fun x v H1 _ s1 rx rs1 q1 => ?_
  unfold orGk at q1
  split at q1
  · rename_i e
    exact ⟨true, truD_is e rx, by rw [if_pos rfl]; exact q1 v H1 (Same.refl _) rx⟩
  · rename_i e
    exact ⟨false, truD_is e rx, by rw [if_neg Bool.false_ne_true]; exact ⟨env, O, rs1, q1⟩⟩
  · exact q1.elim
end
end DV

namespace DV
open PySem L2 PySem.Spec PyProof.Rows
/-! ### sorted(set(xs)), xs a list of fewer than 64 ints -/
section
variable {P : Program} {w : World} {A : Around} {E : Value → Shared → Prop} {s : Shared}
set_option maxRecDepth 100000 in
set_option maxHeartbeats 3200000 in
theorem set_of_list {l : Addr} {items : Array Value} (ns : List Int) {Q : Value → Shared → Prop} (hh : A.handled = none) (hl : s.heap.IsList l items) (hit : IntsAre items.toList ns) (hb : ns.length + 1 < scanBound)
    (h : ∀ (h' : Heap) (tk c : Nat), SetR w h' s.heap.objs.size (fun j => decide (j ∈ ns)) c → c ≤ ns.length → (∀ b o, s.heap.get? b = some o → h'.get? b = some o) → Q (.ref s.heap.objs.size) { s with heap := h', toks := tk }) :
    wpAny (model P w) A (call (.type "set") [.ref l]) Q E s := by
  have hisz : items.size = ns.length := by
    have q := IntsAre.length hit
    rw [Array.length_toList] at q
    exact q
  obtain ⟨c, tl, hmro⟩ := F.called_set.mro
  have hmade := F.called_set.made
  have hsub := F.called_set.sub
  refine wpAny_call (codeAny_of_tree ?_)
  show wpAny _ _ (callAny (.type "set") _) _ _ _
  refine wpAny_pure ⟨Code.quiet_builtin _ (by decide +kernel), codeAny_builtin F.entry_type_call ?_⟩
  rw [Around.under_plain (weight_type_call_type "set" [.ref l] []) rfl]
  have h1 := F.called_set.notType
  have h2 := F.called_set.canCreate
  have hct := F.typeCall_set_1 (.ref l)
  repeat (any_goals (first | assumption | wp_step))

  refine codeAny_mono (code_set_led1 (.ref l) (E := E) (Q₁ := fun obj s₁ => obj = .ref s.heap.objs.size ∧ s₁ = { s with heap := s.heap.push { cls := .type "set", dict := none, data := .set #[] 0 (.fresh 0 0 (!w.params.followText "set-order")) } }) ⟨rfl, rfl⟩) fun r s₁ hr => ?_
  cases r with
  | error e => exact hr
  | ok fl =>
    cases fl with
    | ret obj =>
      obtain ⟨rfl, rfl⟩ := hr
      have hS : (s.heap.push { cls := .type "set", dict := none, data := .set #[] 0 (.fresh 0 0 (!w.params.followText "set-order")) }).get? s.heap.objs.size = some { cls := .type "set", dict := none, data := .set #[] 0 (.fresh 0 0 (!w.params.followText "set-order")) } := Heap.get?_push_size _ rfl
      have hT : Shared.TypeIs { s with heap := s.heap.push { cls := .type "set", dict := none, data := .set #[] 0 (.fresh 0 0 (!w.params.followText "set-order")) } } (.ref s.heap.objs.size) "set" := ⟨_, hS, rfl⟩
      have hli := F.called_set.init.lookup
      have hbi := F.called_set.init.bind (.ref s.heap.objs.size)
      repeat (any_goals (first | assumption | wp_step))

      refine codeAny_mono (codeAny_call_builtin (R := wants (fun r s₂ => r = .none ∧ ∃ h' tk c, s₂ = { s with heap := h', toks := tk } ∧ SetR w h' s.heap.objs.size (fun j => decide (j ∈ ns)) c ∧ c ≤ ns.length ∧
          (∀ b o, s.heap.get? b = some o → h'.get? b = some o)) E) F.called_set.init.plain F.entry_set_init (check_set_init_1 hT ?_)) fun r₂ s₂ hr₂ => ?_
      · obtain ⟨ol, hol, hcl, nl, hdl⟩ := hl
        obtain ⟨ocls, odict, odata, oslots⟩ := ol
        simp only at hcl hdl
        subst hcl; subst hdl
        have hol' : (s.heap.push { cls := .type "set", dict := none, data := .set #[] 0 (.fresh 0 0 (!w.params.followText "set-order")) }).get? l = some { cls := .type "list", dict := odict, data := .seq items nl, slots := oslots } := Heap.get?_push_of_some _ hol
        have hsls := F.sub_list_set
        have hslf := F.sub_list_frozenset
        have hne : (Value.type "list" == Value.type "dict") = false := by decide
        have hl1 : (s.heap.push { cls := .type "set", dict := none, data := .set #[] 0 (.fresh 0 0 (!w.params.followText "set-order")) }).IsList l items := ⟨_, hol', rfl, nl, rfl⟩
        unfold Builtin.«set.__init__» noKeywords Builtin.Frozenset.updateFrom
        generalize hPI : pyIter = PI
        wp_walk
        subst hPI

        refine wpAny_pyIter_list hl1 ?_
        refine wpAny_bind (wpAny_runValue ?_)
        have hlS : l < s.heap.objs.size := Heap.lt_size hol
        have hh3 : A.in1.in1.in1.handled = none := by simp [hh]
        have hz1 : (s.heap.push { cls := .type "set", dict := none, data := .set #[] 0 (.fresh 0 0 (!w.params.followText "set-order")) }).objs.size = s.heap.objs.size + 1 := Heap.size_push ..
        have hneI : l ≠ (s.heap.push { cls := .type "set", dict := none, data := .set #[] 0 (.fresh 0 0 (!w.params.followText "set-order")) }).objs.size := by
          rw [Heap.size_push]; exact Nat.ne_of_lt (Nat.lt_succ_of_lt hlS)
        have hSf : s.heap.objs.size ∉ [(s.heap.push { cls := .type "set", dict := none, data := .set #[] 0 (.fresh 0 0 (!w.params.followText "set-order")) }).objs.size, l] := by
          rw [Heap.size_push]; simp only [List.mem_cons, List.mem_singleton, List.not_mem_nil, or_false, not_or]
          exact ⟨Nat.ne_of_lt (Nat.lt_succ_self _), Nat.ne_of_gt hlS⟩
        have hval : ∀ (i : Nat) (v : Value), items[i]? = some v → ∃ k t, ns[i]? = some k ∧ v = .int k t := fun i v hv => by
          have hi : i < ns.length := by rw [← hisz]; exact (Array.getElem?_eq_some_iff.mp hv).1
          obtain ⟨t, e⟩ := PyProof.Rows.IntsAre.int_at hit i v (by rw [Array.getElem?_toList]; exact hv)
          refine ⟨ns[i], t, List.getElem?_eq_getElem hi, ?_⟩
          rw [e, List.getD_eq_getElem?_getD, List.getElem?_eq_getElem hi] <;> rfl
        refine set_update_ints ((Walks.list hh3 _ l hneI items).toS) s.heap.objs.size
          hSf ns hisz hb hval (items.size - 0) 0 _ (by omega) (Nat.zero_le _)
          ⟨⟨_, Heap.get?_push_size _ rfl, rfl, rfl⟩, (hl1.push _)⟩ ?hS0 ?hR
        case hS0 =>
          have hget : ((s.heap.push { cls := .type "set", dict := none, data := .set #[] 0 (.fresh 0 0 (!w.params.followText "set-order")) }).push { cls := .type "list_iterator", data := .fields #[.ref l, .int 0 0] }).get? s.heap.objs.size
              = some { cls := .type "set", dict := none, data := .set #[] 0 (.fresh 0 0 (!w.params.followText "set-order")) } := Heap.get?_push_of_some _ hS
          exact ⟨0, Nat.le_refl 0, setR_new_at hget⟩
        case hR =>
          intro s' c' hm hc' hS'
          obtain ⟨h', g2, d', tk', os'⟩ := s'
          have eg : g2 = s.gens := hm.gens
          have ed : d' = s.drawn := hm.drawn
          have eo : os' = s.os := hm.os
          subst eg; subst ed; subst eo
          show wpAny _ _ _ _ _ _
          refine wpAny_pure ?_
          show wpAny _ _ (ret Value.none) _ _ _
          rw [hisz] at hc'
          refine wpAny_pure ⟨rfl, h', tk', c', rfl, hS', hc', fun b o e => ?_⟩
          have hb0 : b < s.heap.objs.size := Heap.lt_size e
          have hb1 : b ≠ s.heap.objs.size := Nat.ne_of_lt hb0
          have hb2 : b ≠ (s.heap.push { cls := .type "set", dict := none, data := .set #[] 0 (.fresh 0 0 (!w.params.followText "set-order")) }).objs.size := by
            rw [Heap.size_push]; exact Nat.ne_of_lt (Nat.lt_succ_of_lt hb0)
          exact hm.heap b o (by simp only [List.mem_cons, List.mem_singleton, List.not_mem_nil, or_false, not_or]; exact ⟨hb1, hb2⟩) (Heap.get?_push_of_some _ (Heap.get?_push_of_some _ e))

      · cases r₂ with
        | error e => exact hr₂
        | ok fl₂ =>
          cases fl₂ with
          | ret r =>
            obtain ⟨rfl, h', tk, c', rfl, hS', hc', hk'⟩ := hr₂
            repeat (any_goals (first | assumption | wp_step))
            exact h _ _ _ hS' hc' hk'
          | _ => exact hr₂.elim
    | _ => exact hr.elim

end
end DV

namespace DV
open PySem L2 PySem.Spec PyProof.Rows
def tSortSet (K : PySem.W.Frag) (ta : TE) : TE := fun σ H Q => ta σ H fun x H1 => ∃ (l : Addr) (ns : List Int), x = .ref l ∧ SqL K H1 l (ns.map V.int) ∧ ns.length < 64 ∧
  ∀ (ms : List Int) (p : Addr), ms.Pairwise (· < ·) → (∀ k, k ∈ ms ↔ k ∈ ns) → H1 p = none → Q (.ref p) (upd H1 p (.lst (ms.map V.int)))
theorem pe_sortSet {X : Cx} {a : Expr} {ta : TE} {p p2 q pos : Pos} (hc : X.calm = true) (hg : Gl X "sorted") (hm : X.mg "sorted" = none) (hg2 : Gl X "set") (hm2 : X.mg "set" = none) (ha : PE X a ta)
    (na : starEach [a] X.env = (false, eval a X.env) :: starEach [] X.env := by rfl) : PE X (.Call (.Name "sorted" p) [.Call (.Name "set" p2) [a] [] q] [] pos) (tSortSet X.K ta) := by
  constructor
  intro pins s σ H Q I h
  have inner : wpAny (model X.prog X.w) X.A (eval (.Call (.Name "set" p2) [a] [] q) X.env) (fun u s2 => ∃ (b : Addr) (ns : List Int) (c : Nat) (H1 : Hp), u = .ref b ∧ Inv X pins σ H1 s2 ∧ SetR X.w s2.heap b (fun j => decide (j ∈ ns)) c ∧ c < 64 ∧
      ∀ (ms : List Int) (p : Addr), ms.Pairwise (· < ·) → (∀ k, k ∈ ms ↔ k ∈ ns) → H1 p = none → Q (.ref p) (upd H1 p (.lst (ms.map V.int)))) X.xe s := by
    refine Call_ (ld_blt I hg2 hm2 boot_set (PyProof.Rows.callWith_type1 (PyProof.Rows.args_cons (thn (ha.run pins s σ H _ I h) fun v s1 y => PyProof.Rows.args_nil ?_) na) na rfl))
    obtain ⟨x, H1, I1, r1, l, ns, rfl, hq, hl, q1⟩ := y
    cases r1
    obtain ⟨its, r, pl, hz⟩ := I1.list hq
    have hia : PyProof.Rows.IntsAre its.toArray.toList ns := by simpa using RZ.intsAre_vals r
    exact set_of_list ns (I1.ok.hd hc) pl.isList hia (by unfold scanBound; omega) fun h' tk c hS hc' hk => ⟨_, ns, c, H1, rfl, I1.kept hk, hS, by omega, q1⟩
  have ni : starEach [Expr.Call (.Name "set" p2) [a] [] q] X.env = (false, eval (.Call (.Name "set" p2) [a] [] q) X.env) :: starEach [] X.env := rfl
  refine Call_ (ld_blt I hg hm boot_sorted (PyProof.Rows.callWith_builtin1 (PyProof.Rows.args_cons (thn inner fun v s1 y => PyProof.Rows.args_nil ?_) ni) ni rfl))
  obtain ⟨b, ns, c, H1, rfl, I1, hS, hlt, q1⟩ := y
  refine sorted_set hS (I1.ok.hd hc) hlt fun s' p out c ms k g o hp hg hi hs hm hl => ?_
  have hlen : (ms.map V.int).length ≤ sizeLine := by rw [List.length_map, hl, sizeLine_eq]; omega
  have hn : H1 p = none := I1.hok.fresh hp
  have J : Inv X pins σ (upd H1 p (.lst (ms.map V.int))) { s1 with heap := s'.heap, gens := s'.gens, drawn := s'.drawn, toks := s'.toks } :=
    I1.call (ch := []) (Un.laid k hp hn) (I1.hok.laid k hp ⟨hlen, out.toList, c, vals_of_ints hi, hg⟩) (by rw [g]; exact I1.bare) (fun _ z => nomatch z)
  have e : s' = { s1 with heap := s'.heap, gens := s'.gens, drawn := s'.drawn, toks := s'.toks } := by
    cases s'
    cases s1
    cases o
    rfl
  rw [e]
  exact ⟨.ref p, _, J, rfl, q1 ms p hs (fun j => by rw [hm j]; simp) hn⟩
/-- the ints of a list, each once, from the least on -/
def uniqI (ns : List Int) : List Int := (isortI ns).foldr (fun x ys => if ys.head? = some x then ys else x :: ys) []
theorem uniq_go : ∀ ns : List Int, ns.Pairwise (· ≤ ·) → (ns.foldr (fun x ys => if ys.head? = some x then ys else x :: ys) []).Pairwise (· < ·) ∧ ∀ k, k ∈ ns.foldr (fun x ys => if ys.head? = some x then ys else x :: ys) [] ↔ k ∈ ns
  | [], _ => ⟨List.Pairwise.nil, fun k => Iff.rfl⟩
  | x :: xs, h => by
    obtain ⟨h1, h2⟩ := List.pairwise_cons.mp h
    obtain ⟨i1, i2⟩ := uniq_go xs h2
    rw [List.foldr_cons]
    generalize xs.foldr (fun x ys => if ys.head? = some x then ys else x :: ys) [] = ys at i1 i2 ⊢
    by_cases e : ys.head? = some x
    · rw [if_pos e]
      have hx : x ∈ ys := List.mem_of_mem_head? (by rw [e]; rfl)
      refine ⟨i1, fun k => ?_⟩
      rw [i2 k, List.mem_cons]
      refine ⟨fun z => .inr z, fun z => ?_⟩
      rcases z with rfl | z
      · exact (i2 _).mp hx
      · exact z
    · rw [if_neg e]
      refine ⟨List.pairwise_cons.mpr ⟨fun y hy => ?_, i1⟩, fun k => ?_⟩
      · have hle := h1 y ((i2 y).mp hy)
        cases ys with
        | nil => cases hy
        | cons z zs =>
          have hz := h1 z ((i2 z).mp List.mem_cons_self)
          have hne : z ≠ x := fun q => e (by rw [q]; rfl)
          rcases List.mem_cons.mp hy with rfl | hy
          · omega
          · have := (List.pairwise_cons.mp i1).1 y hy
            omega
      · rw [List.mem_cons, List.mem_cons, i2 k]
theorem uniqI_ok (ns : List Int) : (uniqI ns).Pairwise (· < ·) ∧ ∀ k, k ∈ uniqI ns ↔ k ∈ ns := by
  obtain ⟨h1, h2⟩ := uniq_go (isortI ns) (isortI_sorted ns)
  exact ⟨h1, fun k => (h2 k).trans (isortI_perm ns).mem_iff⟩
theorem asc_uniq : ∀ {a b : List Int}, a.Pairwise (· < ·) → b.Pairwise (· < ·) → (∀ k, k ∈ a ↔ k ∈ b) → a = b := fun {a b} ha hb h =>
  PySem.W.ksm_same ((List.perm_ext_iff_of_nodup (nodup_of_asc ha) (nodup_of_asc hb)).mpr h) (ha.imp fun h => Int.le_of_lt h) (hb.imp fun h => Int.le_of_lt h)
def sortSetK : D → R (List D)
  | .lst xs => match ints? xs with
    | some ns => if ns.length < 64 then .ok ((uniqI ns).map D.int) else .no
    | none => .no
  | _ => .no
def nSortSet (f : Env → R D) : Env → R (List D) := fun s => (f s).bind sortSetK
theorem dn_sortSet {X : Cx} {W : WX} {a : Expr} {f : Env → R D} {p p2 q pos : Pos} (hc : X.calm = true) (hg : Gl X "sorted") (hm : X.mg "sorted" = none) (hg2 : Gl X "set") (hm2 : X.mg "set" = none) (ha : DE X W true a f)
    (na : starEach [a] X.env = (false, eval a X.env) :: starEach [] X.env := by rfl) : DN X W (.Call (.Name "sorted" p) [.Call (.Name "set" p2) [a] [] q] [] pos) (nSortSet f) :=
  PE.imp (pe_sortSet hc hg hm hg2 hm2 ha na) fun σ H Q ⟨env, O, rs, q⟩ => by
    refine ⟨env, O, rs, ?_⟩
    unfold nSortSet at q
    revert q
    cases f env with
    | exc c n => exact fun q => q
    | no => exact fun q => q
    | ok d =>
      intro q v H1 s1 rv
      rw [R.bind_ok] at q
      cases d with
      | lst xs =>
        simp only [sortSetK] at q
        cases e : ints? xs with
        | none => rw [e] at q; exact q.elim
        | some ns =>
          rw [e] at q
          dsimp only at q
          split at q
          · rename_i hl
            obtain ⟨l, vs, rfl, hs, hr⟩ := repLst rv
            rw [ints?_eq e] at hr
            have := repInts hr
            subst this
            refine ⟨l, ns, rfl, .of hs, hl, fun ms p hms hk hn => ?_⟩
            have : ms = uniqI ns := asc_uniq hms (uniqI_ok ns).1 fun k => (hk k).trans ((uniqI_ok ns).2 k).symm
            subst this
            exact q p _ _ (s1.trans (Same.new' hn)) (Same.back s1 hn) upd_same (RepDs.ofInts _)
          · exact q.elim
      | _ => exact q.elim
@[simp] theorem nSortSet_ap (f : Env → R D) (s : Env) : nSortSet f s = (f s).bind sortSetK := Eq.trans rfl rfl
end DV

namespace DV
open PySem L2 PySem.Spec PyProof.Rows
/-! ### dicts as data -/
def keyD : D → Option Key
  | .int i => some (.inl i)
  | .str x => some (.inr x)
  | _ => none
def kD : Key → D
  | .inl i => .int i
  | .inr x => .str x
def valD (kvs : List (Key × D)) (k : Key) : Option D := (kvs.find? fun kv => decide (kv.1 = k)).map (·.2)
def putD (kvs : List (Key × D)) (k : Key) (v : D) : List (Key × D) :=
  if (kvs.any fun kv => decide (kv.1 = k)) = true then kvs.map (fun kv => if kv.1 = k then (kv.1, v) else kv) else kvs ++ [(k, v)]
section
variable {K : PySem.W.Frag} {O : Addr → Prop} {H : Hp} {m : Bool}
theorem keyD_is {x : D} {k : Key} {v : V} (e : keyD x = some k) (r : RepM K O H m x v) : v = kV k := by
  cases x with
  | int i => rw [repInt] at r; cases e; exact r
  | str i => rw [repStr] at r; cases e; exact r
  | _ => cases e
theorem kD_rep (k : Key) : RepD K O H (kD k) (kV k) := by cases k <;> simp [kD, kV, RepD]
theorem RepKs.val : ∀ {ds : List (Key × D)} {vs : List (Key × V)} {k : Key} {d : D}, RepKs K O H ds vs → valD ds k = some d → ∃ v, valV vs k = some v ∧ RepD K O H d v
  | [], vs, k, d, h, e => by cases e
  | (c, x) :: xs, vs, k, d, h, e => by
    simp only [RepKs] at h
    obtain ⟨v, r, rfl, h1, h2⟩ := h
    by_cases q : c = k
    · have e' : x = d := by simpa [valD, List.find?_cons, q] using e
      subst e'
      exact ⟨v, valV_pos q, h1⟩
    · have e' : valD xs k = some d := by simpa [valD, List.find?_cons, q] using e
      obtain ⟨u, e1, r1⟩ := RepKs.val h2 e'
      exact ⟨u, by rw [valV_neg (p := (c, v)) q]; exact e1, r1⟩
theorem RepKs.any : ∀ {ds : List (Key × D)} {vs : List (Key × V)} (k : Key), RepKs K O H ds vs → (ds.any fun kv => decide (kv.1 = k)) = (vs.any fun kv => decide (kv.1 = k))
  | [], vs, k, h => by simp only [RepKs] at h; subst h; rfl
  | (c, x) :: xs, vs, k, h => by
    simp only [RepKs] at h
    obtain ⟨v, r, rfl, h1, h2⟩ := h
    simp only [List.any_cons, RepKs.any k h2]
theorem RepKs.mapk : ∀ {ds : List (Key × D)} {vs : List (Key × V)} {k : Key} {d : D} {v : V}, RepKs K O H ds vs → RepD K O H d v → RepKs K O H (ds.map fun kv => if kv.1 = k then (kv.1, d) else kv) (vs.map fun kv => if kv.1 = k then (kv.1, v) else kv)
  | [], vs, k, d, v, h, _ => by simp only [RepKs] at h; subst h; simp [RepKs]
  | (c, x) :: xs, vs, k, d, v, h, r => by
    simp only [RepKs] at h
    obtain ⟨u, r', rfl, h1, h2⟩ := h
    by_cases q : c = k
    · simp only [List.map_cons, q, if_true, RepKs]
      exact ⟨v, _, rfl, r, RepKs.mapk h2 r⟩
    · simp only [List.map_cons, q, if_false, RepKs]
      exact ⟨u, _, rfl, h1, RepKs.mapk h2 r⟩
theorem RepKs.snoc : ∀ {ds : List (Key × D)} {vs : List (Key × V)} {k : Key} {d : D} {v : V}, RepKs K O H ds vs → RepD K O H d v → RepKs K O H (ds ++ [(k, d)]) (vs ++ [(k, v)])
  | [], vs, k, d, v, h, r => by simp only [RepKs] at h; subst h; simp only [List.nil_append, RepKs]; exact ⟨v, [], rfl, r, rfl⟩
  | (c, x) :: xs, vs, k, d, v, h, r => by
    simp only [RepKs] at h
    obtain ⟨u, r', rfl, h1, h2⟩ := h
    simp only [List.cons_append, RepKs]
    exact ⟨u, _, rfl, h1, RepKs.snoc h2 r⟩
theorem RepKs.put {ds : List (Key × D)} {vs : List (Key × V)} (k : Key) {d : D} {v : V} (h : RepKs K O H ds vs) (r : RepD K O H d v) : RepKs K O H (putD ds k d) (putK vs k v) := by
  unfold putD putK
  rw [h.any k]
  split
  · exact h.mapk r
  · exact h.snoc r
end
theorem putD_len (kvs : List (Key × D)) (k : Key) (v : D) : (putD kvs k v).length ≤ kvs.length + 1 := by
  unfold putD
  split
  · rw [List.length_map]; omega
  · rw [List.length_append]; simp
/-! ### {kx: vx for tg in iter if ..} -/
def dcGo (g : D → Env → R Env) (t : Env → R Bool) (kx vx : Env → R D) (s : Env) : List D → List (Key × D) → R (List (Key × D))
  | [], acc => .ok acc
  | x :: xs, acc => (nx (g x s)).bind fun s1 => (nx (t s1)).bind fun b => if b = true then (nx (kx s1)).bind fun y => (nx (vx s1)).bind fun z => match keyD y with
    | some k => dcGo g t kx vx s xs (putD acc k z)
    | none => .no else dcGo g t kx vx s xs acc
def eDc (it : Env → R (List D)) (g : D → Env → R Env) (t : Env → R Bool) (kx vx : Env → R D) (own : List Nat) : Env → R D := fun s => (it s).bind fun xs => if xs.length ≤ 1000000 then (nx (dcGo g t kx vx (wipeE s own) xs [])).bind fun kvs => .ok (.dct kvs) else .no
section
variable {K : PySem.W.Frag} {mg : Str → Option Value} {W : WX} {m : Bool} {g : D → Env → R Env} {t : Env → R Bool} {kx vx : Env → R D} {own ts : List Nat}
theorem dc_body (hto : ∀ j ∈ ts, j ∈ own) {σ : L2.St} {H1 : Hp} {Dd : Addr} {env : Env} {O : Addr → Prop} {J : It} {xs : List D} {kvs : List (Key × D)} {Q : VK} (rs1 : RepS K O H1 σ env) (hD : H1 Dd = none)
    (hJ : ∀ H2, Same H1 H2 → (∀ a, (O a ∨ a = Dd) → H2 a ≠ none) → ∀ i, (∀ x, xs[i]? = some x → J.go i H2 ∧ ∀ v H', J.yld i H2 v H' → Same H2 H' ∧ RepD K (fun a => O a ∨ a = Dd) H' x v) ∧ (xs.length ≤ i → J.stop i H2))
    (hl : xs.length ≤ 1000000) (er : dcGo g t kx vx (wipeE env own) xs [] = .ok kvs) (q : ∀ H2 vs, Same H1 H2 → H2 Dd = some (.dK vs) → RepKs K (fun a => O a ∨ a = Dd) H2 kvs vs → Q (.ref Dd) H2) :
    ∃ Wm : Nat → Nat → Hp → Prop, (∃ m, Wm 0 m (upd H1 Dd (.dK []))) ∧ ∀ i m H, Wm i m H → (J.stop i H ∧ Q (.ref Dd) H) ∨ (J.go i H ∧ ∃ Nx : Hp → Prop, (∀ H', Nx H' → ∃ m', m' < m ∧ Wm (i + 1) m' H') ∧
      ∀ x H', J.yld i H x H' → tG K ts g x (wipe σ own) H' fun σ2 H2 => wipe σ2 own = wipe σ own ∧ tT K mg W0 t σ2 H2 fun b H3 =>
        if b = true then tD K mg W0 true kx σ2 H3 fun y H4 => tD K mg W0 false vx σ2 H4 fun z H5 => ∃ kvs k, y = kV k ∧ H5 Dd = some (.dK kvs) ∧ kvs.length < sizeLine ∧ Nx (upd H5 Dd (.dK (putK kvs k z))) else Nx H3) := by
  have rs2 : RepS K (fun a => O a ∨ a = Dd) (upd H1 Dd (.dK [])) σ env := rs1.mind hD
  refine ⟨fun i m' H => m' = xs.length - i ∧ i ≤ xs.length ∧ Same H1 H ∧ ∃ acc accv, H Dd = some (.dK accv) ∧ RepKs K (fun a => O a ∨ a = Dd) H acc accv ∧ acc.length ≤ i ∧ dcGo g t kx vx (wipeE env own) (xs.drop i) acc = .ok kvs,
    ⟨xs.length, by simp, Nat.zero_le _, Same.new' hD, [], [], upd_same, by simp [RepKs], Nat.le_refl _, by simpa using er⟩, ?_⟩
  rintro i m' H2 ⟨rfl, hi, s2, acc, accv, hDv, ra, hal, eg⟩
  have tr2 : ∀ a, (O a ∨ a = Dd) → H2 a ≠ none := fun a ha z => by
    rcases ha with ha | ha
    · cases e : H1 a with
      | none => exact rs1.trk a ha e
      | some o => rw [s2 a o e] at z; cases z
    · subst ha; rw [hDv] at z; cases z
  have rsH : RepS K (fun a => O a ∨ a = Dd) H2 σ env := ⟨rs1.len, fun j sv e => let ⟨v, e1, h1⟩ := rs1.get j sv e; ⟨v, e1, (h1.avoid hD).same s2⟩, rs1.inj, tr2⟩
  by_cases hlt : i < xs.length
  · refine .inr ⟨((hJ H2 s2 tr2 i).1 xs[i] (List.getElem?_eq_getElem hlt)).1, fun H' => ∃ m', m' < xs.length - i ∧ (m' = xs.length - (i + 1) ∧ i + 1 ≤ xs.length ∧ Same H1 H' ∧ ∃ acc accv, H' Dd = some (.dK accv) ∧ RepKs K (fun a => O a ∨ a = Dd) H' acc accv ∧ acc.length ≤ i + 1 ∧ dcGo g t kx vx (wipeE env own) (xs.drop (i + 1)) acc = .ok kvs), fun _ z => z, fun v H3 y => ?_⟩
    obtain ⟨s3, rv⟩ := ((hJ H2 s2 tr2 i).1 xs[i] (List.getElem?_eq_getElem hlt)).2 v H3 y
    have ed : xs.drop i = xs[i] :: xs.drop (i + 1) := List.drop_eq_getElem_cons hlt
    rw [ed] at eg
    simp only [dcGo] at eg
    refine ⟨wipeE env own, fun a => O a ∨ a = Dd, xs[i], (rsH.same s3).wipe own, rv, ?_⟩
    cases e1 : g xs[i] (wipeE env own) with
    | exc c n => rw [e1] at eg; cases eg
    | no => rw [e1] at eg; cases eg
    | ok env1 =>
      intro σ2 rs4 kk
      rw [e1, nx_ok, R.bind_ok] at eg
      refine ⟨kept_wipe kk hto, env1, fun a => O a ∨ a = Dd, rs4, ?_⟩
      cases e2 : t env1 with
      | exc c n => rw [e2] at eg; cases eg
      | no => rw [e2] at eg; cases eg
      | ok b =>
        intro H4 s4
        rw [e2, nx_ok, R.bind_ok] at eg
        have s24 : Same H2 H4 := s3.trans s4
        cases b with
        | false =>
          simp only [Bool.false_eq_true, if_false] at eg ⊢
          exact ⟨_, by omega, rfl, hlt, s2.trans s24, acc, accv, s24 _ _ hDv, ra.same s24, by omega, eg⟩
        | true =>
          simp only [if_true] at eg ⊢
          refine ⟨env1, fun a => O a ∨ a = Dd, rs4.same s4, ?_⟩
          cases e3 : kx env1 with
          | exc c n => rw [e3] at eg; cases eg
          | no => rw [e3] at eg; cases eg
          | ok y =>
            intro yv H5 s5 ry
            rw [e3, nx_ok, R.bind_ok] at eg
            refine ⟨env1, fun a => O a ∨ a = Dd, (rs4.same s4).same s5, ?_⟩
            cases e4 : vx env1 with
            | exc c n => rw [e4] at eg; cases eg
            | no => rw [e4] at eg; cases eg
            | ok z =>
              intro zv H6 s6 rz
              rw [e4, nx_ok, R.bind_ok] at eg
              have rz : RepD K (fun a => O a ∨ a = Dd) H6 z zv := rz
              have s26 : Same H2 H6 := (s24.trans s5).trans s6
              cases ek : keyD y with
              | none => rw [ek] at eg; cases eg
              | some k =>
                rw [ek] at eg
                have hk := keyD_is ek ry
                have hD6 : H6 Dd = some (.dK accv) := s26 _ _ hDv
                have ra6 := ra.same s26
                refine ⟨accv, k, hk, hD6, by rw [← ra6.length]; exact lim_lt (by omega), _, by omega, rfl, hlt, DV.Same.put (s2.trans s26) hD, putD acc k z, putK accv k zv, upd_same, ?_, by have := putD_len acc k z; omega, eg⟩
                exact RepKs.keep (Keep.upd (.inr rfl) (by rw [hD6]; exact True.intro)) (fun _ z => z) _ _ (ra6.put k rz)
  · have ei : i = xs.length := by omega
    subst ei
    rw [List.drop_length] at eg
    cases eg
    exact .inl ⟨(hJ H2 s2 tr2 _).2 (Nat.le_refl _), q H2 accv s2 hDv ra⟩
end
section
variable {X : Cx} {W : WX} {m : Bool} {ke ve tg iter : Expr} {ifs : List Expr} {scope : Scope} {own : List (Str × Nat)} {pos : Pos} {it : Env → R (List D)} {g : D → Env → R Env} {t : Env → R Bool} {kx vx : Env → R D} {ts : List Nat}
theorem de_dc (hc : X.calm = true) (hN : X.N.Nodup) (hi : DI X W true tg iter it) (ok : BlkOk X.N X.env.scope scope own)
    (hg : ∀ (s : Shared) (H : Hp) (C : Addr) (cl : List (Str × Addr)) (fp : List Addr), DG (X.blk s H scope (compEnvC scope cl C X.env) fp) tg ts g) (ht : ∀ (s : Shared) (H : Hp) (C : Addr) (cl : List (Str × Addr)) (fp : List Addr), DTs (X.blk s H scope (compEnvC scope cl C X.env) fp) W0 ifs t)
    (hk : ∀ (s : Shared) (H : Hp) (C : Addr) (cl : List (Str × Addr)) (fp : List Addr), DE (X.blk s H scope (compEnvC scope cl C X.env) fp) W0 true ke kx) (he : ∀ (s : Shared) (H : Hp) (C : Addr) (cl : List (Str × Addr)) (fp : List Addr), DE (X.blk s H scope (compEnvC scope cl C X.env) fp) W0 false ve vx)
    (hto : ∀ j ∈ ts, j ∈ own.map (·.2)) (hs : ∀ x, foldedSetIterable iter X.env x = pure x := by intro _; rfl) {os : List Nat} (hos : own.map (·.2) = os := by rfl) :
    DE X W m (.DictComp ke ve [⟨tg, iter, ifs, 0⟩] scope pos) (eDc it g t kx vx os) := hos ▸
  PE.imp (pe_dc (wi := tI X.K X.mg W true it) (g := tG X.K ts g) (tt := tT X.K X.mg W0 t) (tk := tD X.K X.mg W0 true kx) (tv := tD X.K X.mg W0 false vx) hc hN hi ok hg ht hk he hs) fun σ H Q ⟨env, O, rs, q⟩ => by
    unfold eDc at q
    refine ⟨env, O, rs, ?_⟩
    revert q
    cases it env with
    | exc c n => exact fun q => q
    | no => exact fun q => q
    | ok xs =>
      intro q J G H1 s1 hG hJ Dd hD
      have rs1 := rs.same s1
      have q1 := Fin.same s1 q
      rw [R.bind_ok] at q1
      by_cases hz : xs.length ≤ 1000000
      · rw [if_pos hz] at q1
        cases er : dcGo g t kx vx (wipeE env (own.map (·.2))) xs [] with
        | exc c n => rw [er] at q1; exact q1.elim
        | no => rw [er] at q1; exact q1.elim
        | ok kvs =>
          rw [er, nx_ok, R.bind_ok] at q1
          refine dc_body hto rs1 hD (fun H2 s2 tr2 i => hJ _ H2 tr2 (fun p hp => ((hG p hp).avoid hD).same s2) i) hz er fun H2 vs s2 hv hr => ?_
          refine q1 (.ref Dd) H2 s2 (RepM.ofD ?_)
          simp only [RepD]
          exact ⟨Dd, vs, rfl, rs1.nfree hD, .inl hv, RepKs.keep Keep.refl (fun _ z => .inl z) _ _ hr⟩
      · rw [if_neg hz] at q1; exact q1.elim
end
@[simp] theorem eDc_ap (it : Env → R (List D)) (g : D → Env → R Env) (t : Env → R Bool) (kx vx : Env → R D) (own : List Nat) (s : Env) : eDc it g t kx vx own s = (it s).bind fun xs => if xs.length ≤ 1000000 then (nx (dcGo g t kx vx (wipeE s own) xs [])).bind fun kvs => .ok (.dct kvs) else .no := Eq.trans rfl rfl
/-! ### d[k] -/
def dgetD : D → D → R D
  | .dct kvs, y => match keyD y with
    | some k => (match valD kvs k with
      | some d => .ok d
      | none => .no)
    | none => .no
  | _, _ => .no
theorem dgetD_nx : ∀ x y c n, dgetD x y ≠ .exc c n := fun x y c n => by unfold dgetD; split <;> (try split) <;> (try split) <;> simp
section
variable {X : Cx} {W : WX} {m : Bool} {a b : Expr} {f g : Env → R D} {pos : Pos}
theorem de_dget (hu : X.A.units + 1 < cLine) (ha : DE X W true a f) (hb : DE X W true b g) (hs : NoSl b := by intro _ _; rfl) : DE X W m (.Subscript a b pos) (e2 dgetD f g) := PE.imp (pe_dget hu ha hb hs) fun σ H Q ⟨env, O, rs, q⟩ => by
  refine fin1 rs q fun x v H1 _ s1 rx rs1 q1 => ?_
  refine fin1 rs1 q1 fun y w H2 _ s2 ry rs2 q2 => ?_
  have rx := rx.same s2
  unfold dgetD at q2
  split at q2
  · rename_i kvs
    split at q2
    · rename_i k ek
      split at q2
      · rename_i d ed
        obtain ⟨a, vs, rfl, h1, h2⟩ := repDct rx
        obtain ⟨u, e1, r1⟩ := h2.val ed
        exact ⟨a, u, rfl, .inl ⟨vs, k, h1, keyD_is ek ry, e1.symm⟩, q2.val r1⟩
      · exact q2.elim
    · exact q2.elim
  · exact q2.elim
end
end DV

namespace DV
open PySem L2 PySem.Spec PyProof.Rows
/-! ### a dict is locked and unlocked -/
structure Dk (d : Addr) (vs0 : List (Key × V)) (H H' : Hp) : Prop where
  off : ∀ a, a ≠ d → H' a = H a
  l : Rd H d (.dK vs0)
  r : Rd H' d (.dK vs0)
section
variable {K : PySem.W.Frag} {O : Addr → Prop} {H H' : Hp} {d : Addr} {vs0 : List (Key × V)}
theorem Dk.ne {a : Addr} {u : HO} (k : Dk d vs0 H H') (e : H a = some u) (n1 : ∀ vs, u ≠ .dK vs) (n2 : ∀ o vs, u ≠ .frz o (.dK vs)) : a ≠ d := fun z => by
  subst z
  rcases k.l with h | ⟨o, h⟩
  · rw [h] at e; cases e; exact n1 _ rfl
  · rw [h] at e; cases e; exact n2 _ _ rfl
theorem Dk.keep {a : Addr} {u : HO} (k : Dk d vs0 H H') (e : H a = some u) (n1 : ∀ vs, u ≠ .dK vs) (n2 : ∀ o vs, u ≠ .frz o (.dK vs)) : H' a = some u := (k.off a (k.ne e n1 n2)).trans e
theorem Dk.rd {a : Addr} {vs : List (Key × V)} (k : Dk d vs0 H H') (h : Rd H a (.dK vs)) : Rd H' a (.dK vs) := by
  by_cases z : a = d
  · subst z
    have : vs = vs0 := by
      rcases h with h | ⟨o, h⟩ <;> rcases k.l with q | ⟨o', q⟩ <;> rw [q] at h <;> cases h <;> rfl
    subst this
    exact k.r
  · rcases h with h | ⟨o, h⟩
    · exact .inl ((k.off a z).trans h)
    · exact .inr ⟨o, (k.off a z).trans h⟩
mutual
theorem RepD.dk (k : Dk d vs0 H H') : ∀ (x : D) (v : V), RepD K O H x v → RepD K O H' x v
  | .non, _, h => h
  | .bl _, _, h => h
  | .int _, _, h => h
  | .str _, _, h => h
  | .lst xs, v, h => by
    simp only [RepD] at h ⊢
    obtain ⟨a, vs, e, ho, hs, hr⟩ := h
    exact ⟨a, vs, e, ho, k.keep hs (fun _ z => nomatch z) (fun _ _ z => nomatch z), RepDs.dk k xs vs hr⟩
  | .tup xs, v, h => by
    simp only [RepD] at h ⊢
    obtain ⟨a, vs, e, hs, hr⟩ := h
    refine ⟨a, vs, e, ?_, RepDs.dk k xs vs hr⟩
    rcases hs with (hs | ⟨o, hs⟩) | hs
    · exact .inl (.inl (k.keep hs (fun _ z => nomatch z) (fun _ _ z => nomatch z)))
    · exact .inl (.inr ⟨o, k.keep hs (fun _ z => nomatch z) (fun _ _ z => nomatch z)⟩)
    · exact .inr hs
  | .dct kvs, v, h => by
    simp only [RepD] at h ⊢
    obtain ⟨a, vs, e, ho, hs, hr⟩ := h
    exact ⟨a, vs, e, ho, k.rd hs, RepKs.dk k kvs vs hr⟩
  | .scr ns, v, h => by
    simp only [RepD] at h ⊢
    obtain ⟨a, e, hs⟩ := h
    refine ⟨a, e, ?_⟩
    rcases hs with ⟨o, hs⟩ | hs
    · exact .inl ⟨o, k.keep hs (fun _ z => nomatch z) (fun _ _ z => nomatch z)⟩
    · exact .inr hs
theorem RepDs.dk (k : Dk d vs0 H H') : ∀ (xs : List D) (vs : List V), RepDs K O H xs vs → RepDs K O H' xs vs
  | [], _, h => by simp only [RepDs] at h ⊢; exact h
  | x :: xs, vs, h => by
    simp only [RepDs] at h ⊢
    obtain ⟨v, r, e, h1, h2⟩ := h
    exact ⟨v, r, e, RepD.dk k x v h1, RepDs.dk k xs r h2⟩
theorem RepKs.dk (k : Dk d vs0 H H') : ∀ (xs : List (Key × D)) (vs : List (Key × V)), RepKs K O H xs vs → RepKs K O H' xs vs
  | [], _, h => by simp only [RepKs] at h ⊢; exact h
  | (c, x) :: xs, vs, h => by
    simp only [RepKs] at h ⊢
    obtain ⟨v, r, e, h1, h2⟩ := h
    exact ⟨v, r, e, RepD.dk k x v h1, RepKs.dk k xs r h2⟩
end
theorem RepV.dk {sv : SV} {v : V} (k : Dk d vs0 H H') (ho : ¬ O d) (h : RepV K O H sv v) : RepV K O H' sv v := by
  cases sv with
  | d x => exact RepD.dk k x v h
  | ol xs =>
    obtain ⟨a, vs, e, h0, h1, h2⟩ := h
    exact ⟨a, vs, e, h0, k.keep h1 (fun _ z => nomatch z) (fun _ _ z => nomatch z), RepDs.dk k _ _ h2⟩
  | od xs =>
    obtain ⟨a, vs, e, h0, h1, h2⟩ := h
    exact ⟨a, vs, e, h0, (k.off a fun z => ho (z ▸ h0)).trans h1, RepKs.dk k _ _ h2⟩
  | ex a dx n => exact ⟨h.1, k.keep h.2 (fun _ z => nomatch z) (fun _ _ z => nomatch z)⟩
  | op w => exact h
theorem RepS.dk {σ : L2.St} {env : Env} (k : Dk d vs0 H H') (ho : ¬ O d) (h : RepS K O H σ env) : RepS K O H' σ env :=
  ⟨h.len, fun i sv e => let ⟨v, e1, r⟩ := h.get i sv e; ⟨v, e1, r.dk k ho⟩, h.inj, fun a oa z => by
    have hne : a ≠ d := fun q => ho (q ▸ oa)
    rw [k.off a hne] at z
    exact h.trk a oa z⟩
end
/-- the keys of the dict in slot i -/
def keysE (i : Nat) : Env → R (List D) := fun s => match s[i]? with
  | some (some (.d (.dct kvs))) => .ok (kvs.map fun kv => kD kv.1)
  | _ => .no
section
variable {X : Cx} {W : WX} {m : Bool} {ke ve tg : Expr} {x : Str} {p : Pos} {i : Nat} {ifs : List Expr} {scope : Scope} {own : List (Str × Nat)} {pos : Pos} {g : D → Env → R Env} {t : Env → R Bool} {kx vx : Env → R D} {ts : List Nat}
theorem de_dcK (hc : X.calm = true) (hN : X.N.Nodup) (hv : PE X (.Name x p) (tVar i)) (ok : BlkOk X.N X.env.scope scope own)
    (hg : ∀ (s : Shared) (H : Hp) (C : Addr) (cl : List (Str × Addr)) (fp : List Addr), DG (X.blk s H scope (compEnvC scope cl C X.env) fp) tg ts g) (ht : ∀ (s : Shared) (H : Hp) (C : Addr) (cl : List (Str × Addr)) (fp : List Addr), DTs (X.blk s H scope (compEnvC scope cl C X.env) fp) W0 ifs t)
    (hk : ∀ (s : Shared) (H : Hp) (C : Addr) (cl : List (Str × Addr)) (fp : List Addr), DE (X.blk s H scope (compEnvC scope cl C X.env) fp) W0 true ke kx) (he : ∀ (s : Shared) (H : Hp) (C : Addr) (cl : List (Str × Addr)) (fp : List Addr), DE (X.blk s H scope (compEnvC scope cl C X.env) fp) W0 false ve vx)
    (hto : ∀ j ∈ ts, j ∈ own.map (·.2)) (hs : ∀ y, foldedSetIterable (.Name x p) X.env y = pure y := by intro _; rfl) {os : List Nat} (hos : own.map (·.2) = os := by rfl) :
    DE X W m (.DictComp ke ve [⟨tg, .Name x p, ifs, 0⟩] scope pos) (eDc (keysE i) g t kx vx os) := hos ▸ by
  have base := pe_dc (pos := pos) (kx := ke) (vx := ve) (wi := iKeys (tVar i)) (g := tG X.K ts g) (tt := tT X.K X.mg W0 t) (tk := tD X.K X.mg W0 true kx) (tv := tD X.K X.mg W0 false vx) hc hN (pi_keys hv) ok hg ht hk he hs
  have lock := pe_lock base
  refine PE.imp (t := fun σ H Q => tDc (iKeys (tVar i)) (tG X.K ts g) (tT X.K X.mg W0 t) (tD X.K X.mg W0 true kx) (tD X.K X.mg W0 false vx) (own.map (·.2)) σ H Q ∨ tLockE (tDc (iKeys (tVar i)) (tG X.K ts g) (tT X.K X.mg W0 t) (tD X.K X.mg W0 true kx) (tD X.K X.mg W0 false vx) (own.map (·.2))) σ H Q) ⟨fun pins s σ H Q I h => ?_⟩ fun σ H Q ⟨env, O, rs, q⟩ => ?_
  · rcases h with h | h
    · exact base.run pins s σ H Q I h
    · exact lock.run pins s σ H Q I h
  · unfold eDc keysE at q
    cases es : env[i]? with
    | none => rw [es] at q; exact q.elim
    | some so =>
      cases so with
      | none => rw [es] at q; exact q.elim
      | some sv =>
        rw [es] at q
        cases sv with
        | d y =>
          cases y with
          | dct kvs0 =>
            dsimp only at q
            rw [R.bind_ok] at q
            obtain ⟨v, ev, rv⟩ := rs.get i _ es
            have rv : RepD X.K O H (.dct kvs0) v := rv
            simp only [RepD] at rv
            obtain ⟨d, vs0, rfl, ho, hrd, hks⟩ := rv
            by_cases hz : (kvs0.map fun kv => kD kv.1).length ≤ 1000000
            · rw [if_pos hz] at q
              cases er : dcGo g t kx vx (wipeE env (own.map (·.2))) (kvs0.map fun kv => kD kv.1) [] with
              | exc c n => rw [er] at q; exact q.elim
              | no => rw [er] at q; exact q.elim
              | ok kvs =>
                rw [er, nx_ok, R.bind_ok] at q
                have keys : ∀ (j : Nat) (O' : Addr → Prop) (H2 : Hp) (k : Key) (v : V), vs0[j]? = some (k, v) → ∀ y, (kvs0.map fun kv => kD kv.1)[j]? = some y → RepD X.K O' H2 y (kV k) := by
                  have gen : ∀ {ds : List (Key × D)} {vs : List (Key × V)} (j : Nat), RepKs X.K O H ds vs → ∀ k v y, vs[j]? = some (k, v) → (ds.map fun kv => kD kv.1)[j]? = some y → y = kD k := by
                    intro ds
                    induction ds with
                    | nil => intro vs j h k v y e1 e2; simp at e2
                    | cons a ds ih =>
                      intro vs j h k v y e1 e2
                      obtain ⟨c, x⟩ := a
                      simp only [RepKs] at h
                      obtain ⟨u, r, rfl, h1, h2⟩ := h
                      cases j with
                      | zero => simp at e1 e2; rw [← e2, e1.1]
                      | succ j => exact ih j h2 k v y (by simpa using e1) (by simpa using e2)
                  intro j O' H2 k v e1 y e2
                  rw [gen j hks k v y e1 e2]
                  exact kD_rep k
                have hlen : vs0.length = (kvs0.map fun kv => kD kv.1).length := by rw [List.length_map, hks.length]
                have turn : ∀ (o : Obj) (O' : Addr → Prop) (H2 : Hp), H2 d = some (.frz o (.dK vs0)) → ∀ j, (∀ y, (kvs0.map fun kv => kD kv.1)[j]? = some y → (Itk d o vs0).go j H2 ∧ ∀ v H', (Itk d o vs0).yld j H2 v H' → Same H2 H' ∧ RepD X.K O' H' y v) ∧ ((kvs0.map fun kv => kD kv.1).length ≤ j → (Itk d o vs0).stop j H2) := fun o O' H2 hd j => by
                  refine ⟨fun y ey => ⟨⟨hd, by rw [hlen]; exact (List.getElem?_eq_some_iff.mp ey).1⟩, fun v H' yy => ?_⟩, fun hj => ⟨hd, by omega⟩⟩
                  obtain ⟨rfl, k, u, e1, rfl⟩ := yy
                  exact ⟨Same.refl _, keys j O' _ k u e1 y ey⟩
                rcases hrd with hd | ⟨o, hd⟩
                · refine .inr ⟨d, .dK vs0, hd, True.intro, fun od => ⟨.ref d, ev, d, od, rfl, .inl ⟨vs0, upd_same, fun Dd hD => ?_⟩⟩⟩
                  have hne : Dd ≠ d := fun z => by rw [z, upd_same] at hD; cases hD
                  have hD0 : H Dd = none := by rw [upd_ne hne] at hD; exact hD
                  have dk1 : Dk d vs0 H (upd H d (.frz od (.dK vs0))) := ⟨fun a n => upd_ne n, .inl hd, .inr ⟨od, upd_same⟩⟩
                  refine dc_body (mg := X.mg) (Q := fun v H' => H' d = some (.frz od (.dK vs0)) ∧ Q v (upd H' d (.dK vs0))) hto (rs.dk dk1 ho) hD (fun H2 s2 tr2 j => turn od _ H2 (s2 d _ upd_same) j) hz er fun H2 vs s2 hv hr => ?_
                  have hd2 : H2 d = some (.frz od (.dK vs0)) := s2 d _ upd_same
                  have dk2 : Dk d vs0 H2 (upd H2 d (.dK vs0)) := ⟨fun a n => upd_ne n, .inr ⟨od, hd2⟩, .inl upd_same⟩
                  refine ⟨hd2, q (.ref Dd) _ (fun a u e => ?_) (RepM.ofD ?_)⟩
                  · by_cases z : a = d
                    · subst z; rw [hd] at e; cases e; exact upd_same
                    · rw [upd_ne z]; exact s2 a u (by rw [upd_ne z]; exact e)
                  · simp only [RepD]
                    exact ⟨Dd, vs, rfl, rs.nfree hD0, .inl ((upd_ne hne).trans hv), RepKs.keep Keep.refl (fun _ z => .inl z) _ _ (RepKs.dk dk2 _ _ hr)⟩
                · refine .inl ⟨.ref d, ev, d, o, rfl, .inl ⟨vs0, hd, fun Dd hD => ?_⟩⟩
                  refine dc_body (mg := X.mg) (Q := Q) hto rs hD (fun H2 s2 tr2 j => turn o _ H2 (s2 d _ hd) j) hz er fun H2 vs s2 hv hr => ?_
                  refine q (.ref Dd) _ s2 (RepM.ofD ?_)
                  simp only [RepD]
                  exact ⟨Dd, vs, rfl, rs.nfree hD, .inl hv, RepKs.keep Keep.refl (fun _ z => .inl z) _ _ hr⟩
            · rw [if_neg hz] at q; exact q.elim
          | _ => exact q.elim
        | _ => exact q.elim
end
/-! ### gcd -/
def gcdD : List D → R D
  | [.int a, .int b] => .ok (.int ((Nat.gcd a.natAbs b.natAbs : Nat) : Int))
  | _ => .no
theorem gcdD_nx : NX gcdD := fun x c n => by unfold gcdD; split <;> simp
@[simp] theorem gcdD_int (a b : Int) : gcdD [.int a, .int b] = .ok (.int ((Nat.gcd a.natAbs b.natAbs : Nat) : Int)) := Eq.trans rfl rfl
theorem on_gcd {K : PySem.W.Frag} : OpN K rGcd gcdD := fun mg O m σ env H Q ds vs r hx q => by
  unfold gcdD at q
  split at q
  · obtain ⟨v, w, e, h, h'⟩ := repMs2 hx
    rw [repInt] at h h'
    subst h; subst h'
    exact ⟨_, _, e, q.val (by simp [RepD])⟩
  · exact q.elim
section
variable {X : Cx} {W : WX} {m : Bool} {x : Str} {p pos : Pos} {e : Expr} {es : List Expr} {g : Env → R (List D)}
theorem de_gcd (hm : X.mg x = some (.builtin "math.gcd")) (ha : DA X W true (e :: es) g) (hg : Gl X x := by rfl) (hdb : (x == ("__debug__" : Str)) = false := by decide)
    (he : starEach (e :: es) X.env = (false, eval e X.env) :: starEach es X.env := by rfl) (hpl : (backTo pos (starEach es X.env)).any (·.1) = false := by rfl) : DE X W m (.Call (.Name x p) (e :: es) [] pos) (eB gcdD g) :=
  PE.imp (pe_callBfun cr_gcd hg hm ha hdb he hpl) fun σ H Q ⟨env, O, rs, q⟩ => finA rs q fun ds vs H1 _ s1 r1 rs1 q1 => on_gcd X.mg O m σ env H1 Q ds vs rs1 r1 (q1.w0 (gcdD_nx ds))
end
theorem _root_.L2.Room.u1 {k : Nat} {A : Around} (r : Room k A) : A.units + 1 < cLine := by have := r.un; omega
/-! reckoning -/
def keysK : Option (Option SV) → R (List D)
  | some (some (.d (.dct kvs))) => .ok (kvs.map fun kv => kD kv.1)
  | _ => .no
@[simp] theorem keysE_ap (i : Nat) (s : Env) : keysE i s = keysK s[i]? := Eq.trans rfl rfl
@[simp] theorem keysK_d (kvs : List (Key × D)) : keysK (some (some (.d (.dct kvs)))) = .ok (kvs.map fun kv => kD kv.1) := Eq.trans rfl rfl
end DV

namespace DV
open PySem L2 PySem.Spec PyProof.Rows
/-! ### what the laws of errors have in common -/
theorem er_plain : ∀ e : Er, (erD e).plain = true
  | none => rfl
  | some (w, n) => rfl
theorem er_depth : ∀ e : Er, (erD e).pd.depth ≤ 1
  | none => by simp [erD, D.pd, PyData.depth]
  | some (w, n) => by simp [erD, D.pd, D.pds, PyData.depth, PyData.depthAll]
theorem ers_depth : ∀ xs : List Er, PyData.depthAll (D.pds (xs.map erD)) ≤ 1
  | [] => by simp [D.pds, PyData.depthAll]
  | x :: xs => by
    have h1 := er_depth x
    have h2 := ers_depth xs
    simp only [List.map_cons, D.pds, PyData.depthAll]
    omega
theorem ers_ne (xs : List Er) : neD (.lst (xs.map erD)) (.lst (xs.map erD)) = .ok (.bl false) := by
  have hp : (D.lst (xs.map erD)).plain = true := by
    show D.plains _ = true
    exact plains_all fun y hy => by obtain ⟨a, _, rfl⟩ := List.mem_map.mp hy; exact er_plain a
  have hd : (D.lst (xs.map erD)).pd.depth ≤ 60 := by
    have := ers_depth xs
    simp only [D.pd, PyData.depth]
    omega
  rw [neD, if_pos ⟨hp, hp, Nat.le_trans (Nat.min_le_left _ _) hd⟩, eqv_self hp]
  rfl
/-- a or b, of nothing or an error -/
def orE : Er → Er → Er
  | some a, _ => some a
  | none, b => b
theorem orE_none {a b : Er} (h : orE a b = none) : a = none ∧ b = none := by
  cases a with
  | none => exact ⟨rfl, h⟩
  | some a => cases h
theorem or_er (a b : Er) : orGk (.ok (erD b)) (erD a) = .ok (erD (orE a b)) := by
  cases a with
  | none => simp [orGk, erD, orE]
  | some p => obtain ⟨w, n⟩ := p; simp [orGk, erD, orE]
/-- e where p does not hold -/
def unE (p : Prop) [Decidable p] (e : Str × Int) : Er := if p then none else some e
theorem unE_none {p : Prop} [Decidable p] {e : Str × Int} (h : unE p e = none) : p := by
  unfold unE at h
  split at h
  · assumption
  · cases h
/-- [e, None][int(p)] -/
theorem pick_un (p : Prop) [Decidable p] (w : Str) (n : Int) : (intD [.bl (decide p)]).bind (fun i => ixD (.lst [.tup [.str w, .int n], .non]) i) = .ok (erD (unE p (w, n))) := by
  by_cases h : p <;> simp [unE, h, erD] <;> rfl
/-- [None, e][int(p)] -/
theorem pick_if (p : Prop) [Decidable p] (w : Str) (n : Int) : (intD [.bl (decide p)]).bind (fun i => ixD (.lst [.non, .tup [.str w, .int n]]) i) = .ok (erD (unE (¬ p) (w, n))) := by
  by_cases h : p <;> simp [unE, h, erD] <;> rfl
def strOk : R D → Bool
  | .ok (.str _) => true
  | _ => false
theorem strOk_ex {r : R D} (h : strOk r = true) : ∃ s, r = .ok (.str s) := by
  cases r with
  | ok d => cases d with
    | str s => exact ⟨s, rfl⟩
    | _ => cases h
  | exc c n => cases h
  | no => cases h
def pickD (xs : List (D × Er)) : D := .lst (xs.map fun c => .tup [c.1, erD c.2])
theorem picked {xs : List (D × Er)} {r : Int} (h0 : 0 ≤ r) (h1 : r < xs.length) : ∃ c ∈ xs, ixD (pickD xs) (.int r) = .ok (.tup [c.1, erD c.2]) := by
  have hl : r.toNat < xs.length := by omega
  exact ⟨xs[r.toNat], List.getElem_mem hl, ixD_lst h0 (by rw [List.getElem?_map, List.getElem?_eq_getElem hl]; rfl)⟩
theorem pickedD {xs : List D} {r : Int} (h0 : 0 ≤ r) (h1 : r < xs.length) : ∃ c ∈ xs, ixD (.lst xs) (.int r) = .ok c := by
  have hl : r.toNat < xs.length := by omega
  exact ⟨xs[r.toNat], List.getElem_mem hl, ixD_lst h0 (by rw [List.getElem?_eq_getElem hl])⟩
theorem pickedI {xs : List Int} {r : Int} (h0 : 0 ≤ r) (h1 : r < xs.length) : ∃ c ∈ xs, ixD (.lst (xs.map D.int)) (.int r) = .ok (.int c) := by
  have hl : r.toNat < xs.length := by omega
  exact ⟨xs[r.toNat], List.getElem_mem hl, ixD_ints h0 (List.getElem?_eq_getElem hl)⟩
def ifE (e : Er) (b : Bool) : Bool := match e with
  | none => true
  | some _ => b
end DV

namespace DV
open PySem L2 PySem.Spec PyProof.Rows
/-! ### found = f(..), a pair of a flat thing and a list of its own; .. ; found[1].append(e), and found is read no more -/
def tupV (ds : List D) : FR → R (D × List D)
  | .val (.tup [x, .lst xs]) => if kindN x < 4 ∧ (subsL ds).all (apartL xs) = true then .ok (x, xs) else .no
  | .exc c n => .exc c n
  | _ => .no
def fCallT (Fn : List D → FR) (ga : Env → R (List D)) : Env → R (D × List D) := fun s => (ga s).bind fun ds => tupV ds (Fn ds)
def FinP (K : PySem.W.Frag) (mg : Str → Option Value) (W : WX) (O : Addr → Prop) (σ : L2.St) (H : Hp) (Q : VK) : R (D × List D) → Prop
  | .ok (x, xs) => ∀ T a w vs H', Same H H' → H a = none → SqT K H' T [w, .ref a] → RepD K O H' x w → ¬ O a → H' a = some (.lst vs) → RepDs K O H' xs vs → Q (.ref T) H'
  | .exc c n => ∀ C dx H', mg c = some (.ref C) → Same H H' → H' dx = some (.xd [(("at" : Str), .int n)]) → W (.ref C) (some dx) σ H'
  | .no => False
def tP (K : PySem.W.Frag) (mg : Str → Option Value) (W : WX) (f : Env → R (D × List D)) : TE := fun σ H Q => ∃ env O, RepS K O H σ env ∧ FinP K mg W O σ H Q (f env)
section
variable {X : Cx} {W : WX} {k n : Nat} {x : Str} {Fn : List D → FR} {e : Expr} {es : List Expr} {ga : Env → R (List D)} {p pos : Pos}
theorem pe_callT (C : CallOk X.prog X.w X.K X.mg X.base k n x Fn) (ar : Arity n Fn) (hr : Room k X.A) (tk : L2N.Takes X W) (ha : DA X W false (e :: es) ga) (hg : Gl X x) (hdb : (x == ("__debug__" : Str)) = false := by decide) (he : starEach (e :: es) X.env = (false, eval e X.env) :: starEach es X.env := by rfl) (hpl : (backTo pos (starEach es X.env)).any (·.1) = false := by rfl) :
    PE X (.Call (.Name x p) (e :: es) [] pos) (tP X.K X.mg W (fCallT Fn ga)) := PE.imp (pe_callD C hr tk ha hg hdb he hpl) fun σ H Q ⟨env, O, rs, q⟩ => by
  unfold fCallT at q
  refine ⟨env, O, rs, ?_⟩
  revert q
  cases ga env with
  | exc c n => exact fun q => q
  | no => exact fun q => q
  | ok ds =>
    intro q vs H1 s1 r1
    have rs1 := rs.same s1
    rw [R.bind_ok] at q
    have r2 := RepMs.ds r1
    have hn : Fn ds ≠ .no := fun z => by rw [z] at q; exact q.elim
    refine ⟨r2.length.symm.trans (ar ds hn), ?_⟩
    cases eF : Fn ds with
    | ol xs => rw [eF] at q; exact q.elim
    | od xs => rw [eF] at q; exact q.elim
    | exc c n => rw [eF] at q; exact ⟨O, ds, rs1.trk, r2, by rw [eF]; exact fun C dx H' a s b => q C dx H' a (s1.trans s) b⟩
    | no => exact absurd eF hn
    | val d =>
      rw [eF] at q
      have hd : ∃ x xs, d = .tup [x, .lst xs] := by
        unfold tupV at q
        split at q
        · rename_i x xs h
          cases h
          exact ⟨x, xs, rfl⟩
        · rename_i h; cases h
        · exact q.elim
      obtain ⟨x, xs, rfl⟩ := hd
      simp only [tupV] at q
      split at q
      · rename_i hf
        refine ⟨Far O H1 (fun a => ∃ ys, NodeL X.K O H1 ds vs a ys), ds, fun a z => ?_, RepDs.far ds vs r2 fun a ys hn => ⟨ys, hn⟩, ?_⟩
        · rcases z with z | ⟨⟨ws, z⟩, _⟩
          · exact rs1.trk a z
          · rw [z]; simp
        · rw [eF]
          intro v H2 s2 rv
          have rv : RepD X.K (Far O H1 (fun a => ∃ ys, NodeL X.K O H1 ds vs a ys)) H2 (.tup [x, .lst xs]) v := rv
          simp only [RepD, RepDs] at rv
          obtain ⟨T, us, rfl, hT, w, r, rfl, hx, v2, r', rfl, ⟨a, ws, rfl, na, ha2, hr2⟩, rfl⟩ := rv
          have wk : ∀ b, O b → Far O H1 (fun a => ∃ ys, NodeL X.K O H1 ds vs a ys) b := fun b hb => .inl hb
          refine q T a w ws H2 (s1.trans s2) ?_ hT (RepD.keep Keep.refl wk _ _ hx) (fun z => na (wk a z)) ha2 (RepDs.keep Keep.refl wk _ _ hr2)
          cases eo0 : H a with
          | none => rfl
          | some o =>
            exfalso
            have eo := s1 _ _ eo0
            have := s2 _ _ eo
            rw [ha2] at this
            cases this
            by_cases hP : ∃ ys, NodeL X.K O H1 ds vs a ys
            · obtain ⟨ys, hy⟩ := hP
              obtain ⟨h1, ws', h2, h3⟩ := NodeL.rep hy
              rw [eo] at h2
              cases h2
              have h4 := apartL_no hr2 (h3.same s2)
              have h5 := (List.all_eq_true.mp hf.2) ys h1
              rw [h4] at h5
              cases h5
            · exact na (.inr ⟨⟨ws, eo⟩, hP⟩)
      · exact q.elim
end
def noOwn (s : Env) : Bool := s.all fun o => match o with
  | some sv => !sv.own
  | none => true
theorem noOwn_at {s : Env} {j : Nat} {sv : SV} (h : noOwn s = true) (e : s[j]? = some (some sv)) : sv.own = false := by
  have := List.all_eq_true.mp h _ (List.mem_of_getElem? e)
  simpa using this
open Classical in
noncomputable def ghO (i : Nat) (rest : Env → Out) (s : Env) : Out :=
  if h : ∃ s' : Env, s'.length = s.length ∧ ∀ v, rest (s.set i (some (.op v))) = .nx (s'.set i (some (.op v))) then .nx (h.choose.set i none) else .no
theorem ghO_nx {i : Nat} {rest : Env → Out} {s s' : Env} (hl : s'.length = s.length) (h : ∀ v, rest (s.set i (some (.op v))) = .nx (s'.set i (some (.op v)))) : ghO i rest s = .nx (s'.set i none) := by
  have hex : ∃ s' : Env, s'.length = s.length ∧ ∀ v, rest (s.set i (some (.op v))) = .nx (s'.set i (some (.op v))) := ⟨s', hl, h⟩
  unfold ghO
  rw [dif_pos hex]
  have h1 := hex.choose_spec.2 .non
  rw [h .non] at h1
  have h2 : s'.set i (some (.op .non)) = hex.choose.set i (some (.op .non)) := by injection h1
  have h3 := congrArg (fun l : Env => l.set i none) h2
  simp only [List.set_set] at h3
  rw [h3]
def Out.noNx : Out → Out
  | .nx _ => .no
  | o => o
noncomputable def sGh (i : Nat) (cf : Env → R (D × List D)) (t : Env → R Bool) (Fa : Env → Out) (rest : Env → Out) : Env → Out := fun s => match cf s with
  | .ok (x, xs) => if i < s.length ∧ noOwn s = true ∧ xs.length < 1000000 then (match t (s.set i (some (.d (.tup [x, .lst xs])))) with
    | .ok true => (Fa (s.set i (some (.d (.tup [x, .lst xs]))))).noNx
    | .ok false => ghO i rest s
    | _ => .no) else .no
  | .exc c n => .exc c n s
  | .no => .no
section
variable {X : Cx} {W : WX} {B : Ent}
/-- the statements between -/
def Btw (X : Cx) (W : WX) (app l : List Stmt) (F : Env → Out) : Prop := ∀ (B' : Ent) (G : List (V × D)) (tEnd : TS), PSs X app tEnd → PSs X l (tSeq (tS X.K X.mg W B'.H0 B'.O0 G F) tEnd)
theorem btw_nil {app : List Stmt} : Btw X W app app sNext := fun B' G tEnd h => PSs.imp h fun Dd σ H ⟨env, h, q⟩ => q σ H h
theorem btw_cons {app l : List Stmt} {st : Stmt} {F F' : Env → Out} (h1 : ∀ B', DS X W B' st F) (h2 : Btw X W app l F') : Btw X W app (st :: l) (sSeq F F') := fun B' G tEnd h => PSs.imp (pss_cons (h1 B' G) (h2 B' G tEnd h)) fun Dd σ H ⟨env, h, q⟩ => by
  refine ⟨env, h, ?_⟩
  have q : FinS X.K X.mg W B'.H0 B'.O0 G { Dd with nx := tEnd Dd } ((F env).seq F') := q
  revert q
  cases F env with
  | nx e => exact fun q σ' H' h' => ⟨e, h', q⟩
  | _ => exact fun q => q
theorem dss_gh {i : Nat} {x : Str} {p pos pos2 : Pos} {call tst o e : Expr} {sa l tail : List Stmt} {app : Stmt} {cf : Env → R (D × List D)} {t : Env → R Bool} {Fa rest tailF : Env → Out} {fe : Env → R D} {de : D}
    (hp : ∀ u, PE X call u → PS X (.Assign [.Name x p] call pos) (tAsg u (gName i))) (hcall : PE X call (tP X.K X.mg W cf)) (ht : DT X W tst t) (ha : DSs X W B sa Fa)
    (happ : ∀ u v, PE X o u → PA X [e] v → PS X app (tDrop (tBM X.K "list" rAppend u v))) (ho : PE X o (tOp (rIxA X.K) (tVar i) (tC (.int 1)))) (he : DE X W false e fe) (hfe : ∀ s, fe s = .ok de)
    (hrest : Btw X W (app :: tail) l rest) (htail : DSs X W B tail tailF) (hs : starEach [e] X.env = (false, eval e X.env) :: starEach [] X.env := by rfl) :
    DSs X W B (.Assign [.Name x p] call pos :: .If tst sa [] pos2 :: l) (sSeq (sGh i cf t Fa rest) tailF) := fun G => by
  let tEnd : TS := tSeq (tDrop (tBM X.K "list" rAppend (tOp (rIxA X.K) (tVar i) (tC (.int 1))) (tCons (tD X.K X.mg W false fe) tNil))) (tS X.K X.mg W B.H0 B.O0 G tailF)
  have hEnd : PSs X (app :: tail) tEnd := pss_cons (happ _ _ ho (pa_cons he pa_nil hs)) (htail G)
  have hl : PSs X l (fun Dd σ H => ∃ B' : Ent, tSeq (tS X.K X.mg W B'.H0 B'.O0 G rest) tEnd Dd σ H) := ⟨fun pins s σ H D I ⟨B', h⟩ => (hrest B' G tEnd hEnd).run pins s σ H D I h⟩
  refine PSs.imp (pss_cons (hp _ hcall) (pss_cons (ps_if ht (ha G) pss_nil) hl)) fun Dd σ H ⟨env, h, q⟩ => ?_
  have q := fin_seq q
  have h0 := h
  obtain ⟨O, r, z, s0, g, n⟩ := h
  refine ⟨env, O, r, ?_⟩
  unfold sGh at q
  cases ec : cf env with
  | exc c n' => rw [ec] at q; exact fun C dx H1 e1 s1 a => q C dx σ H1 e1 (h0.same s1) a
  | no => rw [ec] at q; exact q.elim
  | ok pr =>
    obtain ⟨x, xs⟩ := pr
    rw [ec] at q
    intro T a w vs H1 s1 na hT hx noa ha1 hxs
    dsimp only at q
    split at q
    · rename_i hc
      obtain ⟨hi, hown, hz⟩ := hc
      have hiσ : i < σ.length := by rw [r.len]; exact hi
      have rv : RepD X.K O H1 (.tup [x, .lst xs]) (.ref T) := by
        simp only [RepD, RepDs]
        exact ⟨T, [w, .ref a], rfl, hT, w, [.ref a], rfl, hx, .ref a, [], rfl, ⟨a, vs, rfl, noa, ha1, hxs⟩, rfl⟩
      have rD : RepS X.K O H1 (σ.set i (some (.ref T))) (env.set i (some (.d (.tup [x, .lst xs])))) := (r.same s1).put rv hi
      have hD : SOK X.K B.H0 B.O0 G (env.set i (some (.d (.tup [x, .lst xs])))) (σ.set i (some (.ref T))) H1 := SOK.put rD (Kept.put hi) z (s0.trans s1) (fun p hp => (g p hp).same s1) n
      show tT X.K X.mg W t (σ.set i (some (.ref T))) H1 _
      refine ⟨env.set i (some (.d (.tup [x, .lst xs]))), O, rD, ?_⟩
      cases et : t (env.set i (some (.d (.tup [x, .lst xs])))) with
      | exc c n' => rw [et] at q; exact q.elim
      | no => rw [et] at q; exact q.elim
      | ok b =>
        rw [et] at q
        intro H2 s2
        cases b with
        | true =>
          rw [if_pos rfl]
          refine ⟨_, hD.same s2, ?_⟩
          dsimp only at q
          revert q
          generalize Fa (env.set i (some (.d (.tup [x, .lst xs])))) = o
          cases o with
          | nx e => exact fun q => q.elim
          | _ => exact fun q => q
        | false =>
          rw [if_neg Bool.false_ne_true]
          dsimp only at q
          unfold ghO at q
          split at q
          · rename_i hex
            obtain ⟨hcl, hcr⟩ := hex.choose_spec
            generalize hex.choose = c at q hcl hcr
            have s12 : Same H H2 := Same.trans s1 s2
            have a2 : H2 a = some (.lst vs) := s2 _ _ ha1
            have tr : ∀ b, (O b ∨ b = a) → H2 b ≠ none := fun b hb => by
              rcases hb with hb | rfl
              · exact fun e => by
                  cases eb : H b with
                  | none => exact r.trk b hb eb
                  | some u => rw [s12 b u eb] at e; cases e
              · rw [a2]; simp
            refine ⟨⟨H2, fun b => O b ∨ b = a, tr⟩, env.set i (some (.op (.ref T))), ⟨fun b => O b ∨ b = a, ⟨by simp [r.len], fun j sv e => ?_, fun j k b su sv e1 e2 o1 o2 _ _ => ?_, tr⟩, fun b hb => hb, Same.refl _, fun p hp => (RepD.avoid na _ _ (g p hp)).same s12, fun j sv b e o1 _ => ?_⟩, ?_⟩
            · by_cases hj : i = j
              · subst hj
                rw [List.getElem?_set_self hi] at e
                cases e
                exact ⟨.ref T, by rw [List.getElem?_set_self hiσ], rfl⟩
              · rw [List.getElem?_set_ne hj] at e
                obtain ⟨v, e1, h1⟩ := r.get j sv e
                exact ⟨v, by rw [List.getElem?_set_ne hj]; exact e1, (h1.avoid na).same s12⟩
            · exfalso
              by_cases hj : i = j
              · subst hj; rw [List.getElem?_set_self hi] at e1; cases e1; cases o1
              · rw [List.getElem?_set_ne hj] at e1
                rw [noOwn_at hown e1] at o1; cases o1
            · exfalso
              by_cases hj : i = j
              · subst hj; rw [List.getElem?_set_self hi] at e; cases e; cases o1
              · rw [List.getElem?_set_ne hj] at e
                rw [noOwn_at hown e] at o1; cases o1
            · rw [hcr (.ref T)]
              intro σ' H' ⟨O3, r3, z3, s3, g3, n3⟩
              have hic : i < c.length := by rw [hcl]; exact hi
              obtain ⟨v, ev, ew⟩ := r3.get i (.op (.ref T)) (by rw [List.getElem?_set_self hic])
              have ew : v = .ref T := ew
              subst ew
              have a3 : H' a = some (.lst vs) := s3 _ _ a2
              have oa3 : O3 a := z3 a (.inr rfl)
              have T3 : SqT X.K H' T [w, .ref a] := sqT_keep (Keep.of_same (O := O) (Same.trans s2 s3)) hT
              refine ⟨.ref T, ev, .inr (.inl ⟨T, [w, .ref a], 1, .ref a, rfl, rfl, T3, rfl, .inl ⟨rfl, vs, .of a3⟩, ?_⟩)⟩
              refine ⟨_, O3, r3, ?_⟩
              rw [hfe]
              intro u H4 s4 ru
              have ru : RepD X.K O3 H4 de u := ru
              have a4 : H4 a = some (.lst vs) := s4 _ _ a3
              refine ⟨a, vs, u, rfl, rfl, a4, by rw [← hxs.length]; exact lim_lt hz, ?_⟩
              have kp : Keep O3 H4 (upd H4 a (.lst (vs ++ [u]))) := Keep.upd oa3 (by rw [a4]; exact True.intro)
              have hna : ∀ b, H2 b = none → b ≠ a := fun b hb e => by rw [e, a2] at hb; cases hb
              refine q σ' _ ⟨O3, ⟨by rw [r3.len]; simp, fun j sv e => ?_, fun j k b su sv e1 e2 o1 o2 h1 h2 => ?_, fun b hb e => ?_⟩, fun b hb => z3 b (.inl (z b hb)), fun b u' e => ?_, fun p hp => RepD.keep kp (fun _ z => z) _ _ ((g3 p hp).same s4), fun j sv b e o1 h1 => ?_⟩
              · have hj : i ≠ j := fun z => by subst z; rw [List.getElem?_set_self hic] at e; cases e
                rw [List.getElem?_set_ne hj] at e
                have e' : (c.set i (some (.op (.ref T))))[j]? = some (some sv) := by rw [List.getElem?_set_ne hj]; exact e
                obtain ⟨v, e1, h1⟩ := r3.get j sv e'
                refine ⟨v, e1, ?_⟩
                have h1 := h1.same s4
                cases sv with
                | d x => exact RepD.keep kp (fun _ z => z) _ _ h1
                | op v => exact h1
                | ex b dx k => exact ⟨h1.1, by rw [upd_ne (fun q => by have := h1.2; rw [q, a4] at this; cases this)]; exact h1.2⟩
                | ol ys =>
                  obtain ⟨b, us, eb, ho, h2, h3⟩ := h1
                  subst eb
                  have nb := hna b (n3 j _ b e' rfl e1)
                  exact ⟨b, us, rfl, ho, by rw [upd_ne nb]; exact h2, RepDs.keep kp (fun _ z => z) _ _ h3⟩
                | od ys =>
                  obtain ⟨b, us, eb, ho, h2, h3⟩ := h1
                  subst eb
                  have nb := hna b (n3 j _ b e' rfl e1)
                  exact ⟨b, us, rfl, ho, by rw [upd_ne nb]; exact h2, RepKs.keep kp (fun _ z => z) _ _ h3⟩
              · have hj : i ≠ j := fun z => by subst z; rw [List.getElem?_set_self hic] at e1; cases e1
                have hk : i ≠ k := fun z => by subst z; rw [List.getElem?_set_self hic] at e2; cases e2
                rw [List.getElem?_set_ne hj] at e1
                rw [List.getElem?_set_ne hk] at e2
                exact r3.inj j k b su sv (by rw [List.getElem?_set_ne hj]; exact e1) (by rw [List.getElem?_set_ne hk]; exact e2) o1 o2 h1 h2
              · by_cases hb' : b = a
                · subst hb'; rw [upd_same] at e; cases e
                · rw [upd_ne hb'] at e
                  cases eb : H' b with
                  | none => exact r3.trk b hb eb
                  | some u' => rw [s4 b u' eb] at e; cases e
              · have nb : b ≠ a := fun z => by rw [z] at e; rw [s0 _ _ e] at na; cases na
                rw [upd_ne nb]
                exact s4 _ _ (s3 _ _ (s12 _ _ (s0 _ _ e)))
              · have hj : i ≠ j := fun z => by subst z; rw [List.getElem?_set_self hic] at e; cases e
                rw [List.getElem?_set_ne hj] at e
                have nb : H2 b = none := n3 j sv b (by rw [List.getElem?_set_ne hj]; exact e) o1 h1
                cases eb : B.H0 b with
                | none => rfl
                | some u' => rw [s12 _ _ (s0 _ _ eb)] at nb; cases nb
          · exact q.elim
    · exact q.elim
end
end DV

namespace DV
open PySem L2 PySem.Spec PyProof.Rows
/-! ### texts: constants of the module, str(int), int(text) -/
section
variable {X : Cx} {W : WX} {m : Bool} {e : Expr} {g : Env → R (List D)} {p pos : Pos}
theorem de_globS {x : Str} {z : Str} {pos : Pos} (hm : ∃ u, X.mg x = some (.str z u)) (hg : Gl X x) (hd : (x == ("__debug__" : Str)) = false := by decide) : DE X W m (.Name x pos) (eC (.str z)) :=
  PE.imp (pe_glob (v := .str z) hg hm.choose_spec ⟨_, rfl⟩ hd) fun σ H Q ⟨env, O, r, q⟩ => q.val (by simp [RepD])
def strD : List D → R D
  | [.int i] => if i.natAbs < 1000000000000 then .ok (.str (toString i)) else .no
  | _ => .no
theorem strD_nx : NX strD := fun x c n => by unfold strD; split <;> (try split) <;> simp
theorem on_str {K : PySem.W.Frag} : OpN K (fun xs H Q => ∃ i : Int, xs = [.int i] ∧ i.natAbs.log2 < 1920 ∧ Q (.str (toString i)) H) strD := fun mg O m σ env H Q ds vs r hx q => by
  unfold strD at q
  split at q
  · rename_i i
    split at q
    · rename_i hi
      obtain ⟨v, e, h⟩ := repMs1 hx
      rw [repInt] at h; subst h
      refine ⟨_, e, ?_, q.val (by simp [RepD])⟩
      by_cases h0 : i.natAbs = 0
      · rw [h0]; decide
      · have h1 : i.natAbs.log2 < 40 := (Nat.log2_lt h0).mpr (by omega)
        omega
    · exact q.elim
  · exact q.elim
theorem de_strI (hm : X.mg "str" = none) (ha : DA X W true [e] g) (hg : Gl X "str" := by rfl) (he : starEach [e] X.env = (false, eval e X.env) :: starEach [] X.env := by rfl) : DE X W m (.Call (.Name "str" p) [e] [] pos) (eB strD g) :=
  de_callTy call_str_int on_str strD_nx hg hm (by decide +kernel) ha (by decide) (by decide) he rfl
/-- int(x), x an int, a truth value or a text -/
def intSD : List D → R D
  | [.int i] => .ok (.int i)
  | [.bl k] => .ok (.int (if k then 1 else 0))
  | [.str a] => if a.length ≤ 640 then (match PySem.intText? a with
    | some n => .ok (.int n)
    | none => .no) else .no
  | _ => .no
theorem intSD_nx : NX intSD := fun x c n => by unfold intSD; split <;> (try split) <;> (try split) <;> simp
theorem call_intS {X : Cx} : CallR X (.type "int") (fun xs H Q => ((∃ i, xs = [.int i] ∧ Q (.int i) H) ∨ ∃ k, xs = [.bl k] ∧ Q (.int (if k then 1 else 0)) H) ∨ ∃ a n, xs = [.str a] ∧ PySem.intText? a = some n ∧ a.length ≤ 640 ∧ Q (.int n) H) := by
  intro pins s σ H xs us Q I r h
  rcases h with h | h
  · exact call_int1 pins s σ H xs us Q I r h
  · exact call_int_str pins s σ H xs us Q I r h
theorem on_intS {K : PySem.W.Frag} : OpN K (fun xs H Q => ((∃ i, xs = [.int i] ∧ Q (.int i) H) ∨ ∃ k, xs = [.bl k] ∧ Q (.int (if k then 1 else 0)) H) ∨ ∃ a n, xs = [.str a] ∧ PySem.intText? a = some n ∧ a.length ≤ 640 ∧ Q (.int n) H) intSD := fun mg O m σ env H Q ds vs r hx q => by
  unfold intSD at q
  split at q
  · obtain ⟨v, e, h⟩ := repMs1 hx
    rw [repInt] at h; subst h
    exact .inl (.inl ⟨_, e, q.val (by simp [RepD])⟩)
  · obtain ⟨v, e, h⟩ := repMs1 hx
    rw [repBl] at h; subst h
    exact .inl (.inr ⟨_, e, q.val (by simp [RepD])⟩)
  · split at q
    · rename_i hl
      split at q
      · rename_i n hn
        obtain ⟨v, e, h⟩ := repMs1 hx
        rw [repStr] at h; subst h
        exact .inr ⟨_, n, e, hn, hl, q.val (by simp [RepD])⟩
      · exact q.elim
    · exact q.elim
  · exact q.elim
theorem de_intS (hm : X.mg "int" = none) (ha : DA X W true [e] g) (hg : Gl X "int" := by rfl) (he : starEach [e] X.env = (false, eval e X.env) :: starEach [] X.env := by rfl) : DE X W m (.Call (.Name "int" p) [e] [] pos) (eB intSD g) :=
  de_callTy call_intS on_intS intSD_nx hg hm (by decide +kernel) ha (by decide) (by decide) he rfl
end
/-! ### a text's slice -/
def cutSD (lo hi : Option Int) : D → R D
  | .str z => if z.length ≤ 1000000 then .ok (.str (cutS z lo hi)) else .no
  | _ => .no
def eCutS (f : Env → R D) (l u : Env → R (Option Int)) : Env → R D := fun s => (f s).bind fun x => (l s).bind fun lo => (u s).bind fun hi => cutSD lo hi x
@[simp] theorem eCutS_ap (f : Env → R D) (l u : Env → R (Option Int)) (s : Env) : eCutS f l u s = (f s).bind fun x => (l s).bind fun lo => (u s).bind fun hi => cutSD lo hi x := Eq.trans rfl rfl
section
variable {X : Cx} {W : WX} {m : Bool} {a : Expr} {lo hi : Option Expr} {f : Env → R D} {l u : Env → R (Option Int)} {p2 pos : Pos}
theorem de_cutS (he : DE X W true a f) (hl : DO X W lo l) (hu : DO X W hi u) : DE X W m (.Subscript a (.Slice lo hi none p2) pos) (eCutS f l u) := PE.imp (pe_slice sl_str he hl hu) fun σ H Q ⟨env, O, rs, q⟩ => by
  unfold eCutS at q
  refine ⟨env, O, rs, ?_⟩
  revert q
  cases f env with
  | exc c n => exact fun q => q
  | no => exact fun q => q
  | ok x =>
    intro q v H1 s1 r1
    have rs1 := rs.same s1
    have q1 := Fin.same s1 q
    rw [R.bind_ok] at q1
    refine ⟨env, O, rs1, ?_⟩
    revert q1
    cases l env with
    | exc c n => exact fun q => q
    | no => exact fun q => q
    | ok lv =>
      intro q1 H2 s2
      have rs2 := rs1.same s2
      have q2 := Fin.same s2 q1
      rw [R.bind_ok] at q2
      refine ⟨env, O, rs2, ?_⟩
      revert q2
      cases u env with
      | exc c n => exact fun q => q
      | no => exact fun q => q
      | ok uv =>
        intro q2 H3 s3
        have q3 := Fin.same s3 q2
        rw [R.bind_ok] at q3
        cases x with
        | str z =>
          rw [repStr] at r1
          subst r1
          simp only [cutSD] at q3
          split at q3
          · rename_i hz
            exact ⟨z, rfl, lim_le hz, q3.val (by simp [RepD])⟩
          · exact q3.elim
        | _ => exact q3.elim
end
/-! ### for .. in a tuple -/
theorem iter_tup {K : PySem.W.Frag} {m : Bool} {a : Addr} {xs : List D} : IterD K m (Itt K a) [(.ref a, .tup xs)] xs := fun O H tr hG i => by
  have h := hG _ List.mem_cons_self
  rw [repTup] at h
  obtain ⟨a', vs, e, h1, h2⟩ := h
  cases e
  refine ⟨fun x e => ?_, fun hl => ⟨vs, h1, by rw [← h2.length]; exact hl⟩⟩
  obtain ⟨v, ev, rv⟩ := h2.get e
  refine ⟨⟨vs, v, h1, ev⟩, fun w H' y => ?_⟩
  obtain ⟨e1, y⟩ := y
  subst e1
  have := y vs h1
  rw [ev] at this
  cases this
  exact ⟨Same.refl _, rv⟩
section
variable {X : Cx} {W : WX} {m : Bool} {tg a : Expr} {f : Env → R D}
theorem di_tup (h : DE X W m a f) : DI X W m tg a (iTupl f) := PI.imp (pi_tup h) fun σ H R0 ⟨env, O, rs, q⟩ => by
  unfold iTupl at q
  refine ⟨env, O, rs, ?_⟩
  revert q
  cases f env with
  | exc c n => exact fun q => q
  | no => exact fun q => q
  | ok x =>
    intro q v H1 s1 r1
    have q1 := FinI.same s1 q
    rw [R.bind_ok] at q1
    cases x with
    | tup xs =>
      have r := r1
      rw [repTup] at r
      obtain ⟨a, vs, rfl, h1, h2⟩ := r
      exact ⟨a, rfl, ⟨vs, h1⟩, q1 _ _ H1 (Same.refl _) (fun z hz => by rw [List.mem_singleton.mp hz]; exact r1) iter_tup⟩
    | _ => exact q1.elim
end
@[simp] theorem intSD_int (i : Int) : intSD [.int i] = .ok (.int i) := Eq.trans rfl rfl
end DV

namespace DV
open PySem L2 PySem.Spec PyProof.Rows
/-! ### l.count(x) of data -/
def rCntP (K : PySem.W.Frag) : V → List V → Hp → VK → Prop := fun x xs H Q => ∃ y d ys, xs = [y] ∧ Dp K H y d ∧ Dp K H x (.list ys) ∧ d.plain = true ∧ PyData.plainAll ys = true ∧ min (PyData.depthAll ys) d.depth ≤ 60 ∧ Q (.int ((ys.countP fun e => PyData.eqv e d : Nat) : Int)) H
section
variable {X : Cx}
theorem mt_countP (hu : X.A.units + 64 < cLine) : MtR X "list.count" (rCntP X.K) := by
  intro pins s σ H x xs v us Q I rx rxs h
  obtain ⟨y, d, ys, rfl, hd, he, sd, se, hm, q⟩ := h
  obtain ⟨u, rfl, ru⟩ := vals1 rxs
  obtain ⟨as, r1⟩ := Dp.reads I d y u hd ru
  obtain ⟨bs, r2⟩ := Dp.reads I _ x v he rx
  cases r2 with
  | list h1 h2 h3 h4 => exact SeqAt.count_list_data ⟨_, h1, h2, _, h3⟩ h4 r1 se sd (by omega) ⟨.int _, H, I.tok _, ⟨_, rfl⟩, q⟩
end
def cntD (xs : List D) (y : D) : R D := if inOk y xs then .ok (.int ((xs.countP fun z => eqvD z y : Nat) : Int)) else .no
theorem cntD_nx : ∀ x y c n, cntD x y ≠ .exc c n := fun x y c n => by unfold cntD; split <;> simp
def cntE (r : R D) : D → R D
  | .lst xs => if D.plains xs = true then r.bind (cntD xs) else .no
  | _ => .no
def eCnt (f g : Env → R D) : Env → R D := fun s => (f s).bind (cntE (g s))
@[simp] theorem eCnt_ap (f g : Env → R D) (s : Env) : eCnt f g s = (f s).bind (cntE (g s)) := Eq.trans rfl rfl
section
variable {X : Cx} {W : WX} {m : Bool} {o e : Expr} {f g : Env → R D} {apos cpos : Pos} {k : Nat}
theorem de_count (hr : Room k X.A) (ho : DE X W true o f) (he : DE X W true e g)
    (hbase : attributeBase o "count" X.env (eval o X.env) = eval o X.env := by rfl)
    (hfew : ((backTo cpos (starEach [e] X.env)).all (fun x => !x.1) && (backToKw cpos (keywordEach [] X.env)).all (fun x => x.1.isSome)
      && decide (([e] : List Expr).length + ([] : List Keyword).length + (if ([] : List Keyword).isEmpty then 0 else 1) < 30)) = true := by rfl)
    (hline : (apos.endLine == cpos.line) = true := by rfl) (hs : starEach [e] X.env = (false, eval e X.env) :: starEach [] X.env := by rfl) (hplain : (backTo cpos (starEach [] X.env)).any (·.1) = false := by rfl) :
    DE X W m (.Call (.Attribute o "count" apos) [e] [] cpos) (eCnt f g) := PE.imp (pe_bm PySem.F.plainAttrs_list PySem.F.slot_list_count PySem.F.type_list_count (mt_countP hr.units) ho (pa_cons he pa_nil hs) hbase hfew hline hs hplain) fun σ H Q ⟨env, O, rs, q⟩ => by
  refine fin1 rs q fun x v H1 ex s1 rx rs1 q1 => ?_
  clear ex q
  unfold cntE at q1
  split at q1
  · rename_i xs
    split at q1
    · rename_i hp
      have hl := rx.dp (d := .lst xs) (by simpa [D.plain] using hp)
      refine ⟨?_, ?_⟩
      · have hl' := hl
        cases hl' with
        | lst hs1 _ => exact .inl ⟨rfl, _, hs1⟩
      · refine fin1 rs1 q1 fun y w H2 _ s2 ry rs2 q2 => ?_
        have rx := rx.same s2
        unfold cntD at q2
        split at q2
        · rename_i h
          refine ⟨w, _, D.pds xs, rfl, ry.dp h.1, rx.dp (d := .lst xs) (by simpa [D.plain] using h.2.1), D.pd_plain _ h.1, D.pds_plain _ h.2.1, h.2.2, ?_⟩
          have ec : (D.pds xs).countP (fun z => PyData.eqv z y.pd) = xs.countP fun z => eqvD z y := by
            rw [D.pds_map, List.countP_map]; rfl
          rw [ec]
          exact q2.val (by simp [RepD])
        · exact q2.elim
    · exact q1.elim
  · exact q1.elim
end
end DV

namespace DV
open PySem L2 PySem.Spec PyProof.Rows
open PyProof.Rows.G (tupKeyC tupKindC sorted_tups isTupObj)
/-! ### sorted(..) of a list of tuples of ints and texts -/
abbrev Ky := List (Int ⊕ Str)
def itV : Int ⊕ Str → V
  | .inl i => .int i
  | .inr x => .str x
def itmD : Int ⊕ Str → D
  | .inl i => .int i
  | .inr x => .str x
def cod1 : Int ⊕ Str → Int ⊕ List Nat
  | .inl i => .inl i
  | .inr x => .inr x.cps.toList
def cod (k : Ky) : List (Int ⊕ List Nat) := k.map cod1
def dec1 : Int ⊕ List Nat → Int ⊕ Str
  | .inl i => .inl i
  | .inr x => .inr ⟨x.toArray⟩
def dec (k : List (Int ⊕ List Nat)) : Ky := k.map dec1
theorem dec_cod (k : Ky) : dec (cod k) = k := by
  unfold dec cod
  rw [List.map_map]
  conv => rhs; rw [← List.map_id k]
  refine List.map_congr_left fun x _ => ?_
  cases x with
  | inl i => rfl
  | inr x => cases x; simp [cod1, dec1]
def confB (shape : Nat → Bool) : Nat → Ky → Bool
  | _, [] => true
  | i, x :: r => (shape i == x.isRight) && confB shape (i + 1) r
def okK (shape : Nat → Bool) (k : Ky) : Bool := !k.isEmpty && confB shape 0 k
theorem items_ok {shape : Nat → Bool} : ∀ {k : Ky} {i : Nat} {us : List Value}, confB shape i k = true → Vals (k.map itV) us → tupItems shape i us = some (cod k)
  | [], i, us, _, h => by cases h; rfl
  | .inl n :: r, i, us, hc, h => by
    simp only [confB, Bool.and_eq_true, beq_iff_eq] at hc
    cases h with
    | cons h1 h2 =>
      obtain ⟨t, rfl⟩ := h1
      have e : shape i = false := hc.1
      simp only [tupItems, e, Bool.false_eq_true, if_false]
      rw [items_ok hc.2 h2]; rfl
  | .inr x :: r, i, us, hc, h => by
    simp only [confB, Bool.and_eq_true, beq_iff_eq] at hc
    cases h with
    | cons h1 h2 =>
      obtain ⟨t, rfl⟩ := h1
      have e : shape i = true := hc.1
      simp only [tupItems, e, if_true]
      rw [items_ok hc.2 h2]; rfl
def Tps (K : PySem.W.Frag) (H : Hp) : List Ky → List V → Prop
  | [], vs => vs = []
  | k :: ks, vs => ∃ t r, vs = .ref t :: r ∧ SqT K H t (k.map itV) ∧ Tps K H ks r
def kyAt (h : Heap) (shape : Nat → Bool) (v : Value) : Ky := dec ((tupKeyC h shape v).getD [])
theorem tups_heap {X : Cx} {pins : List (Addr × Obj)} {σ : L2.St} {H : Hp} {s : Shared} {shape : Nat → Bool} (I : Inv X pins σ H s) : ∀ {ks : List Ky} {xs : List V} {us : List Value}, Tps X.K H ks xs → Vals xs us → (∀ k ∈ ks, okK shape k = true) →
    us.map (kyAt s.heap shape) = ks ∧ (∀ u ∈ us, (∃ t, u = .ref t ∧ SqT X.K H t ((kyAt s.heap shape u).map itV)) ∧ tupKeyC s.heap shape u = some (cod (kyAt s.heap shape u))) ∧ ∃ fs, TupsOf s.heap shape us fs
  | [], xs, us, hp, hv, _ => by
    have : xs = [] := hp
    subst this
    cases hv
    exact ⟨rfl, fun v h => by simp at h, [], .nil⟩
  | k :: ks, xs, us, hp, hv, hk => by
    obtain ⟨t, r, rfl, hq, hr⟩ := hp
    cases hv with
    | @cons _ u _ us' ru rr =>
      obtain rfl : u = Value.ref t := ru
      obtain ⟨its, r2, ⟨o, ho, hc, n, hd⟩, _⟩ := I.tuple hq
      have ok := hk k List.mem_cons_self
      simp only [okK, Bool.and_eq_true] at ok
      have e0 : tupKeyC s.heap shape (.ref t) = some (cod k) := by
        unfold tupKeyC
        have e1 : isTupObj s.heap (.ref t) = true := by simp [isTupObj, ho, hc]
        rw [if_pos e1]
        simp only [tupKey, ho, hd]
        exact items_ok ok.2 r2
      have ek : kyAt s.heap shape (.ref t) = k := by
        unfold kyAt
        rw [e0]; exact dec_cod k
      obtain ⟨i1, i2, fs, i3⟩ := tups_heap I hr rr fun k h => hk k (List.mem_cons_of_mem _ h)
      refine ⟨by rw [List.map_cons, ek, i1], fun v hm => ?_, ?_⟩
      · rcases List.mem_cons.mp hm with rfl | hm
        · rw [ek]; exact ⟨⟨t, rfl, hq⟩, e0⟩
        · exact i2 v hm
      · have hne := ok.1
        have hcf := ok.2
        cases k with
        | nil => simp at hne
        | cons x k' =>
          simp only [confB, Bool.and_eq_true, beq_iff_eq] at hcf
          cases r2 with
          | @cons _ f _ fs' h1 h2 =>
            refine ⟨f :: fs, .cons ⟨t, o, _, n, rfl, ho, hc, hd, by simp, fun e => ?_, fun e => ?_⟩ i3⟩
            · cases x with
              | inl i => obtain ⟨t, rfl⟩ := h1; exact ⟨_, _, rfl⟩
              | inr y => rw [e] at hcf; exact absurd hcf.1 (by simp)
            · cases x with
              | inl i => rw [e] at hcf; exact absurd hcf.1 (by simp)
              | inr y => obtain ⟨t, rfl⟩ := h1; exact ⟨_, _, rfl⟩
def kle (a b : Ky) : Bool := !lexLt itemOrd (cod b) (cod a)
theorem kle_anti {a b : Ky} (h1 : kle a b = true) (h2 : kle b a = true) : a = b := by
  simp only [kle, Bool.not_eq_true'] at h1 h2
  rw [← dec_cod a, ← dec_cod b, (listOrd itemOrd).total _ _ h2 h1]
theorem kle_trans {a b c : Ky} (h1 : kle a b = true) (h2 : kle b c = true) : kle a c = true := by
  simp only [kle, Bool.not_eq_true'] at h1 h2 ⊢
  cases h : lexLt itemOrd (cod c) (cod a) with
  | false => rfl
  | true =>
    rcases (listOrd itemOrd).negTrans (cod c) (cod b) (cod a) h with h | h
    · exact absurd (h.symm.trans h2) (by simp)
    · exact absurd (h.symm.trans h1) (by simp)
theorem kle_total {a b : Ky} (h : kle a b ≠ true) : kle b a = true := by
  have h : lexLt itemOrd (cod b) (cod a) = true := by
    unfold kle at h
    revert h
    cases lexLt itemOrd (cod b) (cod a) <;> simp
  simp only [kle, Bool.not_eq_true']
  cases h' : lexLt itemOrd (cod a) (cod b) with
  | false => rfl
  | true => exact absurd ((listOrd itemOrd).irrefl (cod b)) (by rw [(listOrd itemOrd).trans _ _ _ h h']; simp)
def insK (x : Ky) : List Ky → List Ky
  | [] => [x]
  | y :: ys => if kle x y = true then x :: y :: ys else y :: insK x ys
def isortK : List Ky → List Ky
  | [] => []
  | x :: xs => insK x (isortK xs)
theorem insK_perm (x : Ky) : ∀ ys, (insK x ys).Perm (x :: ys)
  | [] => List.Perm.refl _
  | y :: ys => by
    unfold insK
    split
    · exact List.Perm.refl _
    · exact ((insK_perm x ys).cons y).trans (List.Perm.swap x y ys)
theorem insK_sorted (x : Ky) : ∀ ys : List Ky, ys.Pairwise (fun a b => kle a b = true) → (insK x ys).Pairwise (fun a b => kle a b = true)
  | [], _ => by simp [insK]
  | y :: ys, h => by
    unfold insK
    have h' := List.pairwise_cons.mp h
    split
    · rename_i hxy
      exact List.pairwise_cons.mpr ⟨fun z hz => by
        rcases List.mem_cons.mp hz with rfl | hz
        · exact hxy
        · exact kle_trans hxy (h'.1 z hz), h⟩
    · rename_i hxy
      exact List.pairwise_cons.mpr ⟨fun z hz => by
        rcases List.mem_cons.mp ((insK_perm x ys).mem_iff.mp hz) with rfl | hz
        · exact kle_total hxy
        · exact h'.1 z hz, insK_sorted x ys h'.2⟩
theorem isortK_perm : ∀ xs, (isortK xs).Perm xs
  | [] => List.Perm.refl _
  | x :: xs => (insK_perm x _).trans ((isortK_perm xs).cons x)
theorem isortK_sorted : ∀ xs, (isortK xs).Pairwise (fun a b => kle a b = true)
  | [] => List.Pairwise.nil
  | x :: xs => insK_sorted x _ (isortK_sorted xs)
theorem sortedK_uniq : ∀ {l m : List Ky}, l.Perm m → l.Pairwise (fun p q => kle p q = true) → m.Pairwise (fun p q => kle p q = true) → l = m
  | [], m, hp, _, _ => (List.nil_perm.mp hp).symm
  | x :: l, [], hp, _, _ => absurd hp.length_eq (by simp)
  | x :: l, y :: m, hp, hl, hm => by
    have e : x = y := by
      have a1 : y ∈ x :: l := hp.mem_iff.mpr (by simp)
      have a2 : x ∈ y :: m := hp.mem_iff.mp (by simp)
      rcases List.mem_cons.mp a1 with e | a1
      · exact e.symm
      · rcases List.mem_cons.mp a2 with e | a2
        · exact e
        · exact kle_anti ((List.pairwise_cons.mp hl).1 y a1) ((List.pairwise_cons.mp hm).1 x a2)
    subst e
    rw [sortedK_uniq (hp.cons_inv) (List.pairwise_cons.mp hl).2 (List.pairwise_cons.mp hm).2]
theorem isortK_eq {qs ps : List Ky} (hp : qs.Perm ps) (hs : qs.Pairwise fun p q => kle p q = true) : qs = isortK ps := sortedK_uniq (hp.trans (isortK_perm ps).symm) hs (isortK_sorted ps)
theorem tps_of {K : PySem.W.Frag} {H : Hp} {k : Value → Ky} : ∀ {out : List Value}, (∀ u ∈ out, ∃ t, u = .ref t ∧ SqT K H t ((k u).map itV)) → Tps K H (out.map k) (out.map backV)
  | [], _ => rfl
  | u :: us, h => by
    obtain ⟨t, rfl, hq⟩ := h u (by simp)
    exact ⟨t, us.map backV, rfl, hq, tps_of fun v hv => h v (by simp [hv])⟩
def rSortT (K : PySem.W.Frag) : List V → Hp → VK → Prop := fun xs H Q => ∃ (a : Addr) (us : List V) (ks : List Ky) (shape : Nat → Bool), xs = [.ref a] ∧ SqL K H a us ∧ Tps K H ks us ∧ (∀ k ∈ ks, okK shape k = true) ∧
  ∀ qs ys p, qs.Perm ks → qs.Pairwise (fun a b => kle a b = true) → Tps K H qs ys → H p = none → Q (.ref p) (upd H p (.lst ys))
theorem call_sortT {X : Cx} : CallR X (.builtin "sorted") (rSortT X.K) := by
  intro pins s σ H xs us Q I r h
  obtain ⟨a, vs, ks, shape, rfl, hs, hp, hk, q⟩ := h
  obtain ⟨its, rv, hl, hz⟩ := I.list hs
  obtain ⟨u, rfl, ru⟩ := vals1 r
  obtain rfl : u = Value.ref a := ru
  obtain ⟨e1, e2, fs, e3⟩ := tups_heap I hp rv hk
  refine sorted_tups hl.isList e3 (fun v hv => ⟨_, (e2 v hv).2⟩) (by rw [← rv.length]; exact hz) fun st' hpm hso _ => ?_
  obtain ⟨ep, he'⟩ := PyProof.Rows.sortedAll_at s.heap its ((arrOf st').map (·.2))
  have hl1 : (arrOf st').toList.Perm (its.zip its) := by
    have e := Array.perm_iff_toList_perm.mp hpm
    rwa [pairsOf_toList] at e
  have hout : ((arrOf st').map (·.2)).toList = (arrOf st').toList.map (·.2) := by simp
  have hl2 : ((arrOf st').map (·.2)).toList.Perm its := by
    rw [hout]
    have e := hl1.map (·.2)
    rwa [List.map_snd_zip (Nat.le_refl _)] at e
  have hm : ∀ u ∈ ((arrOf st').map (·.2)).toList, ∃ t, u = .ref t ∧ SqT X.K H t ((kyAt s.heap shape u).map itV) := fun u hu => (e2 u (hl2.mem_iff.mp hu)).1
  have hr : ∀ u ∈ ((arrOf st').map (·.2)).toList, ∃ t, u = Value.ref t := fun u hu => let ⟨t, e, _⟩ := hm u hu; ⟨t, e⟩
  have hkk : ∀ i (hi : i < (arrOf st').size), KK (tupKindC s.heap shape) (arrOf st') i = cod (kyAt s.heap shape ((arrOf st')[i]).2) := fun i hi => by
    have hmem : (arrOf st')[i] ∈ its.zip its := hl1.mem_iff.mp (by simp)
    obtain ⟨m1, m2⟩ := mem_zip_self hmem
    unfold KK
    rw [Array.getElem?_eq_getElem hi]
    show (tupKeyC s.heap shape (arrOf st')[i].1).getD [] = _
    rw [(e2 _ m2).2, ← m1]; rfl
  have hsrt : (((arrOf st').map (·.2)).toList.map (kyAt s.heap shape)).Pairwise (fun a b => kle a b = true) := by
    rw [hout, List.map_map, List.pairwise_iff_getElem]
    intro i j hi hj hij
    have hi' : i < (arrOf st').size := by simpa using hi
    have hj' : j < (arrOf st').size := by simpa using hj
    have e := hso i j (by omega) (by rw [← hpm.size_eq]; exact hj')
    rw [hkk i hi', hkk j hj'] at e
    have e' : lexLt itemOrd (cod (kyAt s.heap shape ((arrOf st')[j]).2)) (cod (kyAt s.heap shape ((arrOf st')[i]).2)) = false := e
    simp only [kle, List.getElem_map, Function.comp, Array.getElem_toList, e', Bool.not_false]
  refine ⟨.ref _, upd H (s.heap.objs.size + 1) (.lst (((arrOf st').map (·.2)).toList.map backV)), I.laid (t' := s.toks) (fun _ _ => PyProof.Rows.sortedAll_old) (Nat.le_succ _) ⟨?_, ((arrOf st').map (·.2)).toList, ep, vals_back hr, he'⟩, rfl, q _ _ _ ?_ hsrt (tps_of hm) (I.hok.fresh (Nat.le_succ _))⟩
  · rw [List.length_map, hl2.length_eq, ← rv.length]; exact hz
  · rw [← e1]; exact hl2.map _
def it? : D → Option (Int ⊕ Str)
  | .int i => some (.inl i)
  | .str x => some (.inr x)
  | _ => none
def its? : List D → Option Ky
  | [] => some []
  | x :: r => match it? x, its? r with
    | some a, some b => some (a :: b)
    | _, _ => none
def kyD (k : Ky) : D := .tup (k.map itmD)
def tps? : List D → Option (List Ky)
  | [] => some []
  | .tup xs :: r => match its? xs, tps? r with
    | some a, some b => some (a :: b)
    | _, _ => none
  | _ :: _ => none
theorem it?_eq {d : D} {k : Int ⊕ Str} (h : it? d = some k) : d = itmD k := by
  unfold it? at h
  split at h
  · cases h; rfl
  · cases h; rfl
  · cases h
theorem its?_eq : ∀ {ds : List D} {k : Ky}, its? ds = some k → ds = k.map itmD
  | [], k, h => by cases h; rfl
  | d :: ds, k, h => by
    unfold its? at h
    split at h
    · rename_i a b e1 e2
      cases h
      rw [it?_eq e1, its?_eq e2]; rfl
    · cases h
theorem tps?_eq : ∀ {ds : List D} {ks : List Ky}, tps? ds = some ks → ds = ks.map kyD
  | [], ks, h => by cases h; rfl
  | d :: ds, ks, h => by
    unfold tps? at h
    split at h
    · rename_i e; cases e
    · rename_i xs r e
      cases e
      split at h
      · rename_i a b e1 e2
        cases h
        rw [its?_eq e1, tps?_eq e2]; rfl
      · cases h
    · cases h
def shOf (k : Ky) : Nat → Bool := fun i => match k[i]? with
  | some x => x.isRight
  | none => false
def sortTX : List D → R (List D)
  | [.lst xs] => match tps? xs with
    | some ks => if ks.all (okK (shOf (ks.headD []))) = true then .ok ((isortK ks).map kyD) else .no
    | none => .no
  | _ => .no
theorem sortTX_nx : ∀ x c n, sortTX x ≠ .exc c n := fun x c n => by
  unfold sortTX
  split
  · split
    · split <;> simp
    · simp
  · simp
section
variable {K : PySem.W.Frag} {O : Addr → Prop} {H : Hp}
theorem ky_rep : ∀ {k : Ky} {vs : List V}, RepDs K O H (k.map itmD) vs → vs = k.map itV
  | [], vs, h => by simp only [List.map_nil, RepDs] at h; exact h
  | x :: k, vs, h => by
    simp only [List.map_cons, RepDs] at h
    obtain ⟨v, r, rfl, h1, h2⟩ := h
    rw [ky_rep h2]
    cases x <;> (simp only [itmD, RepD] at h1; subst h1; rfl)
theorem rep_ky : ∀ {k : Ky}, RepDs K O H (k.map itmD) (k.map itV)
  | [] => by simp only [List.map_nil, RepDs]
  | x :: k => by
    simp only [List.map_cons, RepDs]
    exact ⟨_, _, rfl, by cases x <;> simp [itmD, itV, RepD], rep_ky⟩
theorem tps_rep : ∀ {ks : List Ky} {vs : List V}, RepDs K O H (ks.map kyD) vs → Tps K H ks vs
  | [], vs, h => by simp only [List.map_nil, RepDs] at h; exact h
  | k :: ks, vs, h => by
    simp only [List.map_cons, RepDs, kyD, RepD] at h
    obtain ⟨v, r, rfl, ⟨t, us, rfl, hq, h1⟩, h2⟩ := h
    rw [ky_rep h1] at hq
    exact ⟨t, r, rfl, hq, tps_rep h2⟩
theorem rep_tps : ∀ {ks : List Ky} {vs : List V}, Tps K H ks vs → RepDs K O H (ks.map kyD) vs
  | [], vs, h => by simp only [List.map_nil, RepDs]; exact h
  | k :: ks, vs, h => by
    obtain ⟨t, r, rfl, hq, h2⟩ := h
    simp only [List.map_cons, RepDs, kyD, RepD]
    exact ⟨_, _, rfl, ⟨t, _, rfl, hq, rep_ky⟩, rep_tps h2⟩
theorem ol_sortT : OpL K (rSortT K) sortTX := fun mg O σ env H Q ds vs r hx q => by
  unfold sortTX at q
  split at q
  · obtain ⟨v, e, h⟩ := repMs1 hx
    split at q
    · rename_i ks en
      split at q
      · rename_i hall
        rw [tps?_eq en] at h
        obtain ⟨a, us, e2, h1, h2⟩ := repLst h
        subst e2
        refine ⟨a, us, ks, _, e, .of h1, tps_rep h2, List.all_eq_true.mp hall, fun qs ys p hp hs hy n => ?_⟩
        have e3 : qs = isortK ks := isortK_eq hp hs
        subst e3
        exact q.put (rep_tps hy) n
      · exact q.elim
    · exact q.elim
  · exact q.elim
end
section
variable {X : Cx} {W : WX} {m : Bool} {e : Expr} {g : Env → R (List D)} {p pos : Pos}
theorem dn_sortedT (hm : X.mg "sorted" = none) (ha : DA X W true [e] g) (hg : Gl X "sorted" := by rfl) (he : starEach [e] X.env = (false, eval e X.env) :: starEach [] X.env := by rfl) : DN X W (.Call (.Name "sorted" p) [e] [] pos) (nB sortTX g) :=
  dn_callB call_sortT ol_sortT sortTX_nx hg hm (by decide +kernel) ha (by decide) (by decide) he rfl
end
end DV

/-! what the defs of the row reckon, and their walks: printed by gen.py -/
namespace Law
open PySem L2 PySem.Spec PyProof.Rows DV
def top (i : Nat) : Stmt := PySem.Challenge.pw_bargainstold_k63_errors_of_closed_days.main.body.getD i (.Pass ⟨0, 0, 0, 0⟩)
abbrev s_check_receipts : Stmt := top 13
abbrev N_check_receipts : List Str := ["receipts", "k", "whole", "kind"]
theorem sc_check_receipts : FnScope N_check_receipts ["receipts"] (defScope s_check_receipts) := ⟨rfl, rfl, rfl, by decide +kernel, rfl, by decide +kernel, by decide +kernel⟩
def st_check_receipts_1 : DV.Env → Out := sIf (tOf (e2 gtD (eB lenD (aCons (eVar 0) (aNil))) (eC (.int 20)))) (sRaise "TooMany" (eB lenD (aCons (eVar 0) (aNil)))) (sNext)
def lg_check_receipts_3 : D → DV.Env → R DV.Env := gTupD 2 (gsCons (gSet 1) (gsCons (gTupD 2 (gsCons (gSet 2) (gsCons (gSet 3) (gsNil)))) (gsNil)))
def lb_check_receipts_3 : DV.Env → Out := sIf (tOr' (tNot' (tOf (e3c leD leD (eC (.int 1)) (eVar 2) (eC (.int 99999))))) (tOf (e2 ninD (eVar 3) (eTup (aCons (eC (.str "c")) (aCons (eC (.str "k")) (aNil))))))) (sRaise "BadReceipt" (eVar 1)) (sNext)
def b_check_receipts : DV.Env → Out := sSeq (st_check_receipts_1) (sFor (iEnumD (aCons (eVar 0) (aNil))) (lg_check_receipts_3) (lb_check_receipts_3) [1, 2, 3])
def F_check_receipts : List D → FR := fnD 4 1 b_check_receipts
abbrev s_check_day : Stmt := top 14
abbrev N_check_day : List Str := ["day", "first", "receipts", "out", "counted", "cards", "place", "number", "most"]
theorem sc_check_day : FnScope N_check_day ["day"] (defScope s_check_day) := ⟨rfl, rfl, rfl, by decide +kernel, rfl, by decide +kernel, by decide +kernel⟩
def st_check_day_1 : DV.Env → Out := sAsg (gTupD 5 (gsCons (gSet 1) (gsCons (gSet 2) (gsCons (gSet 3) (gsCons (gSet 4) (gsCons (gSet 5) (gsNil))))))) (eVar 0)
def lg_check_day_5 : D → DV.Env → R DV.Env := gTupD 3 (gsCons (gSet 6) (gsCons (gSet 7) (gsCons (gSet 8) (gsNil))))
def lb_check_day_5 : DV.Env → Out := sIf (tNot' (tOf (e3c leD leD (eC (.int 0)) (eVar 7) (eVar 8)))) (sRaise "BadDay" (eVar 6)) (sNext)
def st_check_day_5b : DV.Env → Out := sFor (iTupl (eTup (aCons (eTup (aCons (eC (.int 2)) (aCons (eVar 3) (aCons (eC (.int 1000000)) (aNil))))) (aCons (eTup (aCons (eC (.int 3)) (aCons (eVar 4) (aCons (eC (.int 9999999)) (aNil))))) (aCons (eTup (aCons (eC (.int 4)) (aCons (eVar 5) (aCons (eC (.int 9999999)) (aNil))))) (aNil)))))) (lg_check_day_5) (lb_check_day_5) [6, 7, 8]
def b_check_day : DV.Env → Out := sSeq (st_check_day_1) (sSeq (sIf (tNot' (tOf (e3c leD leD (eC (.int 0)) (eVar 1) (eC (.int 1000000))))) (sRaise "BadDay" (eC (.int 0))) (sNext)) (sSeq (sDrop (eCall F_check_receipts (aCons (eVar 2) (aNil)))) (st_check_day_5b)))
def F_check_day : List D → FR := fnD 9 1 b_check_day
abbrev s_sum_of : Stmt := top 15
abbrev N_sum_of : List Str := ["receipts", "kind", "whole", "one"]
theorem sc_sum_of : FnScope N_sum_of ["receipts", "kind"] (defScope s_sum_of) := ⟨rfl, rfl, rfl, by decide +kernel, rfl, by decide +kernel, by decide +kernel⟩
def ct_sum_of_1 : DV.Env → R Bool := tOf (e2 eqD (eVar 3) (eVar 1))
def cg_sum_of_1 : D → DV.Env → R DV.Env := gTupD 2 (gsCons (gSet 2) (gsCons (gSet 3) (gsNil)))
def ce_sum_of_1 : DV.Env → R D := eVar 2
def b_sum_of : DV.Env → Out := sRet (eB sumD (aCons (eL (nLc (iLst (eVar 0)) (cg_sum_of_1) (ct_sum_of_1) (ce_sum_of_1) [2, 3])) (aNil)))
def F_sum_of : List D → FR := fnD 4 2 b_sum_of
abbrev s_due_of : Stmt := top 16
abbrev N_due_of : List Str := ["day", "receipts"]
theorem sc_due_of : FnScope N_due_of ["day", "receipts"] (defScope s_due_of) := ⟨rfl, rfl, rfl, by decide +kernel, rfl, by decide +kernel, by decide +kernel⟩
def b_due_of : DV.Env → Out := sRet (eTup (aCons (e2 subD (e2 addD (e2 ixD (eVar 0) (eC (.int 0))) (eCall F_sum_of (aCons (eVar 1) (aCons (eC (.str "c")) (aNil))))) (e2 ixD (eVar 0) (eC (.int 2)))) (aCons (eCall F_sum_of (aCons (eVar 1) (aCons (eC (.str "k")) (aNil)))) (aNil))))
def F_due_of : List D → FR := fnD 2 2 b_due_of
abbrev s_due : Stmt := top 17
abbrev N_due : List Str := ["day"]
theorem sc_due : FnScope N_due ["day"] (defScope s_due) := ⟨rfl, rfl, rfl, by decide +kernel, rfl, by decide +kernel, by decide +kernel⟩
def b_due : DV.Env → Out := sSeq (sDrop (eCall F_check_day (aCons (eVar 0) (aNil)))) (sRetC F_due_of (aCons (eVar 0) (aCons (e2 ixD (eVar 0) (eC (.int 1))) (aNil))))
def F_due : List D → FR := fnD 1 1 b_due
abbrev s_gaps_of : Stmt := top 18
abbrev N_gaps_of : List Str := ["day", "receipts", "coins", "cards"]
theorem sc_gaps_of : FnScope N_gaps_of ["day", "receipts"] (defScope s_gaps_of) := ⟨rfl, rfl, rfl, by decide +kernel, rfl, by decide +kernel, by decide +kernel⟩
def st_gaps_of_2 : DV.Env → Out := sRet (eTup (aCons (e2 subD (e2 ixD (eVar 0) (eC (.int 3))) (eVar 2)) (aCons (e2 subD (e2 ixD (eVar 0) (eC (.int 4))) (eVar 3)) (aNil))))
def b_gaps_of : DV.Env → Out := sSeq (sAsg (gTupD 2 (gsCons (gSet 2) (gsCons (gSet 3) (gsNil)))) (eCall F_due_of (aCons (eVar 0) (aCons (eVar 1) (aNil))))) (st_gaps_of_2)
def F_gaps_of : List D → FR := fnD 4 2 b_gaps_of
abbrev s_gaps : Stmt := top 19
abbrev N_gaps : List Str := ["day"]
theorem sc_gaps : FnScope N_gaps ["day"] (defScope s_gaps) := ⟨rfl, rfl, rfl, by decide +kernel, rfl, by decide +kernel, by decide +kernel⟩
def b_gaps : DV.Env → Out := sSeq (sDrop (eCall F_check_day (aCons (eVar 0) (aNil)))) (sRetC F_gaps_of (aCons (eVar 0) (aCons (e2 ixD (eVar 0) (eC (.int 1))) (aNil))))
def F_gaps : List D → FR := fnD 1 1 b_gaps
abbrev s_is_closed : Stmt := top 20
abbrev N_is_closed : List Str := ["day"]
theorem sc_is_closed : FnScope N_is_closed ["day"] (defScope s_is_closed) := ⟨rfl, rfl, rfl, by decide +kernel, rfl, by decide +kernel, by decide +kernel⟩
def st_is_closed_2 : DV.Env → Out := sRet (e2 eqD (eCall F_gaps_of (aCons (eVar 0) (aCons (e2 ixD (eVar 0) (eC (.int 1))) (aNil)))) (eTup (aCons (eC (.int 0)) (aCons (eC (.int 0)) (aNil)))))
def b_is_closed : DV.Env → Out := sSeq (sDrop (eCall F_check_day (aCons (eVar 0) (aNil)))) (st_is_closed_2)
def F_is_closed : List D → FR := fnD 1 1 b_is_closed
abbrev s_takings : Stmt := top 21
abbrev N_takings : List Str := ["day", "whole", "_"]
theorem sc_takings : FnScope N_takings ["day"] (defScope s_takings) := ⟨rfl, rfl, rfl, by decide +kernel, rfl, by decide +kernel, by decide +kernel⟩
def cg_takings_2 : D → DV.Env → R DV.Env := gTupD 2 (gsCons (gSet 1) (gsCons (gSet 2) (gsNil)))
def ce_takings_2 : DV.Env → R D := eVar 1
def st_takings_2b : DV.Env → Out := sRet (eB sumD (aCons (eL (nLc (iLst (e2 ixD (eVar 0) (eC (.int 1)))) (cg_takings_2) (tYes') (ce_takings_2) [1, 2])) (aNil)))
def b_takings : DV.Env → Out := sSeq (sDrop (eCall F_check_day (aCons (eVar 0) (aNil)))) (st_takings_2b)
def F_takings : List D → FR := fnD 3 1 b_takings
abbrev s_other : Stmt := top 23
abbrev N_other : List Str := ["kind"]
theorem sc_other : FnScope N_other ["kind"] (defScope s_other) := ⟨rfl, rfl, rfl, by decide +kernel, rfl, by decide +kernel, by decide +kernel⟩
def b_other : DV.Env → Out := sRet (eIf (tOf (e2 eqD (eVar 0) (eC (.str "c")))) (eC (.str "k")) (eC (.str "c")))
def F_other : List D → FR := fnD 1 1 b_other
abbrev s_swapped : Stmt := top 24
abbrev N_swapped : List Str := ["whole", "place", "text", "at", "found"]
theorem sc_swapped : FnScope N_swapped ["whole", "place"] (defScope s_swapped) := ⟨rfl, rfl, rfl, by decide +kernel, rfl, by decide +kernel, by decide +kernel⟩
def st_swapped_3 : DV.Env → Out := sIf (tOr' (tOf (e2 ltD (eVar 3) (eC (.int 0)))) (tOr' (tOf (e2 ltD (eVar 1) (eC (.int 0)))) (tOf (e2 eqD (e2 ixD (eVar 2) (eVar 3)) (e2 ixD (eVar 2) (e2 addD (eVar 3) (eC (.int 1)))))))) (sRet (eC .non)) (sNext)
def st_swapped_5 : DV.Env → Out := sSet 4 (e2 addD (e2 addD (e2 addD (eCutS (eVar 2) (oNone) (oSome (eVar 3))) (e2 ixD (eVar 2) (e2 addD (eVar 3) (eC (.int 1))))) (e2 ixD (eVar 2) (eVar 3))) (eCutS (eVar 2) (oSome (e2 addD (eVar 3) (eC (.int 2)))) (oNone)))
def b_swapped : DV.Env → Out := sSeq (sSet 2 (eB strD (aCons (eVar 0) (aNil)))) (sSeq (sSet 3 (e2 subD (e2 subD (eB lenD (aCons (eVar 2) (aNil))) (eC (.int 2))) (eVar 1))) (sSeq (st_swapped_3) (sSeq (st_swapped_5) (sRet (eIf (tOf (e2 neD (e2 ixD (eVar 4) (eC (.int 0))) (eC (.str "0")))) (eB intSD (aCons (eVar 4) (aNil))) (eC .non))))))
def F_swapped : List D → FR := fnD 5 2 b_swapped
abbrev s_zeroed : Stmt := top 25
abbrev N_zeroed : List Str := ["whole", "way"]
theorem sc_zeroed : FnScope N_zeroed ["whole", "way"] (defScope s_zeroed) := ⟨rfl, rfl, rfl, by decide +kernel, rfl, by decide +kernel, by decide +kernel⟩
def st_zeroed_1 : DV.Env → Out := sIf (tOf (e2 eqD (eVar 1) (eC (.int 0)))) (sRet (eIf (tOf (e2 eqD (e2 modD (eVar 0) (eC (.int 10))) (eC (.int 0)))) (e2 fdivD (eVar 0) (eC (.int 10))) (eC .non))) (sNext)
def st_zeroed_3 : DV.Env → Out := sRet (eIf (tAnd' (tOf (e2 eqD (eVar 1) (eC (.int 1)))) (tOf (e2 leD (e2 mulD (eVar 0) (eC (.int 10))) (eC (.int 99999))))) (e2 mulD (eVar 0) (eC (.int 10))) (eC .non))
def b_zeroed : DV.Env → Out := sSeq (st_zeroed_1) (st_zeroed_3)
def F_zeroed : List D → FR := fnD 2 2 b_zeroed
abbrev s_changed : Stmt := top 26
abbrev N_changed : List Str := ["receipts", "slip", "found", "kind", "k", "number", "whole", "one"]
theorem sc_changed : FnScope N_changed ["receipts", "slip"] (defScope s_changed) := ⟨rfl, rfl, rfl, by decide +kernel, rfl, by decide +kernel, by decide +kernel⟩
def st_changed_3 : DV.Env → Out := sIf (tOr' (tNot' (tOf (e3c leD leD (eC (.int 1)) (eVar 4) (eC (.int 99999))))) (tOf (e2 ninD (eVar 5) (eTup (aCons (eC (.int 0)) (aCons (eC (.int 1)) (aNil))))))) (sRet (eC .non)) (sNext)
def st_changed_5 : DV.Env → Out := sRet (e2 addD (eVar 0) (eL (nLst (aCons (eTup (aCons (eVar 4) (aCons (e2 ixD (eTup (aCons (eC (.str "c")) (aCons (eC (.str "k")) (aNil)))) (eVar 5)) (aNil)))) (aNil)))))
def st_changed_6 : DV.Env → Out := sIf (tOr' (tNot' (tOf (e3c leD ltD (eC (.int 0)) (eVar 4) (eB lenD (aCons (eVar 0) (aNil)))))) (tOf (e2 ninD (eVar 3) (eTup (aCons (eC (.str "swap")) (aCons (eC (.str "zero")) (aCons (eC (.str "kind")) (aCons (eC (.str "twice")) (aNil))))))))) (sRet (eC .non)) (sNext)
def st_changed_9 : DV.Env → Out := sIf (tOf (e2 eqD (eVar 3) (eC (.str "twice")))) (sRet (eIf (tAnd' (tOf (e2 eqD (eVar 5) (eC (.int 0)))) (tOf (e2 gtD (eCnt (eVar 0) (e2 ixD (eVar 0) (eVar 4))) (eC (.int 1))))) (e2 addD (eL (nCut (eVar 0) (oNone) (oSome (eVar 4)))) (eL (nCut (eVar 0) (oSome (e2 addD (eVar 4) (eC (.int 1)))) (oNone)))) (eC .non))) (sNext)
def st_changed_11 : DV.Env → Out := sIf (tOf (e2 eqD (eVar 3) (eC (.str "kind")))) (sRet (eIf (tOf (e2 eqD (eVar 5) (eC (.int 0)))) (e2 addD (e2 addD (eL (nCut (eVar 0) (oNone) (oSome (eVar 4)))) (eL (nLst (aCons (eTup (aCons (eVar 6) (aCons (eCall F_other (aCons (eVar 7) (aNil))) (aNil)))) (aNil))))) (eL (nCut (eVar 0) (oSome (e2 addD (eVar 4) (eC (.int 1)))) (oNone)))) (eC .non))) (sNext)
def st_changed_13 : DV.Env → Out := sSet 2 (eIf (tOf (e2 eqD (eVar 3) (eC (.str "swap")))) (eCall F_swapped (aCons (eVar 6) (aCons (eVar 5) (aNil)))) (eCall F_zeroed (aCons (eVar 6) (aCons (eVar 5) (aNil)))))
def st_changed_14 : DV.Env → Out := sRet (eIf (tOf (e1 isND (eVar 2))) (eC .non) (e2 addD (e2 addD (eL (nCut (eVar 0) (oNone) (oSome (eVar 4)))) (eL (nLst (aCons (eTup (aCons (eVar 2) (aCons (eVar 7) (aNil)))) (aNil))))) (eL (nCut (eVar 0) (oSome (e2 addD (eVar 4) (eC (.int 1)))) (oNone)))))
def b_changed : DV.Env → Out := sSeq (sAsg (gTupD 3 (gsCons (gSet 3) (gsCons (gSet 4) (gsCons (gSet 5) (gsNil))))) (eVar 1)) (sSeq (sIf (tOf (e2 eqD (eVar 3) (eC (.str "left")))) (sSeq (st_changed_3) (st_changed_5)) (sNext)) (sSeq (st_changed_6) (sSeq (sAsg (gTupD 2 (gsCons (gSet 6) (gsCons (gSet 7) (gsNil)))) (e2 ixD (eVar 0) (eVar 4))) (sSeq (st_changed_9) (sSeq (st_changed_11) (sSeq (st_changed_13) (st_changed_14)))))))
def F_changed : List D → FR := fnD 8 2 b_changed
abbrev s_is_slip_of : Stmt := top 27
abbrev N_is_slip_of : List Str := ["day", "slip", "found"]
theorem sc_is_slip_of : FnScope N_is_slip_of ["day", "slip"] (defScope s_is_slip_of) := ⟨rfl, rfl, rfl, by decide +kernel, rfl, by decide +kernel, by decide +kernel⟩
def st_is_slip_of_1 : DV.Env → Out := sIf (tOf (e2 eqD (eCall F_gaps_of (aCons (eVar 0) (aCons (e2 ixD (eVar 0) (eC (.int 1))) (aNil)))) (eTup (aCons (eC (.int 0)) (aCons (eC (.int 0)) (aNil)))))) (sRet (eC (.bl false))) (sNext)
def st_is_slip_of_4 : DV.Env → Out := sRet (eAndV (e1 notND (eVar 2)) (e2 eqD (eCall F_gaps_of (aCons (eVar 0) (aCons (eVar 2) (aNil)))) (eTup (aCons (eC (.int 0)) (aCons (eC (.int 0)) (aNil))))))
def b_is_slip_of : DV.Env → Out := sSeq (st_is_slip_of_1) (sSeq (sSet 2 (eCall F_changed (aCons (e2 ixD (eVar 0) (eC (.int 1))) (aCons (eVar 1) (aNil))))) (st_is_slip_of_4))
def F_is_slip_of : List D → FR := fnD 3 2 b_is_slip_of
abbrev s_is_slip : Stmt := top 28
abbrev N_is_slip : List Str := ["day", "slip"]
theorem sc_is_slip : FnScope N_is_slip ["day", "slip"] (defScope s_is_slip) := ⟨rfl, rfl, rfl, by decide +kernel, rfl, by decide +kernel, by decide +kernel⟩
def b_is_slip : DV.Env → Out := sSeq (sDrop (eCall F_check_day (aCons (eVar 0) (aNil)))) (sRetC F_is_slip_of (aCons (eVar 0) (aCons (eVar 1) (aNil))))
def F_is_slip : List D → FR := fnD 2 2 b_is_slip
abbrev s_mended : Stmt := top 29
abbrev N_mended : List Str := ["day", "slip"]
theorem sc_mended : FnScope N_mended ["day", "slip"] (defScope s_mended) := ⟨rfl, rfl, rfl, by decide +kernel, rfl, by decide +kernel, by decide +kernel⟩
def b_mended : DV.Env → Out := sSeq (sDrop (eCall F_check_day (aCons (eVar 0) (aNil)))) (sSeq (sIf (tNot' (tOf (eCall F_is_slip_of (aCons (eVar 0) (aCons (eVar 1) (aNil)))))) (sRaise "BadSlip" (eC (.int 0))) (sNext)) (sRetC F_changed (aCons (e2 ixD (eVar 0) (eC (.int 1))) (aCons (eVar 1) (aNil)))))
def F_mended : List D → FR := fnD 2 2 b_mended
abbrev s_tries : Stmt := top 30
abbrev N_tries : List Str := ["day", "found", "k", "coins", "cards", "place"]
theorem sc_tries : FnScope N_tries ["day"] (defScope s_tries) := ⟨rfl, rfl, rfl, by decide +kernel, rfl, by decide +kernel, by decide +kernel⟩
def st_tries_1 : DV.Env → Out := sAsg (gTupD 2 (gsCons (gSet 3) (gsCons (gSet 4) (gsNil)))) (eCall F_gaps_of (aCons (eVar 0) (aCons (e2 ixD (eVar 0) (eC (.int 1))) (aNil))))
def st_tries_2 : DV.Env → Out := sNew 1 (nLst (aCons (eTup (aCons (eC (.str "left")) (aCons (eVar 3) (aCons (eC (.int 0)) (aNil))))) (aCons (eTup (aCons (eC (.str "left")) (aCons (eVar 4) (aCons (eC (.int 1)) (aNil))))) (aNil))))
def st_tries_4 : DV.Env → Out := sExt 1 (eL (nLst (aCons (eTup (aCons (eC (.str "kind")) (aCons (eVar 2) (aCons (eC (.int 0)) (aNil))))) (aCons (eTup (aCons (eC (.str "twice")) (aCons (eVar 2) (aCons (eC (.int 0)) (aNil))))) (aCons (eTup (aCons (eC (.str "zero")) (aCons (eVar 2) (aCons (eC (.int 0)) (aNil))))) (aCons (eTup (aCons (eC (.str "zero")) (aCons (eVar 2) (aCons (eC (.int 1)) (aNil))))) (aNil)))))))
def cg_tries_5 : D → DV.Env → R DV.Env := gSet 5
def ce_tries_5 : DV.Env → R D := eTup (aCons (eC (.str "swap")) (aCons (eVar 2) (aCons (eVar 5) (aNil))))
def lg_tries_3 : D → DV.Env → R DV.Env := gSet 2
def lb_tries_3 : DV.Env → Out := sSeq (st_tries_4) (sExt 1 (eL (nLc (iRange1 (aCons (eC (.int 5)) (aNil))) (cg_tries_5) (tYes') (ce_tries_5) [5])))
def b_tries : DV.Env → Out := sSeq (st_tries_1) (sSeq (st_tries_2) (sSeq (sFor (iRange1 (aCons (eB lenD (aCons (e2 ixD (eVar 0) (eC (.int 1))) (aNil))) (aNil))) (lg_tries_3) (lb_tries_3) [2]) (sRetO 1)))
def F_tries : List D → FR := fnD 6 1 b_tries
abbrev s_slips : Stmt := top 31
abbrev N_slips : List Str := ["day", "slip"]
theorem sc_slips : FnScope N_slips ["day"] (defScope s_slips) := ⟨rfl, rfl, rfl, by decide +kernel, rfl, by decide +kernel, by decide +kernel⟩
def ct_slips_2 : DV.Env → R Bool := tOf (eCall F_is_slip_of (aCons (eVar 0) (aCons (eVar 1) (aNil))))
def cg_slips_2 : D → DV.Env → R DV.Env := gSet 1
def ce_slips_2 : DV.Env → R D := eVar 1
def st_slips_2b : DV.Env → Out := sRetL (nB sortTX (aCons (eL (nLc (iLst (eCall F_tries (aCons (eVar 0) (aNil)))) (cg_slips_2) (ct_slips_2) (ce_slips_2) [1])) (aNil)))
def b_slips : DV.Env → Out := sSeq (sDrop (eCall F_check_day (aCons (eVar 0) (aNil)))) (st_slips_2b)
def F_slips : List D → FR := fnD 2 1 b_slips
abbrev s__law_draws : Stmt := top 33
abbrev N__law_draws : List Str := ["script", "draws", "k", "rest", "turn", "mixed"]
theorem sc__law_draws : FnScope N__law_draws ["script"] (defScope s__law_draws) := ⟨rfl, rfl, rfl, by decide +kernel, rfl, by decide +kernel, by decide +kernel⟩
def lg__law_draws_5 : D → DV.Env → R DV.Env := gSet 4
def lb__law_draws_5 : DV.Env → Out := sIf (tOf (e2 gtD (eVar 3) (eC (.int 0)))) (sSeq (sApp 1 (e2 modD (eB intD (aCons (eVar 3) (aNil))) (eC (.int 65536)))) (sSet 3 (e2 fdivD (eVar 3) (eC (.int 65536))))) (sNext)
def st__law_draws_10 : DV.Env → Out := sSet 5 (e2 modD (eB intD (aCons (e2 addD (e2 mulD (eVar 3) (eC (.int 48271))) (e2 mulD (e2 addD (eVar 2) (eC (.int 1))) (eC (.int 69621)))) (aNil))) (eC (.int 2147483647)))
def st__law_draws_11 : DV.Env → Out := sSet 5 (e2 modD (eB intD (aCons (e2 addD (e2 addD (e2 mulD (eVar 5) (eC (.int 16807))) (e2 mulD (eC (.int 11)) (eVar 2))) (eC (.int 5))) (aNil))) (eC (.int 2147483629)))
def st__law_draws_4 : DV.Env → Out := sIf (tOf (e2 geD (eVar 3) (e2 powD (eC (.int 10)) (eC (.int 18))))) (sFor (iRange1 (aCons (eC (.int 60)) (aNil))) (lg__law_draws_5) (lb__law_draws_5) [4]) (sSeq (st__law_draws_10) (sSeq (st__law_draws_11) (sSeq (sApp 1 (e2 modD (eB intD (aCons (eVar 5) (aNil))) (eC (.int 65536)))) (sApp 1 (e2 modD (eB intD (aCons (e2 fdivD (eVar 5) (eC (.int 65536))) (aNil))) (eC (.int 32768)))))))
def lg__law_draws_2 : D → DV.Env → R DV.Env := gSet 2
def lb__law_draws_2 : DV.Env → Out := sSeq (sSet 3 (eB absD (aCons (e2 ixD (eVar 0) (eVar 2)) (aNil)))) (st__law_draws_4)
def st__law_draws_2b : DV.Env → Out := sFor (iRange1 (aCons (eB min2D (aCons (eC (.int 63)) (aCons (eB lenD (aCons (eVar 0) (aNil))) (aNil)))) (aNil))) (lg__law_draws_2) (lb__law_draws_2) [2, 3, 4, 5]
def b__law_draws : DV.Env → Out := sSeq (sNew 1 (nLst (aNil))) (sSeq (st__law_draws_2b) (sRetO 1))
def F__law_draws : List D → FR := fnD 6 1 b__law_draws
abbrev s__law_mix : Stmt := top 34
abbrev N__law_mix : List Str := ["draws", "k", "many", "cell"]
theorem sc__law_mix : FnScope N__law_mix ["draws", "k", "many"] (defScope s__law_mix) := ⟨rfl, rfl, rfl, by decide +kernel, rfl, by decide +kernel, by decide +kernel⟩
def st__law_mix_2 : DV.Env → Out := sIf (tOf (e2 gtD (eB lenD (aCons (eVar 0) (aNil))) (eC (.int 0)))) (sSet 3 (e2 ixD (eVar 0) (e2 modD (eB intD (aCons (eVar 1) (aNil))) (eB lenD (aCons (eVar 0) (aNil)))))) (sNext)
def st__law_mix_4 : DV.Env → Out := sIf (tOf (e2 ltD (eVar 1) (eB lenD (aCons (eVar 0) (aNil))))) (sRet (e2 modD (eB intD (aCons (eVar 3) (aNil))) (eVar 2))) (sNext)
def st__law_mix_6 : DV.Env → Out := sRet (e2 modD (eB intD (aCons (e2 fdivD (eB intD (aCons (e2 addD (e2 mulD (eVar 3) (eC (.int 7919))) (e2 mulD (eVar 1) (eC (.int 104729)))) (aNil))) (eC (.int 3))) (aNil))) (eVar 2))
def b__law_mix : DV.Env → Out := sSeq (sSet 3 (eC (.int 0))) (sSeq (st__law_mix_2) (sSeq (st__law_mix_4) (st__law_mix_6)))
def F__law_mix : List D → FR := fnD 4 3 b__law_mix
abbrev s__law_name : Stmt := top 35
abbrev N__law_name : List Str := ["e", "words", "word", "is_it"]
theorem sc__law_name : FnScope N__law_name ["e"] (defScope s__law_name) := ⟨rfl, rfl, rfl, by decide +kernel, rfl, by decide +kernel, by decide +kernel⟩
def ct__law_name_2 : DV.Env → R Bool := tOf (eVar 3)
def cg__law_name_2 : D → DV.Env → R DV.Env := gTupD 2 (gsCons (gSet 2) (gsCons (gSet 3) (gsNil)))
def ce__law_name_2 : DV.Env → R D := eVar 2
def b__law_name : Str → Addr → Addr → DV.Env → Out := fun c a dx => sSeq (sSet 1 (eL (nLst (aCons (eTup (aCons (eC (.str "day")) (aCons (eIsE 0 a dx (catL [("BadDay", true), ("BadReceipt", false), ("BadSlip", false), ("TooMany", false)] c)) (aNil)))) (aCons (eTup (aCons (eC (.str "receipt")) (aCons (eIsE 0 a dx (catL [("BadDay", false), ("BadReceipt", true), ("BadSlip", false), ("TooMany", false)] c)) (aNil)))) (aCons (eTup (aCons (eC (.str "slip")) (aCons (eIsE 0 a dx (catL [("BadDay", false), ("BadReceipt", false), ("BadSlip", true), ("TooMany", false)] c)) (aNil)))) (aCons (eTup (aCons (eC (.str "many")) (aCons (eIsE 0 a dx (catL [("BadDay", false), ("BadReceipt", false), ("BadSlip", false), ("TooMany", true)] c)) (aNil)))) (aNil)))))))) (sRet (eTup (aCons (eJoin (eC (.str " ")) (eL (nLc (iLst (eVar 1)) (cg__law_name_2) (ct__law_name_2) (ce__law_name_2) [2, 3]))) (aCons (eAt 0 a dx) (aNil)))))
abbrev tbl__law_name : List (Str × Str) := [("BadDay", "day"), ("BadReceipt", "receipt"), ("BadSlip", "slip"), ("TooMany", "many")]
theorem nm__law_name : ∀ (c : Str) (a dx : Addr) (n : Int) (d : D), nmT tbl__law_name c n = .ok d → b__law_name c a dx (some (.ex a dx n) :: List.replicate (N__law_name.length - 1) none) = .rt d := by
  intro c a dx n d h
  obtain ⟨w, hw, rfl⟩ := nmT_elim h
  simp only [tbl__law_name, List.mem_cons, Prod.mk.injEq, List.not_mem_nil, or_false] at hw
  rcases hw with ⟨rfl, rfl⟩ | ⟨rfl, rfl⟩ | ⟨rfl, rfl⟩ | ⟨rfl, rfl⟩ <;> simp [b__law_name, ct__law_name_2, cg__law_name_2, ce__law_name_2, List.replicate, (show catL [("BadDay", true), ("BadReceipt", false), ("BadSlip", false), ("TooMany", false)] "BadDay" = some true from by rfl), (show catL [("BadDay", true), ("BadReceipt", false), ("BadSlip", false), ("TooMany", false)] "BadReceipt" = some false from by rfl), (show catL [("BadDay", true), ("BadReceipt", false), ("BadSlip", false), ("TooMany", false)] "BadSlip" = some false from by rfl), (show catL [("BadDay", true), ("BadReceipt", false), ("BadSlip", false), ("TooMany", false)] "TooMany" = some false from by rfl), (show catL [("BadDay", false), ("BadReceipt", true), ("BadSlip", false), ("TooMany", false)] "BadDay" = some false from by rfl), (show catL [("BadDay", false), ("BadReceipt", true), ("BadSlip", false), ("TooMany", false)] "BadReceipt" = some true from by rfl), (show catL [("BadDay", false), ("BadReceipt", true), ("BadSlip", false), ("TooMany", false)] "BadSlip" = some false from by rfl), (show catL [("BadDay", false), ("BadReceipt", true), ("BadSlip", false), ("TooMany", false)] "TooMany" = some false from by rfl), (show catL [("BadDay", false), ("BadReceipt", false), ("BadSlip", true), ("TooMany", false)] "BadDay" = some false from by rfl), (show catL [("BadDay", false), ("BadReceipt", false), ("BadSlip", true), ("TooMany", false)] "BadReceipt" = some false from by rfl), (show catL [("BadDay", false), ("BadReceipt", false), ("BadSlip", true), ("TooMany", false)] "BadSlip" = some true from by rfl), (show catL [("BadDay", false), ("BadReceipt", false), ("BadSlip", true), ("TooMany", false)] "TooMany" = some false from by rfl), (show catL [("BadDay", false), ("BadReceipt", false), ("BadSlip", false), ("TooMany", true)] "BadDay" = some false from by rfl), (show catL [("BadDay", false), ("BadReceipt", false), ("BadSlip", false), ("TooMany", true)] "BadReceipt" = some false from by rfl), (show catL [("BadDay", false), ("BadReceipt", false), ("BadSlip", false), ("TooMany", true)] "BadSlip" = some false from by rfl), (show catL [("BadDay", false), ("BadReceipt", false), ("BadSlip", false), ("TooMany", true)] "TooMany" = some true from by rfl), DV.strs?] <;> rfl
abbrev s__law_of : Stmt := top 36
abbrev N__law_of : List Str := ["which", "day", "slip", "e"]
theorem sc__law_of : FnScope N__law_of ["which", "day", "slip"] (defScope s__law_of) := ⟨rfl, rfl, rfl, by decide +kernel, rfl, by decide +kernel, by decide +kernel⟩
def tb__law_of_1 : DV.Env → Out := sIf (tOf (e2 ltD (eVar 0) (eC (.int 5)))) (sDrop (eCallL [F_due, F_gaps, F_is_closed, F_takings, F_slips] (eVar 0) (aCons (eVar 1) (aNil)))) (sDrop (eCallL [F_is_slip, F_mended] (e2 subD (eVar 0) (eC (.int 5))) (aCons (eVar 1) (aCons (eVar 2) (aNil)))))
def th__law_of_1 : Addr → Addr → Str → DV.Env → Out := fun a dx c => sNm 3 a dx (nmT tbl__law_name c)
def st__law_of_1b : DV.Env → Out := sTry tb__law_of_1 (catL [("BadDay", true), ("BadReceipt", true), ("BadSlip", true), ("TooMany", true)]) 3 (fun c n env => th__law_of_1 0 0 c (env.set 3 (some (.ex 0 0 n))))
def b__law_of : DV.Env → Out := sSeq (st__law_of_1b) (sRet (eC .non))
def F__law_of : List D → FR := fnD 4 3 b__law_of
abbrev s_law : Stmt := top 37
abbrev N_law : List Str := ["script", "draws", "good", "pool", "turn", "at", "slip", "kept", "last", "day", "odd", "which"]
theorem sc_law : FnScope N_law ["script"] (defScope s_law) := ⟨rfl, rfl, rfl, by decide +kernel, rfl, by decide +kernel, by decide +kernel⟩
def st_law_3 : DV.Env → Out := sSet 3 (eL (nLst (aCons (eTup (aCons (eTup (aCons (eC (.int 0)) (aCons (eL (nLst (aNil))) (aCons (eC (.int 0)) (aCons (eC (.int 0)) (aCons (eC (.int 0)) (aNil))))))) (aCons (eC .non) (aNil)))) (aCons (eTup (aCons (eTup (aCons (eC (.int 1000000)) (aCons (eL (nLst (aCons (eVar 2) (aCons (eTup (aCons (eC (.int 99999)) (aCons (eC (.str "k")) (aNil)))) (aNil))))) (aCons (eC (.int 1000000)) (aCons (eC (.int 9999999)) (aCons (eC (.int 9999999)) (aNil))))))) (aCons (eC .non) (aNil)))) (aCons (eTup (aCons (eTup (aCons (eC (.int 0)) (aCons (e2 mulD (eL (nLst (aCons (eVar 2) (aNil)))) (eC (.int 20))) (aCons (eC (.int 0)) (aCons (eC (.int 95)) (aCons (eC (.int 0)) (aNil))))))) (aCons (eC .non) (aNil)))) (aCons (eTup (aCons (eTup (aCons (eC (.int 0)) (aCons (eL (nLst (aCons (eVar 2) (aNil)))) (aCons (eC (.int 0)) (aCons (eC (.int 50)) (aCons (eC (.int 0)) (aNil))))))) (aCons (eC .non) (aNil)))) (aNil)))))))
def st_law_4 : DV.Env → Out := sSet 3 (e2 addD (eVar 3) (eL (nLst (aCons (eTup (aCons (eTup (aCons (e1 negD (eC (.int 1))) (aCons (e2 mulD (eL (nLst (aCons (eVar 2) (aNil)))) (eC (.int 21))) (aCons (e1 negD (eC (.int 1))) (aCons (e1 negD (eC (.int 1))) (aCons (e1 negD (eC (.int 1))) (aNil))))))) (aCons (eTup (aCons (eC (.str "day")) (aCons (eC (.int 0)) (aNil)))) (aNil)))) (aCons (eTup (aCons (eTup (aCons (eC (.int 1000001)) (aCons (eL (nLst (aNil))) (aCons (eC (.int 0)) (aCons (eC (.int 0)) (aCons (eC (.int 0)) (aNil))))))) (aCons (eTup (aCons (eC (.str "day")) (aCons (eC (.int 0)) (aNil)))) (aNil)))) (aCons (eTup (aCons (eTup (aCons (eC (.int 0)) (aCons (e2 mulD (eL (nLst (aCons (eVar 2) (aNil)))) (eC (.int 21))) (aCons (e1 negD (eC (.int 1))) (aCons (eC (.int 0)) (aCons (eC (.int 0)) (aNil))))))) (aCons (eTup (aCons (eC (.str "many")) (aCons (eC (.int 21)) (aNil)))) (aNil)))) (aCons (eTup (aCons (eTup (aCons (eC (.int 0)) (aCons (eL (nLst (aCons (eVar 2) (aCons (eTup (aCons (eC (.int 0)) (aCons (eC (.str "c")) (aNil)))) (aNil))))) (aCons (eC (.int 0)) (aCons (eC (.int 0)) (aCons (eC (.int 0)) (aNil))))))) (aCons (eTup (aCons (eC (.str "receipt")) (aCons (eC (.int 1)) (aNil)))) (aNil)))) (aNil))))))))
def st_law_5 : DV.Env → Out := sSet 3 (e2 addD (eVar 3) (eL (nLst (aCons (eTup (aCons (eTup (aCons (eC (.int 0)) (aCons (eL (nLst (aCons (eTup (aCons (eC (.int 100000)) (aCons (eC (.str "c")) (aNil)))) (aNil)))) (aCons (eC (.int 0)) (aCons (eC (.int 0)) (aCons (eC (.int 0)) (aNil))))))) (aCons (eTup (aCons (eC (.str "receipt")) (aCons (eC (.int 0)) (aNil)))) (aNil)))) (aCons (eTup (aCons (eTup (aCons (eC (.int 0)) (aCons (eL (nLst (aCons (eTup (aCons (eC (.int 5)) (aCons (eC (.str "x")) (aNil)))) (aNil)))) (aCons (e1 negD (eC (.int 1))) (aCons (eC (.int 0)) (aCons (eC (.int 0)) (aNil))))))) (aCons (eTup (aCons (eC (.str "receipt")) (aCons (eC (.int 0)) (aNil)))) (aNil)))) (aCons (eTup (aCons (eTup (aCons (eC (.int 0)) (aCons (eL (nLst (aCons (eTup (aCons (eC (.int 5)) (aCons (eC (.str "")) (aNil)))) (aNil)))) (aCons (eC (.int 0)) (aCons (eC (.int 0)) (aCons (eC (.int 0)) (aNil))))))) (aCons (eTup (aCons (eC (.str "receipt")) (aCons (eC (.int 0)) (aNil)))) (aNil)))) (aCons (eTup (aCons (eTup (aCons (eC (.int 0)) (aCons (eL (nLst (aNil))) (aCons (e1 negD (eC (.int 1))) (aCons (e1 negD (eC (.int 1))) (aCons (eC (.int 0)) (aNil))))))) (aCons (eTup (aCons (eC (.str "day")) (aCons (eC (.int 2)) (aNil)))) (aNil)))) (aNil))))))))
def st_law_6 : DV.Env → Out := sSet 3 (e2 addD (eVar 3) (eL (nLst (aCons (eTup (aCons (eTup (aCons (eC (.int 0)) (aCons (eL (nLst (aNil))) (aCons (eC (.int 1000001)) (aCons (eC (.int 0)) (aCons (eC (.int 0)) (aNil))))))) (aCons (eTup (aCons (eC (.str "day")) (aCons (eC (.int 2)) (aNil)))) (aNil)))) (aCons (eTup (aCons (eTup (aCons (eC (.int 0)) (aCons (eL (nLst (aNil))) (aCons (eC (.int 0)) (aCons (eC (.int 10000000)) (aCons (e1 negD (eC (.int 1))) (aNil))))))) (aCons (eTup (aCons (eC (.str "day")) (aCons (eC (.int 3)) (aNil)))) (aNil)))) (aCons (eTup (aCons (eTup (aCons (eC (.int 0)) (aCons (eL (nLst (aNil))) (aCons (eC (.int 0)) (aCons (eC (.int 0)) (aCons (eC (.int 10000000)) (aNil))))))) (aCons (eTup (aCons (eC (.str "day")) (aCons (eC (.int 4)) (aNil)))) (aNil)))) (aNil)))))))
def st_law_9 : DV.Env → Out := sAsg (gTupD 2 (gsCons (gSet 9) (gsCons (gSet 10) (gsNil)))) (e2 ixD (eVar 3) (eCall F__law_mix (aCons (eVar 1) (aCons (eVar 5) (aCons (e2 ixD (eL (nLst (aCons (eC (.int 4)) (aCons (eC (.int 15)) (aNil))))) (eCall F__law_mix (aCons (eVar 1) (aCons (e2 addD (eVar 5) (eC (.int 1))) (aCons (eC (.int 2)) (aNil)))))) (aNil))))))
def st_law_10 : DV.Env → Out := sSet 6 (e2 ixD (eL (nLst (aCons (eTup (aCons (eC (.str "zero")) (aCons (eC (.int 0)) (aCons (eC (.int 1)) (aNil))))) (aCons (eTup (aCons (eC (.str "twice")) (aCons (eC (.int 0)) (aCons (eC (.int 0)) (aNil))))) (aCons (eTup (aCons (eC (.str "left")) (aCons (eC (.int 45)) (aCons (eC (.int 0)) (aNil))))) (aCons (eTup (aCons (eC (.str "kind")) (aCons (eC (.int 0)) (aCons (eC (.int 0)) (aNil))))) (aCons (eTup (aCons (eC (.str "")) (aCons (eC (.int 0)) (aCons (eC (.int 0)) (aNil))))) (aNil)))))))) (eCall F__law_mix (aCons (eVar 1) (aCons (e2 addD (eVar 5) (eC (.int 2))) (aCons (eC (.int 5)) (aNil))))))
def st_law_13 : DV.Env → Out := sIf (tOf (e1 isND (eVar 10))) (sSet 8 (e2 ixD (eL (nLst (aCons (eTup (aCons (eC (.str "slip")) (aCons (eC (.int 0)) (aNil)))) (aCons (eC .non) (aNil))))) (eB intD (aCons (eCall F_is_slip (aCons (eVar 9) (aCons (eVar 6) (aNil)))) (aNil))))) (sNext)
def cg_law_15 : D → DV.Env → R DV.Env := gSet 11
def ce_law_15 : DV.Env → R D := eCall F__law_of (aCons (eVar 11) (aCons (eVar 9) (aCons (eVar 6) (aNil))))
def st_law_15b : DV.Env → Out := sIf (tOr' (tOf (e2 neD (eL (nLc (iRange1 (aCons (eC (.int 7)) (aNil))) (cg_law_15) (tYes') (ce_law_15) [11])) (e2 addD (e2 mulD (eL (nLst (aCons (eVar 10) (aNil)))) (eC (.int 6))) (eL (nLst (aCons (eVar 8) (aNil))))))) (tOf (e2 neD (eB reprD (aCons (eVar 9) (aNil))) (eVar 7)))) (sRet (eC (.bl false))) (sNext)
def lg_law_7 : D → DV.Env → R DV.Env := gSet 4
def lb_law_7 : DV.Env → Out := sSeq (sSet 5 (e2 addD (eC (.int 10)) (e2 mulD (eC (.int 8)) (eVar 4)))) (sSeq (st_law_9) (sSeq (st_law_10) (sSeq (sSet 7 (eB reprD (aCons (eVar 9) (aNil)))) (sSeq (sSet 8 (eVar 10)) (sSeq (st_law_13) (st_law_15b))))))
def b_law : DV.Env → Out := sSeq (sSet 1 (eCall F__law_draws (aCons (eVar 0) (aNil)))) (sSeq (sSet 2 (eTup (aCons (eC (.int 5)) (aCons (eC (.str "c")) (aNil))))) (sSeq (st_law_3) (sSeq (st_law_4) (sSeq (st_law_5) (sSeq (st_law_6) (sSeq (sFor (iRange1 (aCons (eC (.int 12)) (aNil))) (lg_law_7) (lb_law_7) [4, 5, 6, 7, 8, 9, 10]) (sRet (eC (.bl true)))))))))
def F_law : List D → FR := fnD 12 1 b_law
def FunAt (K : PySem.W.Frag) (mg : Str → Option Value) (x : Str) (st : Stmt) (ps : List Str) : Prop := ∃ f fd, Fun K x x st f fd ∧ mg x = some (.ref f) ∧ Binds K fd ps []
structure Txt (P : Program) (K : PySem.W.Frag) (mg : Str → Option Value) : Prop where
  f_check_receipts : FunAt K mg "check_receipts" s_check_receipts ["receipts"]
  f_check_day : FunAt K mg "check_day" s_check_day ["day"]
  f_sum_of : FunAt K mg "sum_of" s_sum_of ["receipts", "kind"]
  f_due_of : FunAt K mg "due_of" s_due_of ["day", "receipts"]
  f_due : FunAt K mg "due" s_due ["day"]
  f_gaps_of : FunAt K mg "gaps_of" s_gaps_of ["day", "receipts"]
  f_gaps : FunAt K mg "gaps" s_gaps ["day"]
  f_is_closed : FunAt K mg "is_closed" s_is_closed ["day"]
  f_takings : FunAt K mg "takings" s_takings ["day"]
  f_other : FunAt K mg "other" s_other ["kind"]
  f_swapped : FunAt K mg "swapped" s_swapped ["whole", "place"]
  f_zeroed : FunAt K mg "zeroed" s_zeroed ["whole", "way"]
  f_changed : FunAt K mg "changed" s_changed ["receipts", "slip"]
  f_is_slip_of : FunAt K mg "is_slip_of" s_is_slip_of ["day", "slip"]
  f_is_slip : FunAt K mg "is_slip" s_is_slip ["day", "slip"]
  f_mended : FunAt K mg "mended" s_mended ["day", "slip"]
  f_tries : FunAt K mg "tries" s_tries ["day"]
  f_slips : FunAt K mg "slips" s_slips ["day"]
  f__law_draws : FunAt K mg "_law_draws" s__law_draws ["script"]
  f__law_mix : FunAt K mg "_law_mix" s__law_mix ["draws", "k", "many"]
  f__law_name : FunAt K mg "_law_name" s__law_name ["e"]
  f__law_of : FunAt K mg "_law_of" s__law_of ["which", "day", "slip"]
  f_law : FunAt K mg "law" s_law ["script"]
  b_abs : mg "abs" = none
  b_enumerate : mg "enumerate" = none
  b_int : mg "int" = none
  b_isinstance : mg "isinstance" = none
  b_len : mg "len" = none
  b_min : mg "min" = none
  b_range : mg "range" = none
  b_repr : mg "repr" = none
  b_sorted : mg "sorted" = none
  b_str : mg "str" = none
  b_sum : mg "sum" = none
  g_CARDS : ∃ u, mg "CARDS" = some (.str "k" u)
  g_COINS : ∃ u, mg "COINS" = some (.str "c" u)
  g_MOST_COUNTED : ∃ u, mg "MOST_COUNTED" = some (.int 9999999 u)
  g_MOST_RECEIPT : ∃ u, mg "MOST_RECEIPT" = some (.int 99999 u)
  g_MOST_RECEIPTS : ∃ u, mg "MOST_RECEIPTS" = some (.int 20 u)
  g_MOST_SUM : ∃ u, mg "MOST_SUM" = some (.int 1000000 u)
  x_BadDay : ExcAt P K mg "BadDay"
  x_BadReceipt : ExcAt P K mg "BadReceipt"
  x_BadSlip : ExcAt P K mg "BadSlip"
  x_ShopError : ExcAt P K mg "ShopError"
  x_TooMany : ExcAt P K mg "TooMany"
  xi_BadDay : XiAt K mg "BadDay"
  xi_BadReceipt : XiAt K mg "BadReceipt"
  xi_BadSlip : XiAt K mg "BadSlip"
  xi_TooMany : XiAt K mg "TooMany"
  i_BadDay_BadDay : IsAt K mg "BadDay" "BadDay" true
  i_BadDay_BadReceipt : IsAt K mg "BadDay" "BadReceipt" false
  i_BadDay_BadSlip : IsAt K mg "BadDay" "BadSlip" false
  i_BadDay_TooMany : IsAt K mg "BadDay" "TooMany" false
  i_BadReceipt_BadDay : IsAt K mg "BadReceipt" "BadDay" false
  i_BadReceipt_BadReceipt : IsAt K mg "BadReceipt" "BadReceipt" true
  i_BadReceipt_BadSlip : IsAt K mg "BadReceipt" "BadSlip" false
  i_BadReceipt_TooMany : IsAt K mg "BadReceipt" "TooMany" false
  i_BadSlip_BadDay : IsAt K mg "BadSlip" "BadDay" false
  i_BadSlip_BadReceipt : IsAt K mg "BadSlip" "BadReceipt" false
  i_BadSlip_BadSlip : IsAt K mg "BadSlip" "BadSlip" true
  i_BadSlip_TooMany : IsAt K mg "BadSlip" "TooMany" false
  i_TooMany_BadDay : IsAt K mg "TooMany" "BadDay" false
  i_TooMany_BadReceipt : IsAt K mg "TooMany" "BadReceipt" false
  i_TooMany_BadSlip : IsAt K mg "TooMany" "BadSlip" false
  i_TooMany_TooMany : IsAt K mg "TooMany" "TooMany" true
  m_BadDay_ShopError : CatAt K mg "BadDay" "ShopError" true
  m_BadReceipt_ShopError : CatAt K mg "BadReceipt" "ShopError" true
  m_BadSlip_ShopError : CatAt K mg "BadSlip" "ShopError" true
  m_TooMany_ShopError : CatAt K mg "TooMany" "ShopError" true
section
variable {P : Program} {w : World} {K : PySem.W.Frag} {mg : Str → Option Value} {base : Heap} {f : Addr}
theorem ok_check_receipts (T : Txt P K mg) : BodyOk P w K mg base N_check_receipts "check_receipts" s_check_receipts f 2 False b_check_receipts := by
  intro cdv A outer s H E B hr hg
  exact (dss_cons (ds_if (dt_cmp op_gt o2_gt gtD_nx (nomark _) (de_len T.b_len (da_cons (de_var (pv 0)) da_nil)) (de_glob T.g_MOST_RECEIPTS (by rfl))) (dss_one (ds_raise (by rfl) (hr.mono (by decide)) (L2N.takes_of (by rfl) (by rfl) (by rfl) (by rfl)) (by rfl) T.x_TooMany (de_len T.b_len (da_cons (de_var (pv 0)) da_nil)))) dss_nil) (dss_one (ds_for [1, 2, 3] (passes_of (by rfl)) rfl (di_enum T.b_enumerate (da_cons (de_var (pv 0)) da_nil)) (dg_tup (by rfl) (dgs_cons (dg_name (pg_name (i := 1) sc_check_receipts.nd (by rfl) (by first | exact Or.inl rfl | exact Or.inr rfl))) (dgs_cons (dg_tup (by rfl) (dgs_cons (dg_name (pg_name (i := 2) sc_check_receipts.nd (by rfl) (by first | exact Or.inl rfl | exact Or.inr rfl))) (dgs_cons (dg_name (pg_name (i := 3) sc_check_receipts.nd (by rfl) (by first | exact Or.inl rfl | exact Or.inr rfl))) dgs_nil))) dgs_nil))) (dss_one (ds_if (DW.dt (dw_or (dt_not (dt_chain op_le op_le o2_le o2_le leD_nx leD_nx de_int (de_var (pv 2)) (de_glob T.g_MOST_RECEIPT (by rfl)))) (dw_or1 (dt_cmp (op_ninP hr.units) o2_nin ninD_nx (by with_unfolding_all rfl) (de_var (pv 3)) (de_tup (da_cons (de_globS T.g_COINS (by rfl)) (da_cons (de_globS T.g_CARDS (by rfl)) da_nil))))))) (dss_one (ds_raise (by rfl) (hr.mono (by decide)) (L2N.takes_of (by rfl) (by rfl) (by rfl) (by rfl)) (by rfl) T.x_BadReceipt (de_var (pv 1)))) dss_nil)))))
theorem c_check_receipts (T : Txt P K mg) : CallOk P w K mg base 3 1 "check_receipts" F_check_receipts := by
  obtain ⟨f, fd, FF, hm, hb⟩ := T.f_check_receipts
  exact ⟨f, fd, _, fn_ok FF sc_check_receipts (ok_check_receipts T), hm, FF.kp, hb⟩
theorem ok_check_day (T : Txt P K mg) : BodyOk P w K mg base N_check_day "check_day" s_check_day f 3 False b_check_day := by
  intro cdv A outer s H E B hr hg
  exact (dss_cons (ds_asg (fun t u h1 h2 => ps_asg h1 h2) (de_var (pv 0)) (dg_tup (by rfl) (dgs_cons (dg_name (pg_name (i := 1) sc_check_day.nd (by rfl) (by first | exact Or.inl rfl | exact Or.inr rfl))) (dgs_cons (dg_name (pg_name (i := 2) sc_check_day.nd (by rfl) (by first | exact Or.inl rfl | exact Or.inr rfl))) (dgs_cons (dg_name (pg_name (i := 3) sc_check_day.nd (by rfl) (by first | exact Or.inl rfl | exact Or.inr rfl))) (dgs_cons (dg_name (pg_name (i := 4) sc_check_day.nd (by rfl) (by first | exact Or.inl rfl | exact Or.inr rfl))) (dgs_cons (dg_name (pg_name (i := 5) sc_check_day.nd (by rfl) (by first | exact Or.inl rfl | exact Or.inr rfl))) dgs_nil))))))) (dss_cons (ds_if (dt_not (dt_chain op_le op_le o2_le o2_le leD_nx leD_nx de_int (de_var (pv 1)) (de_glob T.g_MOST_SUM (by rfl)))) (dss_one (ds_raise (by rfl) (hr.mono (by decide)) (L2N.takes_of (by rfl) (by rfl) (by rfl) (by rfl)) (by rfl) T.x_BadDay de_int)) dss_nil) (dss_cons (ds_expr (fun t h => ps_expr h) (de_call (c_check_receipts T) fnD_arity (hr.mono (by decide)) (L2N.takes_of (by rfl) (by rfl) (by rfl) (by rfl)) (da_cons (de_var (pv 2)) da_nil) (by rfl))) (dss_one (ds_for [6, 7, 8] (passes_of (by rfl)) rfl (di_tup (de_tup (da_cons (de_tup (da_cons de_int (da_cons (de_var (pv 3)) (da_cons (de_glob T.g_MOST_SUM (by rfl)) da_nil)))) (da_cons (de_tup (da_cons de_int (da_cons (de_var (pv 4)) (da_cons (de_glob T.g_MOST_COUNTED (by rfl)) da_nil)))) (da_cons (de_tup (da_cons de_int (da_cons (de_var (pv 5)) (da_cons (de_glob T.g_MOST_COUNTED (by rfl)) da_nil)))) da_nil))))) (dg_tup (by rfl) (dgs_cons (dg_name (pg_name (i := 6) sc_check_day.nd (by rfl) (by first | exact Or.inl rfl | exact Or.inr rfl))) (dgs_cons (dg_name (pg_name (i := 7) sc_check_day.nd (by rfl) (by first | exact Or.inl rfl | exact Or.inr rfl))) (dgs_cons (dg_name (pg_name (i := 8) sc_check_day.nd (by rfl) (by first | exact Or.inl rfl | exact Or.inr rfl))) dgs_nil)))) (dss_one (ds_if (dt_not (dt_chain op_le op_le o2_le o2_le leD_nx leD_nx de_int (de_var (pv 7)) (de_var (pv 8)))) (dss_one (ds_raise (by rfl) (hr.mono (by decide)) (L2N.takes_of (by rfl) (by rfl) (by rfl) (by rfl)) (by rfl) T.x_BadDay (de_var (pv 6)))) dss_nil)))))))
theorem c_check_day (T : Txt P K mg) : CallOk P w K mg base 4 1 "check_day" F_check_day := by
  obtain ⟨f, fd, FF, hm, hb⟩ := T.f_check_day
  exact ⟨f, fd, _, fn_ok FF sc_check_day (ok_check_day T), hm, FF.kp, hb⟩
theorem ok_sum_of (T : Txt P K mg) : BodyOk P w K mg base N_sum_of "sum_of" s_sum_of f 1 False b_sum_of := by
  intro cdv A outer s H E B hr hg
  exact (dss_one (ds_ret (de_sum T.b_sum (by rfl) (da_cons (DN.de (dn_lc (m := true) (by rfl) sc_sum_of.nd (di_list (de_var (pv 0))) (blkOk_by (own := [("whole", 2), ("one", 3)]) (N := N_sum_of) (sc := defScope s_sum_of) (by decide +kernel)) (fun _ _ _ _ _ => (dg_tup (by rfl) (dgs_cons (dg_name (pg_name (i := 2) sc_sum_of.nd (by rfl) (by first | exact Or.inl rfl | exact Or.inr rfl))) (dgs_cons (dg_name (pg_name (i := 3) sc_sum_of.nd (by rfl) (by first | exact Or.inl rfl | exact Or.inr rfl))) dgs_nil)))) (fun _ _ _ _ _ => (dts_one (dt_cmp (op_eqP hr.units) o2_eq eqD_nx (nomark _) (de_var (pv 3)) (de_var (pv 1))))) (fun _ _ _ _ _ => (de_var (pv 2))) (by decide))) da_nil))))
theorem c_sum_of (T : Txt P K mg) : CallOk P w K mg base 2 2 "sum_of" F_sum_of := by
  obtain ⟨f, fd, FF, hm, hb⟩ := T.f_sum_of
  exact ⟨f, fd, _, fn_ok FF sc_sum_of (ok_sum_of T), hm, FF.kp, hb⟩
theorem ok_due_of (T : Txt P K mg) : BodyOk P w K mg base N_due_of "due_of" s_due_of f 2 False b_due_of := by
  intro cdv A outer s H E B hr hg
  exact (dss_one (ds_ret (de_tup (da_cons (de_sub (de_add (de_ix (de_var (pv 0)) de_int) (de_call (c_sum_of T) fnD_arity (hr.mono (by decide)) (L2N.takes_of (by rfl) (by rfl) (by rfl) (by rfl)) (da_cons (de_var (pv 1)) (da_cons (de_globS T.g_COINS (by rfl)) da_nil)) (by rfl))) (de_ix (de_var (pv 0)) de_int)) (da_cons (de_call (c_sum_of T) fnD_arity (hr.mono (by decide)) (L2N.takes_of (by rfl) (by rfl) (by rfl) (by rfl)) (da_cons (de_var (pv 1)) (da_cons (de_globS T.g_CARDS (by rfl)) da_nil)) (by rfl)) da_nil)))))
theorem c_due_of (T : Txt P K mg) : CallOk P w K mg base 3 2 "due_of" F_due_of := by
  obtain ⟨f, fd, FF, hm, hb⟩ := T.f_due_of
  exact ⟨f, fd, _, fn_ok FF sc_due_of (ok_due_of T), hm, FF.kp, hb⟩
theorem ok_due (T : Txt P K mg) : BodyOk P w K mg base N_due "due" s_due f 4 False b_due := by
  intro cdv A outer s H E B hr hg
  exact (dss_cons (ds_expr (fun t h => ps_expr h) (de_call (c_check_day T) fnD_arity (hr.mono (by decide)) (L2N.takes_of (by rfl) (by rfl) (by rfl) (by rfl)) (da_cons (de_var (pv 0)) da_nil) (by rfl))) (dss_one (ds_retC (c_due_of T) fnD_arity (hr.mono (by decide)) (L2N.takes_of (by rfl) (by rfl) (by rfl) (by rfl)) (da_cons (de_var (pv 0)) (da_cons (de_ix (de_var (pv 0)) de_int) da_nil)) (by rfl))))
theorem c_due (T : Txt P K mg) : CallOk P w K mg base 5 1 "due" F_due := by
  obtain ⟨f, fd, FF, hm, hb⟩ := T.f_due
  exact ⟨f, fd, _, fn_ok FF sc_due (ok_due T), hm, FF.kp, hb⟩
theorem ok_gaps_of (T : Txt P K mg) : BodyOk P w K mg base N_gaps_of "gaps_of" s_gaps_of f 3 False b_gaps_of := by
  intro cdv A outer s H E B hr hg
  exact (dss_cons (ds_asg (fun t u h1 h2 => ps_asg h1 h2) (de_call (c_due_of T) fnD_arity (hr.mono (by decide)) (L2N.takes_of (by rfl) (by rfl) (by rfl) (by rfl)) (da_cons (de_var (pv 0)) (da_cons (de_var (pv 1)) da_nil)) (by rfl)) (dg_tup (by rfl) (dgs_cons (dg_name (pg_name (i := 2) sc_gaps_of.nd (by rfl) (by first | exact Or.inl rfl | exact Or.inr rfl))) (dgs_cons (dg_name (pg_name (i := 3) sc_gaps_of.nd (by rfl) (by first | exact Or.inl rfl | exact Or.inr rfl))) dgs_nil)))) (dss_one (ds_ret (de_tup (da_cons (de_sub (de_ix (de_var (pv 0)) de_int) (de_var (pv 2))) (da_cons (de_sub (de_ix (de_var (pv 0)) de_int) (de_var (pv 3))) da_nil))))))
theorem c_gaps_of (T : Txt P K mg) : CallOk P w K mg base 4 2 "gaps_of" F_gaps_of := by
  obtain ⟨f, fd, FF, hm, hb⟩ := T.f_gaps_of
  exact ⟨f, fd, _, fn_ok FF sc_gaps_of (ok_gaps_of T), hm, FF.kp, hb⟩
theorem ok_gaps (T : Txt P K mg) : BodyOk P w K mg base N_gaps "gaps" s_gaps f 4 False b_gaps := by
  intro cdv A outer s H E B hr hg
  exact (dss_cons (ds_expr (fun t h => ps_expr h) (de_call (c_check_day T) fnD_arity (hr.mono (by decide)) (L2N.takes_of (by rfl) (by rfl) (by rfl) (by rfl)) (da_cons (de_var (pv 0)) da_nil) (by rfl))) (dss_one (ds_retC (c_gaps_of T) fnD_arity (hr.mono (by decide)) (L2N.takes_of (by rfl) (by rfl) (by rfl) (by rfl)) (da_cons (de_var (pv 0)) (da_cons (de_ix (de_var (pv 0)) de_int) da_nil)) (by rfl))))
theorem c_gaps (T : Txt P K mg) : CallOk P w K mg base 5 1 "gaps" F_gaps := by
  obtain ⟨f, fd, FF, hm, hb⟩ := T.f_gaps
  exact ⟨f, fd, _, fn_ok FF sc_gaps (ok_gaps T), hm, FF.kp, hb⟩
theorem ok_is_closed (T : Txt P K mg) : BodyOk P w K mg base N_is_closed "is_closed" s_is_closed f 4 False b_is_closed := by
  intro cdv A outer s H E B hr hg
  exact (dss_cons (ds_expr (fun t h => ps_expr h) (de_call (c_check_day T) fnD_arity (hr.mono (by decide)) (L2N.takes_of (by rfl) (by rfl) (by rfl) (by rfl)) (da_cons (de_var (pv 0)) da_nil) (by rfl))) (dss_one (ds_ret (de_cmp (op_eqP hr.units) o2_eq eqD_nx (nomark _) (de_call (c_gaps_of T) fnD_arity (hr.mono (by decide)) (L2N.takes_of (by rfl) (by rfl) (by rfl) (by rfl)) (da_cons (de_var (pv 0)) (da_cons (de_ix (de_var (pv 0)) de_int) da_nil)) (by rfl)) (de_tup (da_cons de_int (da_cons de_int da_nil)))))))
theorem c_is_closed (T : Txt P K mg) : CallOk P w K mg base 5 1 "is_closed" F_is_closed := by
  obtain ⟨f, fd, FF, hm, hb⟩ := T.f_is_closed
  exact ⟨f, fd, _, fn_ok FF sc_is_closed (ok_is_closed T), hm, FF.kp, hb⟩
theorem ok_takings (T : Txt P K mg) : BodyOk P w K mg base N_takings "takings" s_takings f 4 False b_takings := by
  intro cdv A outer s H E B hr hg
  exact (dss_cons (ds_expr (fun t h => ps_expr h) (de_call (c_check_day T) fnD_arity (hr.mono (by decide)) (L2N.takes_of (by rfl) (by rfl) (by rfl) (by rfl)) (da_cons (de_var (pv 0)) da_nil) (by rfl))) (dss_one (ds_ret (de_sum T.b_sum (by rfl) (da_cons (DN.de (dn_lc (m := true) (by rfl) sc_takings.nd (di_list (de_ix (de_var (pv 0)) de_int)) (blkOk_by (own := [("whole", 1), ("_", 2)]) (N := N_takings) (sc := defScope s_takings) (by decide +kernel)) (fun _ _ _ _ _ => (dg_tup (by rfl) (dgs_cons (dg_name (pg_name (i := 1) sc_takings.nd (by rfl) (by first | exact Or.inl rfl | exact Or.inr rfl))) (dgs_cons (dg_name (pg_name (i := 2) sc_takings.nd (by rfl) (by first | exact Or.inl rfl | exact Or.inr rfl))) dgs_nil)))) (fun _ _ _ _ _ => dts_nil) (fun _ _ _ _ _ => (de_var (pv 1))) (by decide))) da_nil)))))
theorem c_takings (T : Txt P K mg) : CallOk P w K mg base 5 1 "takings" F_takings := by
  obtain ⟨f, fd, FF, hm, hb⟩ := T.f_takings
  exact ⟨f, fd, _, fn_ok FF sc_takings (ok_takings T), hm, FF.kp, hb⟩
theorem ok_other (T : Txt P K mg) : BodyOk P w K mg base N_other "other" s_other f 1 False b_other := by
  intro cdv A outer s H E B hr hg
  exact (dss_one (ds_ret (de_if (dt_cmp (op_eqP hr.units) o2_eq eqD_nx (nomark _) (de_var (pv 0)) (de_globS T.g_COINS (by rfl))) (de_globS T.g_CARDS (by rfl)) (de_globS T.g_COINS (by rfl)))))
theorem c_other (T : Txt P K mg) : CallOk P w K mg base 2 1 "other" F_other := by
  obtain ⟨f, fd, FF, hm, hb⟩ := T.f_other
  exact ⟨f, fd, _, fn_ok FF sc_other (ok_other T), hm, FF.kp, hb⟩
theorem ok_swapped (T : Txt P K mg) : BodyOk P w K mg base N_swapped "swapped" s_swapped f 1 False b_swapped := by
  intro cdv A outer s H E B hr hg
  exact (dss_cons (ds_set (fun t h => ps_set (i := 2) sc_swapped.nd rfl (Or.inl rfl) h) (de_strI T.b_str (da_cons (de_var (pv 0)) da_nil))) (dss_cons (ds_set (fun t h => ps_set (i := 3) sc_swapped.nd rfl (Or.inl rfl) h) (de_sub (de_sub (de_len T.b_len (da_cons (de_var (pv 2)) da_nil)) de_int) (de_var (pv 1)))) (dss_cons (ds_if (DW.dt (dw_or (dt_cmp op_lt o2_lt ltD_nx (nomark _) (de_var (pv 3)) de_int) (dw_or (dt_cmp op_lt o2_lt ltD_nx (nomark _) (de_var (pv 1)) de_int) (dw_or1 (dt_cmp (op_eqP hr.units) o2_eq eqD_nx (nomark _) (de_ix (de_var (pv 2)) (de_var (pv 3))) (de_ix (de_var (pv 2)) (de_add (de_var (pv 3)) de_int))))))) (dss_one (ds_ret de_non)) dss_nil) (dss_cons (ds_set (fun t h => ps_set (i := 4) sc_swapped.nd rfl (Or.inl rfl) h) (de_add (de_add (de_add (de_cutS (de_var (pv 2)) do_none (do_some (de_var (pv 3)))) (de_ix (de_var (pv 2)) (de_add (de_var (pv 3)) de_int))) (de_ix (de_var (pv 2)) (de_var (pv 3)))) (de_cutS (de_var (pv 2)) (do_some (de_add (de_var (pv 3)) de_int)) do_none))) (dss_one (ds_ret (de_if (dt_cmp (op_neP hr.units) o2_ne neD_nx (nomark _) (de_ix (de_var (pv 4)) de_int) de_str) (de_intS T.b_int (da_cons (de_var (pv 4)) da_nil)) de_non)))))))
theorem c_swapped (T : Txt P K mg) : CallOk P w K mg base 2 2 "swapped" F_swapped := by
  obtain ⟨f, fd, FF, hm, hb⟩ := T.f_swapped
  exact ⟨f, fd, _, fn_ok FF sc_swapped (ok_swapped T), hm, FF.kp, hb⟩
theorem ok_zeroed (T : Txt P K mg) : BodyOk P w K mg base N_zeroed "zeroed" s_zeroed f 1 False b_zeroed := by
  intro cdv A outer s H E B hr hg
  exact (dss_cons (ds_if (dt_cmp (op_eqP hr.units) o2_eq eqD_nx (nomark _) (de_var (pv 1)) de_int) (dss_one (ds_ret (de_if (dt_cmp (op_eqP hr.units) o2_eq eqD_nx (nomark _) (de_mod (de_var (pv 0)) de_int) de_int) (de_fdiv (de_var (pv 0)) de_int) de_non))) dss_nil) (dss_one (ds_ret (de_if (DW.dt (dw_and (dt_cmp (op_eqP hr.units) o2_eq eqD_nx (nomark _) (de_var (pv 1)) de_int) (dw_and1 (dt_cmp op_le o2_le leD_nx (nomark _) (de_mul (de_var (pv 0)) de_int) (de_glob T.g_MOST_RECEIPT (by rfl)))))) (de_mul (de_var (pv 0)) de_int) de_non))))
theorem c_zeroed (T : Txt P K mg) : CallOk P w K mg base 2 2 "zeroed" F_zeroed := by
  obtain ⟨f, fd, FF, hm, hb⟩ := T.f_zeroed
  exact ⟨f, fd, _, fn_ok FF sc_zeroed (ok_zeroed T), hm, FF.kp, hb⟩
theorem ok_changed (T : Txt P K mg) : BodyOk P w K mg base N_changed "changed" s_changed f 2 False b_changed := by
  intro cdv A outer s H E B hr hg
  exact (dss_cons (ds_asg (fun t u h1 h2 => ps_asg h1 h2) (de_var (pv 1)) (dg_tup (by rfl) (dgs_cons (dg_name (pg_name (i := 3) sc_changed.nd (by rfl) (by first | exact Or.inl rfl | exact Or.inr rfl))) (dgs_cons (dg_name (pg_name (i := 4) sc_changed.nd (by rfl) (by first | exact Or.inl rfl | exact Or.inr rfl))) (dgs_cons (dg_name (pg_name (i := 5) sc_changed.nd (by rfl) (by first | exact Or.inl rfl | exact Or.inr rfl))) dgs_nil))))) (dss_cons (ds_if (dt_cmp (op_eqP hr.units) o2_eq eqD_nx (nomark _) (de_var (pv 3)) de_str) (dss_cons (ds_if (DW.dt (dw_or (dt_not (dt_chain op_le op_le o2_le o2_le leD_nx leD_nx de_int (de_var (pv 4)) (de_glob T.g_MOST_RECEIPT (by rfl)))) (dw_or1 (dt_cmp (op_ninP hr.units) o2_nin ninD_nx (by with_unfolding_all rfl) (de_var (pv 5)) (de_tup (da_cons de_int (da_cons de_int da_nil))))))) (dss_one (ds_ret de_non)) dss_nil) (dss_one (ds_ret (de_add (de_var (pv 0)) (DN.de (dn_lst (da_cons (de_tup (da_cons (de_var (pv 4)) (da_cons (de_ix (de_tup (da_cons (de_globS T.g_COINS (by rfl)) (da_cons (de_globS T.g_CARDS (by rfl)) da_nil))) (de_var (pv 5))) da_nil))) da_nil))))))) dss_nil) (dss_cons (ds_if (DW.dt (dw_or (dt_not (dt_chain op_le op_lt o2_le o2_lt leD_nx ltD_nx de_int (de_var (pv 4)) (de_len T.b_len (da_cons (de_var (pv 0)) da_nil)))) (dw_or1 (dt_cmp (op_ninP hr.units) o2_nin ninD_nx (by with_unfolding_all rfl) (de_var (pv 3)) (de_tup (da_cons de_str (da_cons de_str (da_cons de_str (da_cons de_str da_nil))))))))) (dss_one (ds_ret de_non)) dss_nil) (dss_cons (ds_asg (fun t u h1 h2 => ps_asg h1 h2) (de_ix (de_var (pv 0)) (de_var (pv 4))) (dg_tup (by rfl) (dgs_cons (dg_name (pg_name (i := 6) sc_changed.nd (by rfl) (by first | exact Or.inl rfl | exact Or.inr rfl))) (dgs_cons (dg_name (pg_name (i := 7) sc_changed.nd (by rfl) (by first | exact Or.inl rfl | exact Or.inr rfl))) dgs_nil)))) (dss_cons (ds_if (dt_cmp (op_eqP hr.units) o2_eq eqD_nx (nomark _) (de_var (pv 3)) de_str) (dss_one (ds_ret (de_if (DW.dt (dw_and (dt_cmp (op_eqP hr.units) o2_eq eqD_nx (nomark _) (de_var (pv 5)) de_int) (dw_and1 (dt_cmp op_gt o2_gt gtD_nx (nomark _) (de_count hr (de_var (pv 0)) (de_ix (de_var (pv 0)) (de_var (pv 4)))) de_int)))) (de_add (DN.de (dn_slice (de_var (pv 0)) do_none (do_some (de_var (pv 4))))) (DN.de (dn_slice (de_var (pv 0)) (do_some (de_add (de_var (pv 4)) de_int)) do_none))) de_non))) dss_nil) (dss_cons (ds_if (dt_cmp (op_eqP hr.units) o2_eq eqD_nx (nomark _) (de_var (pv 3)) de_str) (dss_one (ds_ret (de_if (dt_cmp (op_eqP hr.units) o2_eq eqD_nx (nomark _) (de_var (pv 5)) de_int) (de_add (de_add (DN.de (dn_slice (de_var (pv 0)) do_none (do_some (de_var (pv 4))))) (DN.de (dn_lst (da_cons (de_tup (da_cons (de_var (pv 6)) (da_cons (de_call (c_other T) fnD_arity (hr.mono (by decide)) (L2N.takes_of (by rfl) (by rfl) (by rfl) (by rfl)) (da_cons (de_var (pv 7)) da_nil) (by rfl)) da_nil))) da_nil)))) (DN.de (dn_slice (de_var (pv 0)) (do_some (de_add (de_var (pv 4)) de_int)) do_none))) de_non))) dss_nil) (dss_cons (ds_set (fun t h => ps_set (i := 2) sc_changed.nd rfl (Or.inl rfl) h) (de_if (dt_cmp (op_eqP hr.units) o2_eq eqD_nx (nomark _) (de_var (pv 3)) de_str) (de_call (c_swapped T) fnD_arity (hr.mono (by decide)) (L2N.takes_of (by rfl) (by rfl) (by rfl) (by rfl)) (da_cons (de_var (pv 6)) (da_cons (de_var (pv 5)) da_nil)) (by rfl)) (de_call (c_zeroed T) fnD_arity (hr.mono (by decide)) (L2N.takes_of (by rfl) (by rfl) (by rfl) (by rfl)) (da_cons (de_var (pv 6)) (da_cons (de_var (pv 5)) da_nil)) (by rfl)))) (dss_one (ds_ret (de_if (dt_isN (de_var (pv 2))) de_non (de_add (de_add (DN.de (dn_slice (de_var (pv 0)) do_none (do_some (de_var (pv 4))))) (DN.de (dn_lst (da_cons (de_tup (da_cons (de_var (pv 2)) (da_cons (de_var (pv 7)) da_nil))) da_nil)))) (DN.de (dn_slice (de_var (pv 0)) (do_some (de_add (de_var (pv 4)) de_int)) do_none)))))))))))))
theorem c_changed (T : Txt P K mg) : CallOk P w K mg base 3 2 "changed" F_changed := by
  obtain ⟨f, fd, FF, hm, hb⟩ := T.f_changed
  exact ⟨f, fd, _, fn_ok FF sc_changed (ok_changed T), hm, FF.kp, hb⟩
theorem ok_is_slip_of (T : Txt P K mg) : BodyOk P w K mg base N_is_slip_of "is_slip_of" s_is_slip_of f 4 False b_is_slip_of := by
  intro cdv A outer s H E B hr hg
  exact (dss_cons (ds_if (dt_cmp (op_eqP hr.units) o2_eq eqD_nx (nomark _) (de_call (c_gaps_of T) fnD_arity (hr.mono (by decide)) (L2N.takes_of (by rfl) (by rfl) (by rfl) (by rfl)) (da_cons (de_var (pv 0)) (da_cons (de_ix (de_var (pv 0)) de_int) da_nil)) (by rfl)) (de_tup (da_cons de_int (da_cons de_int da_nil)))) (dss_one (ds_ret de_bl)) dss_nil) (dss_cons (ds_set (fun t h => ps_set (i := 2) sc_is_slip_of.nd rfl (Or.inl rfl) h) (de_call (c_changed T) fnD_arity (hr.mono (by decide)) (L2N.takes_of (by rfl) (by rfl) (by rfl) (by rfl)) (da_cons (de_ix (de_var (pv 0)) de_int) (da_cons (de_var (pv 1)) da_nil)) (by rfl))) (dss_one (ds_ret (de_and (de_notN (de_var (pv 2))) (de_one (de_cmp (op_eqP hr.units) o2_eq eqD_nx (nomark _) (de_call (c_gaps_of T) fnD_arity (hr.mono (by decide)) (L2N.takes_of (by rfl) (by rfl) (by rfl) (by rfl)) (da_cons (de_var (pv 0)) (da_cons (de_var (pv 2)) da_nil)) (by rfl)) (de_tup (da_cons de_int (da_cons de_int da_nil))))))))))
theorem c_is_slip_of (T : Txt P K mg) : CallOk P w K mg base 5 2 "is_slip_of" F_is_slip_of := by
  obtain ⟨f, fd, FF, hm, hb⟩ := T.f_is_slip_of
  exact ⟨f, fd, _, fn_ok FF sc_is_slip_of (ok_is_slip_of T), hm, FF.kp, hb⟩
theorem ok_is_slip (T : Txt P K mg) : BodyOk P w K mg base N_is_slip "is_slip" s_is_slip f 5 False b_is_slip := by
  intro cdv A outer s H E B hr hg
  exact (dss_cons (ds_expr (fun t h => ps_expr h) (de_call (c_check_day T) fnD_arity (hr.mono (by decide)) (L2N.takes_of (by rfl) (by rfl) (by rfl) (by rfl)) (da_cons (de_var (pv 0)) da_nil) (by rfl))) (dss_one (ds_retC (c_is_slip_of T) fnD_arity (hr.mono (by decide)) (L2N.takes_of (by rfl) (by rfl) (by rfl) (by rfl)) (da_cons (de_var (pv 0)) (da_cons (de_var (pv 1)) da_nil)) (by rfl))))
theorem c_is_slip (T : Txt P K mg) : CallOk P w K mg base 6 2 "is_slip" F_is_slip := by
  obtain ⟨f, fd, FF, hm, hb⟩ := T.f_is_slip
  exact ⟨f, fd, _, fn_ok FF sc_is_slip (ok_is_slip T), hm, FF.kp, hb⟩
theorem ok_mended (T : Txt P K mg) : BodyOk P w K mg base N_mended "mended" s_mended f 5 False b_mended := by
  intro cdv A outer s H E B hr hg
  exact (dss_cons (ds_expr (fun t h => ps_expr h) (de_call (c_check_day T) fnD_arity (hr.mono (by decide)) (L2N.takes_of (by rfl) (by rfl) (by rfl) (by rfl)) (da_cons (de_var (pv 0)) da_nil) (by rfl))) (dss_cons (ds_if (dt_not (dt_of (de_call (c_is_slip_of T) fnD_arity (hr.mono (by decide)) (L2N.takes_of (by rfl) (by rfl) (by rfl) (by rfl)) (da_cons (de_var (pv 0)) (da_cons (de_var (pv 1)) da_nil)) (by rfl)))) (dss_one (ds_raise (by rfl) (hr.mono (by decide)) (L2N.takes_of (by rfl) (by rfl) (by rfl) (by rfl)) (by rfl) T.x_BadSlip de_int)) dss_nil) (dss_one (ds_retC (c_changed T) fnD_arity (hr.mono (by decide)) (L2N.takes_of (by rfl) (by rfl) (by rfl) (by rfl)) (da_cons (de_ix (de_var (pv 0)) de_int) (da_cons (de_var (pv 1)) da_nil)) (by rfl)))))
theorem c_mended (T : Txt P K mg) : CallOk P w K mg base 6 2 "mended" F_mended := by
  obtain ⟨f, fd, FF, hm, hb⟩ := T.f_mended
  exact ⟨f, fd, _, fn_ok FF sc_mended (ok_mended T), hm, FF.kp, hb⟩
theorem ok_tries (T : Txt P K mg) : BodyOk P w K mg base N_tries "tries" s_tries f 4 False b_tries := by
  intro cdv A outer s H E B hr hg
  exact (dss_cons (ds_asg (fun t u h1 h2 => ps_asg h1 h2) (de_call (c_gaps_of T) fnD_arity (hr.mono (by decide)) (L2N.takes_of (by rfl) (by rfl) (by rfl) (by rfl)) (da_cons (de_var (pv 0)) (da_cons (de_ix (de_var (pv 0)) de_int) da_nil)) (by rfl)) (dg_tup (by rfl) (dgs_cons (dg_name (pg_name (i := 3) sc_tries.nd (by rfl) (by first | exact Or.inl rfl | exact Or.inr rfl))) (dgs_cons (dg_name (pg_name (i := 4) sc_tries.nd (by rfl) (by first | exact Or.inl rfl | exact Or.inr rfl))) dgs_nil)))) (dss_cons (ds_new (fun t h => ps_set (i := 1) sc_tries.nd rfl (Or.inl rfl) h) (dn_lst (da_cons (de_tup (da_cons de_str (da_cons (de_var (pv 3)) (da_cons de_int da_nil)))) (da_cons (de_tup (da_cons de_str (da_cons (de_var (pv 4)) (da_cons de_int da_nil)))) da_nil)))) (dss_cons (ds_for [2] (passes_of (by rfl)) rfl (di_range1 T.b_range (da_cons (de_len T.b_len (da_cons (de_ix (de_var (pv 0)) de_int) da_nil)) da_nil)) (dg_name (pg_name (i := 2) sc_tries.nd (by rfl) (by first | exact Or.inl rfl | exact Or.inr rfl))) (dss_cons (ds_extend (i := 1) (fun t h => ps_expr (pe_bm PySem.F.plainAttrs_list PySem.F.slot_list_extend PySem.F.type_list_extend mt_extend (pv 1) h)) (DN.de (dn_lst (da_cons (de_tup (da_cons de_str (da_cons (de_var (pv 2)) (da_cons de_int da_nil)))) (da_cons (de_tup (da_cons de_str (da_cons (de_var (pv 2)) (da_cons de_int da_nil)))) (da_cons (de_tup (da_cons de_str (da_cons (de_var (pv 2)) (da_cons de_int da_nil)))) (da_cons (de_tup (da_cons de_str (da_cons (de_var (pv 2)) (da_cons de_int da_nil)))) da_nil))))))) (dss_one (ds_extend (i := 1) (fun t h => ps_expr (pe_bm PySem.F.plainAttrs_list PySem.F.slot_list_extend PySem.F.type_list_extend mt_extend (pv 1) h)) (DN.de (dn_lc (m := true) (by rfl) sc_tries.nd (di_range1 T.b_range (da_cons de_int da_nil)) (blkOk_by (own := [("place", 5)]) (N := N_tries) (sc := defScope s_tries) (by decide +kernel)) (fun _ _ _ _ _ => (dg_name (pg_name (i := 5) sc_tries.nd (by rfl) (by first | exact Or.inl rfl | exact Or.inr rfl)))) (fun _ _ _ _ _ => dts_nil) (fun _ _ _ _ _ => (de_tup (da_cons de_str (da_cons (de_var (pv 2)) (da_cons (de_var (pv 5)) da_nil))))) (by decide))))))) (dss_one (ds_retO (pv 1))))))
theorem c_tries (T : Txt P K mg) : CallOk P w K mg base 5 1 "tries" F_tries := by
  obtain ⟨f, fd, FF, hm, hb⟩ := T.f_tries
  exact ⟨f, fd, _, fn_ok FF sc_tries (ok_tries T), hm, FF.kp, hb⟩
theorem ok_slips (T : Txt P K mg) : BodyOk P w K mg base N_slips "slips" s_slips f 5 False b_slips := by
  intro cdv A outer s H E B hr hg
  exact (dss_cons (ds_expr (fun t h => ps_expr h) (de_call (c_check_day T) fnD_arity (hr.mono (by decide)) (L2N.takes_of (by rfl) (by rfl) (by rfl) (by rfl)) (da_cons (de_var (pv 0)) da_nil) (by rfl))) (dss_one (ds_retL (dn_sortedT T.b_sorted (da_cons (DN.de (dn_lc (m := true) (by rfl) sc_slips.nd (di_list (de_call (c_tries T) fnD_arity (hr.mono (by decide)) (L2N.takes_of (by rfl) (by rfl) (by rfl) (by rfl)) (da_cons (de_var (pv 0)) da_nil) (by rfl))) (blkOk_by (own := [("slip", 1)]) (N := N_slips) (sc := defScope s_slips) (by decide +kernel)) (fun _ _ _ _ _ => (dg_name (pg_name (i := 1) sc_slips.nd (by rfl) (by first | exact Or.inl rfl | exact Or.inr rfl)))) (fun _ _ _ _ _ => (dts_one (dt_of (de_call (c_is_slip_of T) fnD_arity (hr.mono (by decide)) takes0N (da_cons (de_var (pv 0)) (da_cons (de_var (pv 1)) da_nil)) (by rfl))))) (fun _ _ _ _ _ => (de_var (pv 1))) (by decide))) da_nil)))))
theorem c_slips (T : Txt P K mg) : CallOk P w K mg base 6 1 "slips" F_slips := by
  obtain ⟨f, fd, FF, hm, hb⟩ := T.f_slips
  exact ⟨f, fd, _, fn_ok FF sc_slips (ok_slips T), hm, FF.kp, hb⟩
theorem ok__law_draws (T : Txt P K mg) : BodyOk P w K mg base N__law_draws "_law_draws" s__law_draws f 1 False b__law_draws := by
  intro cdv A outer s H E B hr hg
  exact (dss_cons (ds_new (fun t h => ps_set (i := 1) sc__law_draws.nd rfl (Or.inl rfl) h) (dn_lst da_nil)) (dss_cons (ds_for [2, 3, 4, 5] (passes_of (by rfl)) rfl (di_range1 T.b_range (da_cons (de_min2 T.b_min (by rfl) (da_cons de_int (da_cons (de_len T.b_len (da_cons (de_var (pv 0)) da_nil)) da_nil))) da_nil)) (dg_name (pg_name (i := 2) sc__law_draws.nd (by rfl) (by first | exact Or.inl rfl | exact Or.inr rfl))) (dss_cons (ds_set (fun t h => ps_set (i := 3) sc__law_draws.nd rfl (Or.inl rfl) h) (de_abs T.b_abs (da_cons (de_ix (de_var (pv 0)) (de_var (pv 2))) da_nil))) (dss_one (ds_if (dt_cmp op_ge o2_ge geD_nx (nomark _) (de_var (pv 3)) (de_pow de_int de_int)) (dss_one (ds_for [4] (passes_of (by rfl)) rfl (di_range1 T.b_range (da_cons de_int da_nil)) (dg_name (pg_name (i := 4) sc__law_draws.nd (by rfl) (by first | exact Or.inl rfl | exact Or.inr rfl))) (dss_one (ds_if (dt_cmp op_gt o2_gt gtD_nx (nomark _) (de_var (pv 3)) de_int) (dss_cons (ds_append (i := 1) (fun t h => ps_expr (pe_bm PySem.F.plainAttrs_list PySem.F.slot_list_append PySem.F.type_list_append mt_append (pv 1) h)) (de_mod (de_int1 T.b_int (da_cons (de_var (pv 3)) da_nil)) de_int)) (dss_one (ds_set (fun t h => ps_set (i := 3) sc__law_draws.nd rfl (Or.inl rfl) h) (de_fdiv (de_var (pv 3)) de_int)))) dss_nil)))) (dss_cons (ds_set (fun t h => ps_set (i := 5) sc__law_draws.nd rfl (Or.inl rfl) h) (de_mod (de_int1 T.b_int (da_cons (de_add (de_mul (de_var (pv 3)) de_int) (de_mul (de_add (de_var (pv 2)) de_int) de_int)) da_nil)) de_int)) (dss_cons (ds_set (fun t h => ps_set (i := 5) sc__law_draws.nd rfl (Or.inl rfl) h) (de_mod (de_int1 T.b_int (da_cons (de_add (de_add (de_mul (de_var (pv 5)) de_int) (de_mul de_int (de_var (pv 2)))) de_int) da_nil)) de_int)) (dss_cons (ds_append (i := 1) (fun t h => ps_expr (pe_bm PySem.F.plainAttrs_list PySem.F.slot_list_append PySem.F.type_list_append mt_append (pv 1) h)) (de_mod (de_int1 T.b_int (da_cons (de_var (pv 5)) da_nil)) de_int)) (dss_one (ds_append (i := 1) (fun t h => ps_expr (pe_bm PySem.F.plainAttrs_list PySem.F.slot_list_append PySem.F.type_list_append mt_append (pv 1) h)) (de_mod (de_int1 T.b_int (da_cons (de_fdiv (de_var (pv 5)) de_int) da_nil)) de_int)))))))))) (dss_one (ds_retO (pv 1)))))
theorem c__law_draws (T : Txt P K mg) : CallOk P w K mg base 2 1 "_law_draws" F__law_draws := by
  obtain ⟨f, fd, FF, hm, hb⟩ := T.f__law_draws
  exact ⟨f, fd, _, fn_ok FF sc__law_draws (ok__law_draws T), hm, FF.kp, hb⟩
theorem ok__law_mix (T : Txt P K mg) : BodyOk P w K mg base N__law_mix "_law_mix" s__law_mix f 1 False b__law_mix := by
  intro cdv A outer s H E B hr hg
  exact (dss_cons (ds_set (fun t h => ps_set (i := 3) sc__law_mix.nd rfl (Or.inl rfl) h) de_int) (dss_cons (ds_if (dt_cmp op_gt o2_gt gtD_nx (nomark _) (de_len T.b_len (da_cons (de_var (pv 0)) da_nil)) de_int) (dss_one (ds_set (fun t h => ps_set (i := 3) sc__law_mix.nd rfl (Or.inl rfl) h) (de_ix (de_var (pv 0)) (de_mod (de_int1 T.b_int (da_cons (de_var (pv 1)) da_nil)) (de_len T.b_len (da_cons (de_var (pv 0)) da_nil)))))) dss_nil) (dss_cons (ds_if (dt_cmp op_lt o2_lt ltD_nx (nomark _) (de_var (pv 1)) (de_len T.b_len (da_cons (de_var (pv 0)) da_nil))) (dss_one (ds_ret (de_mod (de_int1 T.b_int (da_cons (de_var (pv 3)) da_nil)) (de_var (pv 2))))) dss_nil) (dss_one (ds_ret (de_mod (de_int1 T.b_int (da_cons (de_fdiv (de_int1 T.b_int (da_cons (de_add (de_mul (de_var (pv 3)) de_int) (de_mul (de_var (pv 1)) de_int)) da_nil)) de_int) da_nil)) (de_var (pv 2))))))))
theorem c__law_mix (T : Txt P K mg) : CallOk P w K mg base 2 3 "_law_mix" F__law_mix := by
  obtain ⟨f, fd, FF, hm, hb⟩ := T.f__law_mix
  exact ⟨f, fd, _, fn_ok FF sc__law_mix (ok__law_mix T), hm, FF.kp, hb⟩
theorem n__law_name (T : Txt P K mg) : NameOk P w K mg base 1 "_law_name" (nmT tbl__law_name) := by
  obtain ⟨f, fd, FF, hm, hb⟩ := T.f__law_name
  exact name_ok FF hm hb sc__law_name (fun cdv A outer s H E B a C dx oe c hot F => have hq : (a, oe) ∈ [(a, oe)] := List.mem_cons_self; (dss_cons (ds_set (fun t h => ps_set (i := 1) sc__law_name.nd rfl (Or.inl rfl) h) (DN.de (dn_lst (da_cons (de_tup (da_cons de_str (da_cons (de_isE (i := 0) F hq T.b_isinstance (isCons T.i_BadDay_BadDay (isCons T.i_BadReceipt_BadDay (isCons T.i_BadSlip_BadDay (isCons T.i_TooMany_BadDay isNil)))) T.x_BadDay.mg (pv 0)) da_nil))) (da_cons (de_tup (da_cons de_str (da_cons (de_isE (i := 0) F hq T.b_isinstance (isCons T.i_BadDay_BadReceipt (isCons T.i_BadReceipt_BadReceipt (isCons T.i_BadSlip_BadReceipt (isCons T.i_TooMany_BadReceipt isNil)))) T.x_BadReceipt.mg (pv 0)) da_nil))) (da_cons (de_tup (da_cons de_str (da_cons (de_isE (i := 0) F hq T.b_isinstance (isCons T.i_BadDay_BadSlip (isCons T.i_BadReceipt_BadSlip (isCons T.i_BadSlip_BadSlip (isCons T.i_TooMany_BadSlip isNil)))) T.x_BadSlip.mg (pv 0)) da_nil))) (da_cons (de_tup (da_cons de_str (da_cons (de_isE (i := 0) F hq T.b_isinstance (isCons T.i_BadDay_TooMany (isCons T.i_BadReceipt_TooMany (isCons T.i_BadSlip_TooMany (isCons T.i_TooMany_TooMany isNil)))) T.x_TooMany.mg (pv 0)) da_nil))) da_nil))))))) (dss_one (ds_ret (de_tup (da_cons (de_join de_str (DN.de (dn_lcQ (m := true) ⟨hot.1, hot.2⟩ hq sc__law_name.nd (diq_list (de_var (pv 1))) (blkOk_by (own := [("word", 2), ("is_it", 3)]) (N := N__law_name) (sc := defScope s__law_name) (by decide +kernel)) (fun _ _ _ _ _ => (dgq_tup ⟨hot.1, hot.2⟩ (dgs_cons (dg_name (pg_name (i := 2) sc__law_name.nd (by rfl) (by first | exact Or.inl rfl | exact Or.inr rfl))) (dgs_cons (dg_name (pg_name (i := 3) sc__law_name.nd (by rfl) (by first | exact Or.inl rfl | exact Or.inr rfl))) dgs_nil)))) (fun _ _ _ _ _ => (dts_one (dt_of (de_var (pv 3))))) (fun _ _ _ _ _ => (de_var (pv 2))) (by decide)))) (da_cons (de_atP (i := 0) F hq (pv 0)) da_nil))))))) nm__law_name
theorem ok__law_of (T : Txt P K mg) : BodyOk P w K mg base N__law_of "_law_of" s__law_of f 6 False b__law_of := by
  intro cdv A outer s H E B hr hg
  exact (dss_cons (ds_try (cat := (catL [("BadDay", true), ("BadReceipt", true), ("BadSlip", true), ("TooMany", true)])) (h := (fun c n env => th__law_of_1 0 0 c (env.set 3 (some (.ex 0 0 n))))) th__law_of_1 (by rfl) (by rfl) sc__law_of.nd (by rfl) (by rfl) (by rfl) (by rfl) T.x_ShopError (L2N.takes_of (by rfl) (by rfl) (by rfl) (by rfl)) (fun W1 pn1 xe1 tk hp => (dss_one (ds_if (dt_cmp op_lt o2_lt ltD_nx (nomark _) (de_var (pv 0)) de_int) (dss_one (ds_expr (fun t h => ps_expr h) (de_callL (.cons (CallOk.up (k := 6) (c_due T) (by decide)) fnD_arity (by rfl) (by rfl) (by rfl) (.cons (CallOk.up (k := 6) (c_gaps T) (by decide)) fnD_arity (by rfl) (by rfl) (by rfl) (.cons (CallOk.up (k := 6) (c_is_closed T) (by decide)) fnD_arity (by rfl) (by rfl) (by rfl) (.cons (CallOk.up (k := 6) (c_takings T) (by decide)) fnD_arity (by rfl) (by rfl) (by rfl) (.cons (CallOk.up (k := 6) (c_slips T) (by decide)) fnD_arity (by rfl) (by rfl) (by rfl) .nil))))) (by decide) (hr.mono (by decide)) tk (de_var (pv 0)) (da_cons (de_var (pv 1)) da_nil)))) (dss_one (ds_expr (fun t h => ps_expr h) (de_callL (.cons (CallOk.up (k := 6) (c_is_slip T) (by decide)) fnD_arity (by rfl) (by rfl) (by rfl) (.cons (CallOk.up (k := 6) (c_mended T) (by decide)) fnD_arity (by rfl) (by rfl) (by rfl) .nil)) (by decide) (hr.mono (by decide)) tk (de_sub (de_var (pv 0)) de_int) (da_cons (de_var (pv 1)) (da_cons (de_var (pv 2)) da_nil)))))))) (catCons T.m_BadDay_ShopError (catCons T.m_BadReceipt_ShopError (catCons T.m_BadSlip_ShopError (catCons T.m_TooMany_ShopError catNil)))) (fun a dx C1 c oe pn1 xf no hmc hcc hz hd => (dss_one (ds_retNm (n__law_name T) (hr.mono (by decide)) ⟨hmc, xf, no, xi_of (xiCons T.xi_BadDay (xiCons T.xi_BadReceipt (xiCons T.xi_BadSlip (xiCons T.xi_TooMany xiNil)))) hcc hmc, hz, hd⟩ (pv 3)))) (fun a dx c k env hi => by simp [th__law_of_1, List.getElem?_set_self hi])) (dss_one (ds_ret de_non)))
theorem c__law_of (T : Txt P K mg) : CallOk P w K mg base 7 3 "_law_of" F__law_of := by
  obtain ⟨f, fd, FF, hm, hb⟩ := T.f__law_of
  exact ⟨f, fd, _, fn_ok FF sc__law_of (ok__law_of T), hm, FF.kp, hb⟩
theorem ok_law (T : Txt P K mg) : BodyOk P w K mg base N_law "law" s_law f 7 True b_law := by
  intro cdv A outer s H E B hr hg
  exact (dss_cons (ds_set (fun t h => ps_set (i := 1) sc_law.nd rfl (Or.inl rfl) h) (de_call (c__law_draws T) fnD_arity (hr.mono (by decide)) (L2N.takes_of (by rfl) (by rfl) (by rfl) (by rfl)) (da_cons (de_var (pv 0)) da_nil) (by rfl))) (dss_cons (ds_set (fun t h => ps_set (i := 2) sc_law.nd rfl (Or.inl rfl) h) (de_tup (da_cons de_int (da_cons de_str da_nil)))) (dss_cons (ds_set (fun t h => ps_set (i := 3) sc_law.nd rfl (Or.inl rfl) h) (DN.de (dn_lst (da_cons (de_tup (da_cons (de_tup (da_cons de_int (da_cons (DN.de (dn_lst da_nil)) (da_cons de_int (da_cons de_int (da_cons de_int da_nil)))))) (da_cons de_non da_nil))) (da_cons (de_tup (da_cons (de_tup (da_cons de_int (da_cons (DN.de (dn_lst (da_cons (de_var (pv 2)) (da_cons (de_tup (da_cons de_int (da_cons de_str da_nil))) da_nil)))) (da_cons de_int (da_cons de_int (da_cons de_int da_nil)))))) (da_cons de_non da_nil))) (da_cons (de_tup (da_cons (de_tup (da_cons de_int (da_cons (de_mul (DN.de (dn_lst (da_cons (de_var (pv 2)) da_nil))) de_int) (da_cons de_int (da_cons de_int (da_cons de_int da_nil)))))) (da_cons de_non da_nil))) (da_cons (de_tup (da_cons (de_tup (da_cons de_int (da_cons (DN.de (dn_lst (da_cons (de_var (pv 2)) da_nil))) (da_cons de_int (da_cons de_int (da_cons de_int da_nil)))))) (da_cons de_non da_nil))) da_nil))))))) (dss_cons (ds_set (fun t h => ps_set (i := 3) sc_law.nd rfl (Or.inl rfl) h) (de_add (de_var (pv 3)) (DN.de (dn_lst (da_cons (de_tup (da_cons (de_tup (da_cons (de_neg de_int) (da_cons (de_mul (DN.de (dn_lst (da_cons (de_var (pv 2)) da_nil))) de_int) (da_cons (de_neg de_int) (da_cons (de_neg de_int) (da_cons (de_neg de_int) da_nil)))))) (da_cons (de_tup (da_cons de_str (da_cons de_int da_nil))) da_nil))) (da_cons (de_tup (da_cons (de_tup (da_cons de_int (da_cons (DN.de (dn_lst da_nil)) (da_cons de_int (da_cons de_int (da_cons de_int da_nil)))))) (da_cons (de_tup (da_cons de_str (da_cons de_int da_nil))) da_nil))) (da_cons (de_tup (da_cons (de_tup (da_cons de_int (da_cons (de_mul (DN.de (dn_lst (da_cons (de_var (pv 2)) da_nil))) de_int) (da_cons (de_neg de_int) (da_cons de_int (da_cons de_int da_nil)))))) (da_cons (de_tup (da_cons de_str (da_cons de_int da_nil))) da_nil))) (da_cons (de_tup (da_cons (de_tup (da_cons de_int (da_cons (DN.de (dn_lst (da_cons (de_var (pv 2)) (da_cons (de_tup (da_cons de_int (da_cons de_str da_nil))) da_nil)))) (da_cons de_int (da_cons de_int (da_cons de_int da_nil)))))) (da_cons (de_tup (da_cons de_str (da_cons de_int da_nil))) da_nil))) da_nil)))))))) (dss_cons (ds_set (fun t h => ps_set (i := 3) sc_law.nd rfl (Or.inl rfl) h) (de_add (de_var (pv 3)) (DN.de (dn_lst (da_cons (de_tup (da_cons (de_tup (da_cons de_int (da_cons (DN.de (dn_lst (da_cons (de_tup (da_cons de_int (da_cons de_str da_nil))) da_nil))) (da_cons de_int (da_cons de_int (da_cons de_int da_nil)))))) (da_cons (de_tup (da_cons de_str (da_cons de_int da_nil))) da_nil))) (da_cons (de_tup (da_cons (de_tup (da_cons de_int (da_cons (DN.de (dn_lst (da_cons (de_tup (da_cons de_int (da_cons de_str da_nil))) da_nil))) (da_cons (de_neg de_int) (da_cons de_int (da_cons de_int da_nil)))))) (da_cons (de_tup (da_cons de_str (da_cons de_int da_nil))) da_nil))) (da_cons (de_tup (da_cons (de_tup (da_cons de_int (da_cons (DN.de (dn_lst (da_cons (de_tup (da_cons de_int (da_cons de_str da_nil))) da_nil))) (da_cons de_int (da_cons de_int (da_cons de_int da_nil)))))) (da_cons (de_tup (da_cons de_str (da_cons de_int da_nil))) da_nil))) (da_cons (de_tup (da_cons (de_tup (da_cons de_int (da_cons (DN.de (dn_lst da_nil)) (da_cons (de_neg de_int) (da_cons (de_neg de_int) (da_cons de_int da_nil)))))) (da_cons (de_tup (da_cons de_str (da_cons de_int da_nil))) da_nil))) da_nil)))))))) (dss_cons (ds_set (fun t h => ps_set (i := 3) sc_law.nd rfl (Or.inl rfl) h) (de_add (de_var (pv 3)) (DN.de (dn_lst (da_cons (de_tup (da_cons (de_tup (da_cons de_int (da_cons (DN.de (dn_lst da_nil)) (da_cons de_int (da_cons de_int (da_cons de_int da_nil)))))) (da_cons (de_tup (da_cons de_str (da_cons de_int da_nil))) da_nil))) (da_cons (de_tup (da_cons (de_tup (da_cons de_int (da_cons (DN.de (dn_lst da_nil)) (da_cons de_int (da_cons de_int (da_cons (de_neg de_int) da_nil)))))) (da_cons (de_tup (da_cons de_str (da_cons de_int da_nil))) da_nil))) (da_cons (de_tup (da_cons (de_tup (da_cons de_int (da_cons (DN.de (dn_lst da_nil)) (da_cons de_int (da_cons de_int (da_cons de_int da_nil)))))) (da_cons (de_tup (da_cons de_str (da_cons de_int da_nil))) da_nil))) da_nil))))))) (dss_cons (ds_for [4, 5, 6, 7, 8, 9, 10] (passes_of (by rfl)) rfl (di_range1 T.b_range (da_cons de_int da_nil)) (dg_name (pg_name (i := 4) sc_law.nd (by rfl) (by first | exact Or.inl rfl | exact Or.inr rfl))) (dss_cons (ds_set (fun t h => ps_set (i := 5) sc_law.nd rfl (Or.inl rfl) h) (de_add de_int (de_mul de_int (de_var (pv 4))))) (dss_cons (ds_asg (fun t u h1 h2 => ps_asg h1 h2) (de_ix (de_var (pv 3)) (de_call (c__law_mix T) fnD_arity (hr.mono (by decide)) (L2N.takes_of (by rfl) (by rfl) (by rfl) (by rfl)) (da_cons (de_var (pv 1)) (da_cons (de_var (pv 5)) (da_cons (de_ix (DN.de (dn_lst (da_cons de_int (da_cons de_int da_nil)))) (de_call (c__law_mix T) fnD_arity (hr.mono (by decide)) (L2N.takes_of (by rfl) (by rfl) (by rfl) (by rfl)) (da_cons (de_var (pv 1)) (da_cons (de_add (de_var (pv 5)) de_int) (da_cons de_int da_nil))) (by rfl))) da_nil))) (by rfl))) (dg_tup (by rfl) (dgs_cons (dg_name (pg_name (i := 9) sc_law.nd (by rfl) (by first | exact Or.inl rfl | exact Or.inr rfl))) (dgs_cons (dg_name (pg_name (i := 10) sc_law.nd (by rfl) (by first | exact Or.inl rfl | exact Or.inr rfl))) dgs_nil)))) (dss_cons (ds_set (fun t h => ps_set (i := 6) sc_law.nd rfl (Or.inr rfl) h) (de_ix (DN.de (dn_lst (da_cons (de_tup (da_cons de_str (da_cons de_int (da_cons de_int da_nil)))) (da_cons (de_tup (da_cons de_str (da_cons de_int (da_cons de_int da_nil)))) (da_cons (de_tup (da_cons de_str (da_cons de_int (da_cons de_int da_nil)))) (da_cons (de_tup (da_cons de_str (da_cons de_int (da_cons de_int da_nil)))) (da_cons (de_tup (da_cons de_str (da_cons de_int (da_cons de_int da_nil)))) da_nil))))))) (de_call (c__law_mix T) fnD_arity (hr.mono (by decide)) (L2N.takes_of (by rfl) (by rfl) (by rfl) (by rfl)) (da_cons (de_var (pv 1)) (da_cons (de_add (de_var (pv 5)) de_int) (da_cons de_int da_nil))) (by rfl)))) (dss_cons (ds_set (fun t h => ps_set (i := 7) sc_law.nd rfl (Or.inl rfl) h) (de_repr T.b_repr hr (hg trivial) (da_cons (de_var (pv 9)) da_nil))) (dss_cons (ds_set (fun t h => ps_set (i := 8) sc_law.nd rfl (Or.inl rfl) h) (de_var (pv 10))) (dss_cons (ds_if (dt_isN (de_var (pv 10))) (dss_one (ds_set (fun t h => ps_set (i := 8) sc_law.nd rfl (Or.inl rfl) h) (de_ix (DN.de (dn_lst (da_cons (de_tup (da_cons de_str (da_cons de_int da_nil))) (da_cons de_non da_nil)))) (de_int1 T.b_int (da_cons (de_call (c_is_slip T) fnD_arity (hr.mono (by decide)) (L2N.takes_of (by rfl) (by rfl) (by rfl) (by rfl)) (da_cons (de_var (pv 9)) (da_cons (de_var (pv 6)) da_nil)) (by rfl)) da_nil))))) dss_nil) (dss_one (ds_if (DW.dt (dw_or (dt_cmp (op_neP hr.units) o2_ne neD_nx (nomark _) (DN.de (dn_lc (m := true) (by rfl) sc_law.nd (di_range1 T.b_range (da_cons de_int da_nil)) (blkOk_by (own := [("which", 11)]) (N := N_law) (sc := defScope s_law) (by decide +kernel)) (fun _ _ _ _ _ => (dg_name (pg_name (i := 11) sc_law.nd (by rfl) (by first | exact Or.inl rfl | exact Or.inr rfl)))) (fun _ _ _ _ _ => dts_nil) (fun _ _ _ _ _ => (de_call (c__law_of T) fnD_arity (hr.mono (by decide)) takes0N (da_cons (de_var (pv 11)) (da_cons (de_var (pv 9)) (da_cons (de_var (pv 6)) da_nil))) (by rfl))) (by decide))) (de_add (de_mul (DN.de (dn_lst (da_cons (de_var (pv 10)) da_nil))) de_int) (DN.de (dn_lst (da_cons (de_var (pv 8)) da_nil))))) (dw_or1 (dt_cmp (op_neP hr.units) o2_ne neD_nx (nomark _) (de_repr T.b_repr hr (hg trivial) (da_cons (de_var (pv 9)) da_nil)) (de_var (pv 7)))))) (dss_one (ds_ret de_bl)) dss_nil))))))))) (dss_one (ds_ret de_bl)))))))))
end
end Law

namespace Law
open PySem L2 PySem.Spec PyProof.Rows DV
def rc (w : Int) (k : Str) : D := .tup [.int w, .str k]
def dy (a : Int) (rs : List D) (b c d : Int) : D := .tup [.int a, .lst rs, .int b, .int c, .int d]
abbrev gd : D := rc 5 "c"
def poolL : List (D × Er) := [(dy 0 [] 0 0 0, none), (dy 1000000 [gd, rc 99999 "k"] 1000000 9999999 9999999, none), (dy 0 (List.replicate 20 gd) 0 95 0, none), (dy 0 [gd] 0 50 0, none),
  (dy (-1) (List.replicate 21 gd) (-1) (-1) (-1), some ("day", 0)), (dy 1000001 [] 0 0 0, some ("day", 0)), (dy 0 (List.replicate 21 gd) (-1) 0 0, some ("many", 21)), (dy 0 [gd, rc 0 "c"] 0 0 0, some ("receipt", 1)),
  (dy 0 [rc 100000 "c"] 0 0 0, some ("receipt", 0)), (dy 0 [rc 5 "x"] (-1) 0 0, some ("receipt", 0)), (dy 0 [rc 5 ""] 0 0 0, some ("receipt", 0)), (dy 0 [] (-1) (-1) 0, some ("day", 2)),
  (dy 0 [] 1000001 0 0, some ("day", 2)), (dy 0 [] 0 10000000 (-1), some ("day", 3)), (dy 0 [] 0 0 10000000, some ("day", 4))]
def sp (k : Str) (a b : Int) : D := .tup [.str k, .int a, .int b]
def slipL : List D := [sp "zero" 0 1, sp "twice" 0 0, sp "left" 45 0, sp "kind" 0 0, sp "" 0 0]
/-- is the slip one of the day, as the code tells it -/
def slipB (p s : D) : Bool := match F_is_slip [p, s] with
  | .val (.bl b) => b
  | _ => false
def lastE (p : D × Er) (s : D) : Er := match p.2 with
  | some x => some x
  | none => if slipB p.1 s = true then none else some ("slip", 0)
def dueE (p : D × Er) (s : D) (w : Int) : Er := if w < 6 then p.2 else lastE p s
theorem of_a (S : D) : ([0, 1, 2, 3].all fun w : Int => poolL.all fun p => vIs (F__law_of [.int w, p.1, S]) p.2) = true := by
  kernel_rfl
theorem of_4 (S : D) : (poolL.all fun p => vIs (F__law_of [.int 4, p.1, S]) p.2) = true := by
  kernel_rfl
theorem of_s : (poolL.all fun p => slipL.all fun s => [5, 6].all fun w : Int => vIs (F__law_of [.int w, p.1, s]) (dueE p s w)) = true := by
  decide +kernel
theorem is_slip_all : (poolL.all fun p => slipL.all fun s => p.2.isSome || bIs (F_is_slip [p.1, s]) (slipB p.1 s)) = true := by decide +kernel
theorem repr_all : (poolL.all fun p => strOk (reprD [p.1])) = true := by decide +kernel
theorem law_a {w : Int} {p : D × Er} (hw : w ∈ [(0 : Int), 1, 2, 3]) (hp : p ∈ poolL) (S : D) : F__law_of [.int w, p.1, S] = .val (erD p.2) := by
  have h := of_a S
  simp only [List.all_eq_true] at h
  exact vIs_eq (h w hw p hp)
theorem law_4 {p : D × Er} (hp : p ∈ poolL) (S : D) : F__law_of [.int 4, p.1, S] = .val (erD p.2) := by
  have h := of_4 S
  simp only [List.all_eq_true] at h
  exact vIs_eq (h p hp)
theorem law_s {w : Int} {p : D × Er} {S : D} (hw : w ∈ [(5 : Int), 6]) (hp : p ∈ poolL) (hs : S ∈ slipL) : F__law_of [.int w, p.1, S] = .val (erD (dueE p S w)) := by
  have h := of_s
  simp only [List.all_eq_true] at h
  exact vIs_eq (h p hp S hs w hw)
theorem slip_ok {p : D × Er} {S : D} (hp : p ∈ poolL) (hs : S ∈ slipL) (hn : p.2 = none) : F_is_slip [p.1, S] = .val (.bl (slipB p.1 S)) := by
  have h := is_slip_all
  simp only [List.all_eq_true] at h
  have h := h p hp S hs
  rw [hn] at h
  exact bIs_eq (by simpa using h)
abbrev base (ns ds : List Int) (a b c d e f g h : Option SV) : DV.Env := [some (.d (.scr ns)), some (.d (.lst (ds.map D.int))), some (.d gd), some (.d (pickD poolL)), a, b, c, d, e, f, g, h]
abbrev part (ns ds : List Int) (g p : Option SV) : DV.Env := [some (.d (.scr ns)), some (.d (.lst (ds.map D.int))), g, p, none, none, none, none, none, none, none, none]
theorem start_2 (ns ds : List Int) : sSet 2 (eTup (aCons (eC (.int 5)) (aCons (eC (.str "c")) (aNil)))) (part ns ds none none) = .nx (part ns ds (some (.d gd)) none) := by kernel_rfl
theorem start_3 (ns ds : List Int) : st_law_3 (part ns ds (some (.d gd)) none) = .nx (part ns ds (some (.d gd)) (some (.d (pickD (poolL.take 4))))) := by kernel_rfl
theorem start_4 (ns ds : List Int) : st_law_4 (part ns ds (some (.d gd)) (some (.d (pickD (poolL.take 4))))) = .nx (part ns ds (some (.d gd)) (some (.d (pickD (poolL.take 8))))) := by kernel_rfl
theorem start_5 (ns ds : List Int) : st_law_5 (part ns ds (some (.d gd)) (some (.d (pickD (poolL.take 8))))) = .nx (part ns ds (some (.d gd)) (some (.d (pickD (poolL.take 12))))) := by kernel_rfl
theorem start_6 (ns ds : List Int) : st_law_6 (part ns ds (some (.d gd)) (some (.d (pickD (poolL.take 12))))) = .nx (base ns ds none none none none none none none none) := by kernel_rfl
end Law

namespace Law
open PySem L2 PySem.Spec PyProof.Rows DV
theorem intB (b : Bool) : intD [.bl b] = .ok (.int (if b = true then 1 else 0)) := by cases b <;> rfl
theorem two_0 (a b : D) : ixD (.lst [a, b]) (.int 0) = .ok a := rfl
theorem two_1 (a b : D) : ixD (.lst [a, b]) (.int 1) = .ok b := rfl
theorem turn_ok (ns ds : List Int) (hd : DV.Draw.Drawn ds) (i : Nat) (hi : i < 12) :
    ∃ s2, lb_law_7 (base ns ds (some (.d (.int i))) none none none none none none none) = .nx s2 ∧ wipeE s2 [4, 5, 6, 7, 8, 9, 10] = base ns ds none none none none none none none none := by
  have M : ∀ k many : Int, 0 ≤ k → 0 < many → ∃ r, F__law_mix [.lst (ds.map D.int), .int k, .int many] = .val (.int r) ∧ 0 ≤ r ∧ r < many := fun k many hk hm => ⟨_, DV.Draw.mixV_ok ds hd k many hk hm⟩
  generalize hat : (10 : Int) + 8 * (i : Int) = at_
  have hat0 : 0 ≤ at_ := by omega
  obtain ⟨r0, q0, r00, r01⟩ := M (at_ + 1) 2 (by omega) (by omega)
  obtain ⟨mny, hm, em⟩ := pickedI (xs := [4, 15]) r00 (by simpa using r01)
  have em' : ixD (.lst [.int 4, .int 15]) (.int r0) = .ok (.int mny) := em
  have hm' : 0 < mny ∧ mny ≤ 15 := by
    simp only [List.mem_cons, List.not_mem_nil, or_false] at hm
    omega
  obtain ⟨r1, q1, r10, r11⟩ := M at_ mny (by omega) hm'.1
  obtain ⟨p, hp, ep⟩ := picked (xs := poolL) r10 (by show r1 < 15; omega)
  obtain ⟨r2, q2, r20, r21⟩ := M (at_ + 2) 5 (by omega) (by omega)
  obtain ⟨S, hS, es⟩ := pickedD (xs := slipL) r20 (by simpa [slipL] using r21)
  have es' : ixD (.lst [.tup [.str "zero", .int 0, .int 1], .tup [.str "twice", .int 0, .int 0], .tup [.str "left", .int 45, .int 0], .tup [.str "kind", .int 0, .int 0], .tup [.str "", .int 0, .int 0]]) (.int r2) = .ok S := es
  obtain ⟨T, hT⟩ := strOk_ex (all_of repr_all p hp)
  have s8 : sSet 5 (e2 addD (eC (.int 10)) (e2 mulD (eC (.int 8)) (eVar 4))) (base ns ds (some (.d (.int i))) none none none none none none none) = .nx (base ns ds (some (.d (.int i))) (some (.d (.int at_))) none none none none none none) := by
    simp [hat]
  have s9 : st_law_9 (base ns ds (some (.d (.int i))) (some (.d (.int at_))) none none none none none none) = .nx (base ns ds (some (.d (.int i))) (some (.d (.int at_))) none none none (some (.d p.1)) (some (.d (erD p.2))) none) := by
    simp [st_law_9, q0, em', q1, ep]
  have s10 : st_law_10 (base ns ds (some (.d (.int i))) (some (.d (.int at_))) none none none (some (.d p.1)) (some (.d (erD p.2))) none) = .nx (base ns ds (some (.d (.int i))) (some (.d (.int at_))) (some (.d S)) none none (some (.d p.1)) (some (.d (erD p.2))) none) := by
    simp [st_law_10, q2, es']
  have s11 : sSet 7 (eB reprD (aCons (eVar 9) (aNil))) (base ns ds (some (.d (.int i))) (some (.d (.int at_))) (some (.d S)) none none (some (.d p.1)) (some (.d (erD p.2))) none) = .nx (base ns ds (some (.d (.int i))) (some (.d (.int at_))) (some (.d S)) (some (.d (.str T))) none (some (.d p.1)) (some (.d (erD p.2))) none) := by
    simp [hT]
  have s12 : sSet 8 (eVar 10) (base ns ds (some (.d (.int i))) (some (.d (.int at_))) (some (.d S)) (some (.d (.str T))) none (some (.d p.1)) (some (.d (erD p.2))) none) = .nx (base ns ds (some (.d (.int i))) (some (.d (.int at_))) (some (.d S)) (some (.d (.str T))) (some (.d (erD p.2))) (some (.d p.1)) (some (.d (erD p.2))) none) := by
    simp
  have s13 : st_law_13 (base ns ds (some (.d (.int i))) (some (.d (.int at_))) (some (.d S)) (some (.d (.str T))) (some (.d (erD p.2))) (some (.d p.1)) (some (.d (erD p.2))) none) = .nx (base ns ds (some (.d (.int i))) (some (.d (.int at_))) (some (.d S)) (some (.d (.str T))) (some (.d (erD (lastE p S)))) (some (.d p.1)) (some (.d (erD p.2))) none) := by
    cases e : p.2 with
    | some x =>
      obtain ⟨w, k⟩ := x
      simp [st_law_13, lastE, e, erD]
    | none =>
      have h := slip_ok hp hS e
      cases hb : slipB p.1 S <;> rw [hb] at h <;> simp [st_law_13, lastE, e, erD, h, hb, intB, two_0, two_1]
  have s15 : st_law_15b (base ns ds (some (.d (.int i))) (some (.d (.int at_))) (some (.d S)) (some (.d (.str T))) (some (.d (erD (lastE p S)))) (some (.d p.1)) (some (.d (erD p.2))) none) = .nx (base ns ds (some (.d (.int i))) (some (.d (.int at_))) (some (.d S)) (some (.d (.str T))) (some (.d (erD (lastE p S)))) (some (.d p.1)) (some (.d (erD p.2))) none) := by
    have h1 : nLc (iRange1 (aCons (eC (.int 7)) (aNil))) (cg_law_15) (tYes') (ce_law_15) [11] (base ns ds (some (.d (.int i))) (some (.d (.int at_))) (some (.d S)) (some (.d (.str T))) (some (.d (erD (lastE p S)))) (some (.d p.1)) (some (.d (erD p.2))) none) = .ok ([p.2, p.2, p.2, p.2, p.2, p.2, lastE p S].map erD) := by
      rw [nLc_map [((0 : Int), p.2), (1, p.2), (2, p.2), (3, p.2), (4, p.2), (5, p.2), (6, lastE p S)] (fun x => D.int x.1) (fun x => erD x.2) (by kernel_rfl) (by simp) fun x hx => ?_]
      · rfl
      have hF : F__law_of [.int x.1, p.1, S] = .val (erD x.2) := by
        simp only [List.mem_cons, List.not_mem_nil, or_false] at hx
        rcases hx with rfl | rfl | rfl | rfl | rfl | rfl | rfl
        · exact law_a (by simp) hp _
        · exact law_a (by simp) hp _
        · exact law_a (by simp) hp _
        · exact law_a (by simp) hp _
        · exact law_4 hp _
        · exact law_s (w := 5) (by simp) hp hS
        · exact law_s (w := 6) (by simp) hp hS
      refine ⟨_, by simp [cg_law_15]; rfl, by simp, ?_⟩
      simp [ce_law_15, hF]
    have h2 := ers_ne [p.2, p.2, p.2, p.2, p.2, p.2, lastE p S]
    have h3 : (e2 addD (e2 mulD (eL (nLst (aCons (eVar 10) (aNil)))) (eC (.int 6))) (eL (nLst (aCons (eVar 8) (aNil))))) (base ns ds (some (.d (.int i))) (some (.d (.int at_))) (some (.d S)) (some (.d (.str T))) (some (.d (erD (lastE p S)))) (some (.d p.1)) (some (.d (erD p.2))) none) = .ok (.lst ([p.2, p.2, p.2, p.2, p.2, p.2, lastE p S].map erD)) := by
      kernel_rfl
    simp only [st_law_15b, sIf_ap, tOr_ap, tOf_ap, e2_ap, eL_ap, h1, R.bind_ok]
    simp only [e2_ap, eL_ap] at h3
    rw [h3, R.bind_ok, h2]
    simp [hT]
  refine ⟨(base ns ds (some (.d (.int i))) (some (.d (.int at_))) (some (.d S)) (some (.d (.str T))) (some (.d (erD (lastE p S)))) (some (.d p.1)) (some (.d (erD p.2))) none), ?_, rfl⟩
  simp only [lb_law_7, sSeq_ap, s8, Out.seq_nx, s9, s10, s11, s12, s13, s15]
theorem law_true : DV.Holds1 Law.N_law.length Law.b_law 63 := by
  intro ns hns
  obtain ⟨ds, hds, hd, _⟩ := DV.Draw.draws_ok ns hns
  have hds : F__law_draws [.scr ns] = .ol (ds.map D.int) := hds
  refine ⟨_, rfl, ?_⟩
  have loop := forD_all (g := lg_law_7) (F := lb_law_7) (wp := [4, 5, 6, 7, 8, 9, 10]) (s := base ns ds none none none none none none none none) (fun i : Nat => D.int (0 + (i : Int))) (fun _ => true) .no rfl (List.range 12) fun i hi => by
    obtain ⟨s2, h1, h2⟩ := turn_ok ns ds hd i (by simpa using hi)
    exact ⟨_, by simp [lg_law_7], fun _ => ⟨s2, .inl h1, h2⟩, fun z => by cases z⟩
  rw [if_pos (by simp)] at loop
  have loop' : forD lg_law_7 lb_law_7 [4, 5, 6, 7, 8, 9, 10] (rngD 0 12) (base ns ds none none none none none none none none) = .nx (base ns ds none none none none none none none none) := loop
  have z3 : sSet 1 (eCall F__law_draws (aCons (eVar 0) (aNil))) [some (.d (.scr ns)), none, none, none, none, none, none, none, none, none, none, none] = .nx (part ns ds none none) := by
    simp [hds]
  have z4 : (sSeq (sSet 2 (eTup (aCons (eC (.int 5)) (aCons (eC (.str "c")) (aNil))))) (sSeq (st_law_3) (sSeq (st_law_4) (sSeq (st_law_5) (sSeq (st_law_6) (sSeq (sFor (iRange1 (aCons (eC (.int 12)) (aNil))) (lg_law_7) (lb_law_7) [4, 5, 6, 7, 8, 9, 10]) (sRet (eC (.bl true)))))))) ) (part ns ds none none) = .rt (.bl true) := by
    rw [run1 (start_2 ns ds), run1 (start_3 ns ds), run1 (start_4 ns ds), run1 (start_5 ns ds), run1 (start_6 ns ds)]
    simp [loop']
  rw [fnD_1]
  simp only [b_law]
  have z5 := run1 (G := (sSeq (sSet 2 (eTup (aCons (eC (.int 5)) (aCons (eC (.str "c")) (aNil))))) (sSeq (st_law_3) (sSeq (st_law_4) (sSeq (st_law_5) (sSeq (st_law_6) (sSeq (sFor (iRange1 (aCons (eC (.int 12)) (aNil))) (lg_law_7) (lb_law_7) [4, 5, 6, 7, 8, 9, 10]) (sRet (eC (.bl true))))))))) ) z3
  rw [z4] at z5
  have z6 : (sSeq (sSet 1 (eCall F__law_draws (aCons (eVar 0) (aNil)))) (sSeq (sSet 2 (eTup (aCons (eC (.int 5)) (aCons (eC (.str "c")) (aNil))))) (sSeq (st_law_3) (sSeq (st_law_4) (sSeq (st_law_5) (sSeq (st_law_6) (sSeq (sFor (iRange1 (aCons (eC (.int 12)) (aNil))) (lg_law_7) (lb_law_7) [4, 5, 6, 7, 8, 9, 10]) (sRet (eC (.bl true))))))))) (some (.d (.scr ns)) :: List.replicate (N_law.length - 1) none)) = .rt (.bl true) := z5
  rw [z6]
  rfl
end Law

namespace Law
open PySem L2 PySem.Spec PyProof.Rows DV
theorem all_mk {P : Program} {w : World} {K : PySem.W.Frag} {h : Heap} {mg : Str → Option Value} {fa : Addr} (X : K.In h) (G : h.Ns mainGlobals mg) (hfa : mg "law" = some (.ref fa))
    {f0 : Addr} {od0 an0 : Option Addr} {sl0 : Array (Option Value)} {oc0 kV0 dc0 pm0 cd0 ct0 : Value}
    {f1 : Addr} {od1 an1 : Option Addr} {sl1 : Array (Option Value)} {oc1 kV1 dc1 pm1 cd1 ct1 : Value}
    {f2 : Addr} {od2 an2 : Option Addr} {sl2 : Array (Option Value)} {oc2 kV2 dc2 pm2 cd2 ct2 : Value}
    {f3 : Addr} {od3 an3 : Option Addr} {sl3 : Array (Option Value)} {oc3 kV3 dc3 pm3 cd3 ct3 : Value}
    {f4 : Addr} {od4 an4 : Option Addr} {sl4 : Array (Option Value)} {oc4 kV4 dc4 pm4 cd4 ct4 : Value}
    {f5 : Addr} {od5 an5 : Option Addr} {sl5 : Array (Option Value)} {oc5 kV5 dc5 pm5 cd5 ct5 : Value}
    {f6 : Addr} {od6 an6 : Option Addr} {sl6 : Array (Option Value)} {oc6 kV6 dc6 pm6 cd6 ct6 : Value}
    {f7 : Addr} {od7 an7 : Option Addr} {sl7 : Array (Option Value)} {oc7 kV7 dc7 pm7 cd7 ct7 : Value}
    {f8 : Addr} {od8 an8 : Option Addr} {sl8 : Array (Option Value)} {oc8 kV8 dc8 pm8 cd8 ct8 : Value}
    {f9 : Addr} {od9 an9 : Option Addr} {sl9 : Array (Option Value)} {oc9 kV9 dc9 pm9 cd9 ct9 : Value}
    {f10 : Addr} {od10 an10 : Option Addr} {sl10 : Array (Option Value)} {oc10 kV10 dc10 pm10 cd10 ct10 : Value}
    {f11 : Addr} {od11 an11 : Option Addr} {sl11 : Array (Option Value)} {oc11 kV11 dc11 pm11 cd11 ct11 : Value}
    {f12 : Addr} {od12 an12 : Option Addr} {sl12 : Array (Option Value)} {oc12 kV12 dc12 pm12 cd12 ct12 : Value}
    {f13 : Addr} {od13 an13 : Option Addr} {sl13 : Array (Option Value)} {oc13 kV13 dc13 pm13 cd13 ct13 : Value}
    {f14 : Addr} {od14 an14 : Option Addr} {sl14 : Array (Option Value)} {oc14 kV14 dc14 pm14 cd14 ct14 : Value}
    {f15 : Addr} {od15 an15 : Option Addr} {sl15 : Array (Option Value)} {oc15 kV15 dc15 pm15 cd15 ct15 : Value}
    {f16 : Addr} {od16 an16 : Option Addr} {sl16 : Array (Option Value)} {oc16 kV16 dc16 pm16 cd16 ct16 : Value}
    {f17 : Addr} {od17 an17 : Option Addr} {sl17 : Array (Option Value)} {oc17 kV17 dc17 pm17 cd17 ct17 : Value}
    {f18 : Addr} {od18 an18 : Option Addr} {sl18 : Array (Option Value)} {oc18 kV18 dc18 pm18 cd18 ct18 : Value}
    {f19 : Addr} {od19 an19 : Option Addr} {sl19 : Array (Option Value)} {oc19 kV19 dc19 pm19 cd19 ct19 : Value}
    {f20 : Addr} {od20 an20 : Option Addr} {sl20 : Array (Option Value)} {oc20 kV20 dc20 pm20 cd20 ct20 : Value}
    {f21 : Addr} {od21 an21 : Option Addr} {sl21 : Array (Option Value)} {oc21 kV21 dc21 pm21 cd21 ct21 : Value}
    {f22 : Addr} {od22 an22 : Option Addr} {sl22 : Array (Option Value)} {oc22 kV22 dc22 pm22 cd22 ct22 : Value}
    (a0 : PySem.W.nsIn K mainGlobals "check_receipts" = some (some (.ref f0))) (l0 : K.lookup f0 = some ⟨oc0, od0, .func (PySem.W.fnOf "check_receipts" "check_receipts" (defArgs s_check_receipts) (defBody s_check_receipts) (defScope s_check_receipts) .none kV0 dc0 pm0 an0 cd0 ct0), sl0⟩) (c0 : PySem.W.codeIn K cd0 "check_receipts" = true) (k0 : PySem.W.keepIn K (.ref f0) = true)
    (a1 : PySem.W.nsIn K mainGlobals "check_day" = some (some (.ref f1))) (l1 : K.lookup f1 = some ⟨oc1, od1, .func (PySem.W.fnOf "check_day" "check_day" (defArgs s_check_day) (defBody s_check_day) (defScope s_check_day) .none kV1 dc1 pm1 an1 cd1 ct1), sl1⟩) (c1 : PySem.W.codeIn K cd1 "check_day" = true) (k1 : PySem.W.keepIn K (.ref f1) = true)
    (a2 : PySem.W.nsIn K mainGlobals "sum_of" = some (some (.ref f2))) (l2 : K.lookup f2 = some ⟨oc2, od2, .func (PySem.W.fnOf "sum_of" "sum_of" (defArgs s_sum_of) (defBody s_sum_of) (defScope s_sum_of) .none kV2 dc2 pm2 an2 cd2 ct2), sl2⟩) (c2 : PySem.W.codeIn K cd2 "sum_of" = true) (k2 : PySem.W.keepIn K (.ref f2) = true)
    (a3 : PySem.W.nsIn K mainGlobals "due_of" = some (some (.ref f3))) (l3 : K.lookup f3 = some ⟨oc3, od3, .func (PySem.W.fnOf "due_of" "due_of" (defArgs s_due_of) (defBody s_due_of) (defScope s_due_of) .none kV3 dc3 pm3 an3 cd3 ct3), sl3⟩) (c3 : PySem.W.codeIn K cd3 "due_of" = true) (k3 : PySem.W.keepIn K (.ref f3) = true)
    (a4 : PySem.W.nsIn K mainGlobals "due" = some (some (.ref f4))) (l4 : K.lookup f4 = some ⟨oc4, od4, .func (PySem.W.fnOf "due" "due" (defArgs s_due) (defBody s_due) (defScope s_due) .none kV4 dc4 pm4 an4 cd4 ct4), sl4⟩) (c4 : PySem.W.codeIn K cd4 "due" = true) (k4 : PySem.W.keepIn K (.ref f4) = true)
    (a5 : PySem.W.nsIn K mainGlobals "gaps_of" = some (some (.ref f5))) (l5 : K.lookup f5 = some ⟨oc5, od5, .func (PySem.W.fnOf "gaps_of" "gaps_of" (defArgs s_gaps_of) (defBody s_gaps_of) (defScope s_gaps_of) .none kV5 dc5 pm5 an5 cd5 ct5), sl5⟩) (c5 : PySem.W.codeIn K cd5 "gaps_of" = true) (k5 : PySem.W.keepIn K (.ref f5) = true)
    (a6 : PySem.W.nsIn K mainGlobals "gaps" = some (some (.ref f6))) (l6 : K.lookup f6 = some ⟨oc6, od6, .func (PySem.W.fnOf "gaps" "gaps" (defArgs s_gaps) (defBody s_gaps) (defScope s_gaps) .none kV6 dc6 pm6 an6 cd6 ct6), sl6⟩) (c6 : PySem.W.codeIn K cd6 "gaps" = true) (k6 : PySem.W.keepIn K (.ref f6) = true)
    (a7 : PySem.W.nsIn K mainGlobals "is_closed" = some (some (.ref f7))) (l7 : K.lookup f7 = some ⟨oc7, od7, .func (PySem.W.fnOf "is_closed" "is_closed" (defArgs s_is_closed) (defBody s_is_closed) (defScope s_is_closed) .none kV7 dc7 pm7 an7 cd7 ct7), sl7⟩) (c7 : PySem.W.codeIn K cd7 "is_closed" = true) (k7 : PySem.W.keepIn K (.ref f7) = true)
    (a8 : PySem.W.nsIn K mainGlobals "takings" = some (some (.ref f8))) (l8 : K.lookup f8 = some ⟨oc8, od8, .func (PySem.W.fnOf "takings" "takings" (defArgs s_takings) (defBody s_takings) (defScope s_takings) .none kV8 dc8 pm8 an8 cd8 ct8), sl8⟩) (c8 : PySem.W.codeIn K cd8 "takings" = true) (k8 : PySem.W.keepIn K (.ref f8) = true)
    (a9 : PySem.W.nsIn K mainGlobals "other" = some (some (.ref f9))) (l9 : K.lookup f9 = some ⟨oc9, od9, .func (PySem.W.fnOf "other" "other" (defArgs s_other) (defBody s_other) (defScope s_other) .none kV9 dc9 pm9 an9 cd9 ct9), sl9⟩) (c9 : PySem.W.codeIn K cd9 "other" = true) (k9 : PySem.W.keepIn K (.ref f9) = true)
    (a10 : PySem.W.nsIn K mainGlobals "swapped" = some (some (.ref f10))) (l10 : K.lookup f10 = some ⟨oc10, od10, .func (PySem.W.fnOf "swapped" "swapped" (defArgs s_swapped) (defBody s_swapped) (defScope s_swapped) .none kV10 dc10 pm10 an10 cd10 ct10), sl10⟩) (c10 : PySem.W.codeIn K cd10 "swapped" = true) (k10 : PySem.W.keepIn K (.ref f10) = true)
    (a11 : PySem.W.nsIn K mainGlobals "zeroed" = some (some (.ref f11))) (l11 : K.lookup f11 = some ⟨oc11, od11, .func (PySem.W.fnOf "zeroed" "zeroed" (defArgs s_zeroed) (defBody s_zeroed) (defScope s_zeroed) .none kV11 dc11 pm11 an11 cd11 ct11), sl11⟩) (c11 : PySem.W.codeIn K cd11 "zeroed" = true) (k11 : PySem.W.keepIn K (.ref f11) = true)
    (a12 : PySem.W.nsIn K mainGlobals "changed" = some (some (.ref f12))) (l12 : K.lookup f12 = some ⟨oc12, od12, .func (PySem.W.fnOf "changed" "changed" (defArgs s_changed) (defBody s_changed) (defScope s_changed) .none kV12 dc12 pm12 an12 cd12 ct12), sl12⟩) (c12 : PySem.W.codeIn K cd12 "changed" = true) (k12 : PySem.W.keepIn K (.ref f12) = true)
    (a13 : PySem.W.nsIn K mainGlobals "is_slip_of" = some (some (.ref f13))) (l13 : K.lookup f13 = some ⟨oc13, od13, .func (PySem.W.fnOf "is_slip_of" "is_slip_of" (defArgs s_is_slip_of) (defBody s_is_slip_of) (defScope s_is_slip_of) .none kV13 dc13 pm13 an13 cd13 ct13), sl13⟩) (c13 : PySem.W.codeIn K cd13 "is_slip_of" = true) (k13 : PySem.W.keepIn K (.ref f13) = true)
    (a14 : PySem.W.nsIn K mainGlobals "is_slip" = some (some (.ref f14))) (l14 : K.lookup f14 = some ⟨oc14, od14, .func (PySem.W.fnOf "is_slip" "is_slip" (defArgs s_is_slip) (defBody s_is_slip) (defScope s_is_slip) .none kV14 dc14 pm14 an14 cd14 ct14), sl14⟩) (c14 : PySem.W.codeIn K cd14 "is_slip" = true) (k14 : PySem.W.keepIn K (.ref f14) = true)
    (a15 : PySem.W.nsIn K mainGlobals "mended" = some (some (.ref f15))) (l15 : K.lookup f15 = some ⟨oc15, od15, .func (PySem.W.fnOf "mended" "mended" (defArgs s_mended) (defBody s_mended) (defScope s_mended) .none kV15 dc15 pm15 an15 cd15 ct15), sl15⟩) (c15 : PySem.W.codeIn K cd15 "mended" = true) (k15 : PySem.W.keepIn K (.ref f15) = true)
    (a16 : PySem.W.nsIn K mainGlobals "tries" = some (some (.ref f16))) (l16 : K.lookup f16 = some ⟨oc16, od16, .func (PySem.W.fnOf "tries" "tries" (defArgs s_tries) (defBody s_tries) (defScope s_tries) .none kV16 dc16 pm16 an16 cd16 ct16), sl16⟩) (c16 : PySem.W.codeIn K cd16 "tries" = true) (k16 : PySem.W.keepIn K (.ref f16) = true)
    (a17 : PySem.W.nsIn K mainGlobals "slips" = some (some (.ref f17))) (l17 : K.lookup f17 = some ⟨oc17, od17, .func (PySem.W.fnOf "slips" "slips" (defArgs s_slips) (defBody s_slips) (defScope s_slips) .none kV17 dc17 pm17 an17 cd17 ct17), sl17⟩) (c17 : PySem.W.codeIn K cd17 "slips" = true) (k17 : PySem.W.keepIn K (.ref f17) = true)
    (a18 : PySem.W.nsIn K mainGlobals "_law_draws" = some (some (.ref f18))) (l18 : K.lookup f18 = some ⟨oc18, od18, .func (PySem.W.fnOf "_law_draws" "_law_draws" (defArgs s__law_draws) (defBody s__law_draws) (defScope s__law_draws) .none kV18 dc18 pm18 an18 cd18 ct18), sl18⟩) (c18 : PySem.W.codeIn K cd18 "_law_draws" = true) (k18 : PySem.W.keepIn K (.ref f18) = true)
    (a19 : PySem.W.nsIn K mainGlobals "_law_mix" = some (some (.ref f19))) (l19 : K.lookup f19 = some ⟨oc19, od19, .func (PySem.W.fnOf "_law_mix" "_law_mix" (defArgs s__law_mix) (defBody s__law_mix) (defScope s__law_mix) .none kV19 dc19 pm19 an19 cd19 ct19), sl19⟩) (c19 : PySem.W.codeIn K cd19 "_law_mix" = true) (k19 : PySem.W.keepIn K (.ref f19) = true)
    (a20 : PySem.W.nsIn K mainGlobals "_law_name" = some (some (.ref f20))) (l20 : K.lookup f20 = some ⟨oc20, od20, .func (PySem.W.fnOf "_law_name" "_law_name" (defArgs s__law_name) (defBody s__law_name) (defScope s__law_name) .none kV20 dc20 pm20 an20 cd20 ct20), sl20⟩) (c20 : PySem.W.codeIn K cd20 "_law_name" = true) (k20 : PySem.W.keepIn K (.ref f20) = true)
    (a21 : PySem.W.nsIn K mainGlobals "_law_of" = some (some (.ref f21))) (l21 : K.lookup f21 = some ⟨oc21, od21, .func (PySem.W.fnOf "_law_of" "_law_of" (defArgs s__law_of) (defBody s__law_of) (defScope s__law_of) .none kV21 dc21 pm21 an21 cd21 ct21), sl21⟩) (c21 : PySem.W.codeIn K cd21 "_law_of" = true) (k21 : PySem.W.keepIn K (.ref f21) = true)
    (a22 : PySem.W.nsIn K mainGlobals "law" = some (some (.ref f22))) (l22 : K.lookup f22 = some ⟨oc22, od22, .func (PySem.W.fnOf "law" "law" (defArgs s_law) (defBody s_law) (defScope s_law) .none kV22 dc22 pm22 an22 cd22 ct22), sl22⟩) (c22 : PySem.W.codeIn K cd22 "law" = true) (k22 : PySem.W.keepIn K (.ref f22) = true)
    (z_abs : PySem.W.nsIn K mainGlobals "abs" = some none)
    (z_enumerate : PySem.W.nsIn K mainGlobals "enumerate" = some none)
    (z_int : PySem.W.nsIn K mainGlobals "int" = some none)
    (z_isinstance : PySem.W.nsIn K mainGlobals "isinstance" = some none)
    (z_len : PySem.W.nsIn K mainGlobals "len" = some none)
    (z_min : PySem.W.nsIn K mainGlobals "min" = some none)
    (z_range : PySem.W.nsIn K mainGlobals "range" = some none)
    (z_repr : PySem.W.nsIn K mainGlobals "repr" = some none)
    (z_sorted : PySem.W.nsIn K mainGlobals "sorted" = some none)
    (z_str : PySem.W.nsIn K mainGlobals "str" = some none)
    (z_sum : PySem.W.nsIn K mainGlobals "sum" = some none)
    {u_CARDS : Tok} (y_CARDS : PySem.W.nsIn K mainGlobals "CARDS" = some (some (.str "k" u_CARDS)))
    {u_COINS : Tok} (y_COINS : PySem.W.nsIn K mainGlobals "COINS" = some (some (.str "c" u_COINS)))
    {u_MOST_COUNTED : Tok} (y_MOST_COUNTED : PySem.W.nsIn K mainGlobals "MOST_COUNTED" = some (some (.int 9999999 u_MOST_COUNTED)))
    {u_MOST_RECEIPT : Tok} (y_MOST_RECEIPT : PySem.W.nsIn K mainGlobals "MOST_RECEIPT" = some (some (.int 99999 u_MOST_RECEIPT)))
    {u_MOST_RECEIPTS : Tok} (y_MOST_RECEIPTS : PySem.W.nsIn K mainGlobals "MOST_RECEIPTS" = some (some (.int 20 u_MOST_RECEIPTS)))
    {u_MOST_SUM : Tok} (y_MOST_SUM : PySem.W.nsIn K mainGlobals "MOST_SUM" = some (some (.int 1000000 u_MOST_SUM)))
    (E_BadDay : ExcAt P K mg "BadDay")
    (E_BadReceipt : ExcAt P K mg "BadReceipt")
    (E_BadSlip : ExcAt P K mg "BadSlip")
    (E_ShopError : ExcAt P K mg "ShopError")
    (E_TooMany : ExcAt P K mg "TooMany")
    (M_BadDay_ShopError : CatAt K mg "BadDay" "ShopError" true)
    (M_BadReceipt_ShopError : CatAt K mg "BadReceipt" "ShopError" true)
    (M_BadSlip_ShopError : CatAt K mg "BadSlip" "ShopError" true)
    (M_TooMany_ShopError : CatAt K mg "TooMany" "ShopError" true)
    (XI_BadDay : XiAt K mg "BadDay")
    (XI_BadReceipt : XiAt K mg "BadReceipt")
    (XI_BadSlip : XiAt K mg "BadSlip")
    (XI_TooMany : XiAt K mg "TooMany")
    (IS_BadDay_BadDay : IsAt K mg "BadDay" "BadDay" true)
    (IS_BadDay_BadReceipt : IsAt K mg "BadDay" "BadReceipt" false)
    (IS_BadDay_BadSlip : IsAt K mg "BadDay" "BadSlip" false)
    (IS_BadDay_TooMany : IsAt K mg "BadDay" "TooMany" false)
    (IS_BadReceipt_BadDay : IsAt K mg "BadReceipt" "BadDay" false)
    (IS_BadReceipt_BadReceipt : IsAt K mg "BadReceipt" "BadReceipt" true)
    (IS_BadReceipt_BadSlip : IsAt K mg "BadReceipt" "BadSlip" false)
    (IS_BadReceipt_TooMany : IsAt K mg "BadReceipt" "TooMany" false)
    (IS_BadSlip_BadDay : IsAt K mg "BadSlip" "BadDay" false)
    (IS_BadSlip_BadReceipt : IsAt K mg "BadSlip" "BadReceipt" false)
    (IS_BadSlip_BadSlip : IsAt K mg "BadSlip" "BadSlip" true)
    (IS_BadSlip_TooMany : IsAt K mg "BadSlip" "TooMany" false)
    (IS_TooMany_BadDay : IsAt K mg "TooMany" "BadDay" false)
    (IS_TooMany_BadReceipt : IsAt K mg "TooMany" "BadReceipt" false)
    (IS_TooMany_BadSlip : IsAt K mg "TooMany" "BadSlip" false)
    (IS_TooMany_TooMany : IsAt K mg "TooMany" "TooMany" true) : ∃ fd : FuncData, (∀ (s : Shared) (u : Value), BindsTo s fd ⟨[u], []⟩ [("script", u)]) ∧ Fun K "law" "law" s_law fa fd ∧ ∀ base : Heap, K.In base → base.Ns mainGlobals mg → BodyOk P w K mg base N_law "law" s_law fa 7 True b_law := by
  have e := hfa.symm.trans (PySem.W.mg_of X G a22)
  cases e
  have T : Txt P K mg := {
    f_check_receipts := ⟨_, _, fun_mk (st := s_check_receipts) l0 c0 k0, PySem.W.mg_of X G a0, (fun_mk (st := s_check_receipts) l0 c0 k0).binds (ps := ["receipts"]) fun _ _ _ _ _ _ us hl => (match us, hl with | [_], _ => rfl)⟩,
    f_check_day := ⟨_, _, fun_mk (st := s_check_day) l1 c1 k1, PySem.W.mg_of X G a1, (fun_mk (st := s_check_day) l1 c1 k1).binds (ps := ["day"]) fun _ _ _ _ _ _ us hl => (match us, hl with | [_], _ => rfl)⟩,
    f_sum_of := ⟨_, _, fun_mk (st := s_sum_of) l2 c2 k2, PySem.W.mg_of X G a2, (fun_mk (st := s_sum_of) l2 c2 k2).binds (ps := ["receipts", "kind"]) fun _ _ _ _ _ _ us hl => (match us, hl with | [_, _], _ => rfl)⟩,
    f_due_of := ⟨_, _, fun_mk (st := s_due_of) l3 c3 k3, PySem.W.mg_of X G a3, (fun_mk (st := s_due_of) l3 c3 k3).binds (ps := ["day", "receipts"]) fun _ _ _ _ _ _ us hl => (match us, hl with | [_, _], _ => rfl)⟩,
    f_due := ⟨_, _, fun_mk (st := s_due) l4 c4 k4, PySem.W.mg_of X G a4, (fun_mk (st := s_due) l4 c4 k4).binds (ps := ["day"]) fun _ _ _ _ _ _ us hl => (match us, hl with | [_], _ => rfl)⟩,
    f_gaps_of := ⟨_, _, fun_mk (st := s_gaps_of) l5 c5 k5, PySem.W.mg_of X G a5, (fun_mk (st := s_gaps_of) l5 c5 k5).binds (ps := ["day", "receipts"]) fun _ _ _ _ _ _ us hl => (match us, hl with | [_, _], _ => rfl)⟩,
    f_gaps := ⟨_, _, fun_mk (st := s_gaps) l6 c6 k6, PySem.W.mg_of X G a6, (fun_mk (st := s_gaps) l6 c6 k6).binds (ps := ["day"]) fun _ _ _ _ _ _ us hl => (match us, hl with | [_], _ => rfl)⟩,
    f_is_closed := ⟨_, _, fun_mk (st := s_is_closed) l7 c7 k7, PySem.W.mg_of X G a7, (fun_mk (st := s_is_closed) l7 c7 k7).binds (ps := ["day"]) fun _ _ _ _ _ _ us hl => (match us, hl with | [_], _ => rfl)⟩,
    f_takings := ⟨_, _, fun_mk (st := s_takings) l8 c8 k8, PySem.W.mg_of X G a8, (fun_mk (st := s_takings) l8 c8 k8).binds (ps := ["day"]) fun _ _ _ _ _ _ us hl => (match us, hl with | [_], _ => rfl)⟩,
    f_other := ⟨_, _, fun_mk (st := s_other) l9 c9 k9, PySem.W.mg_of X G a9, (fun_mk (st := s_other) l9 c9 k9).binds (ps := ["kind"]) fun _ _ _ _ _ _ us hl => (match us, hl with | [_], _ => rfl)⟩,
    f_swapped := ⟨_, _, fun_mk (st := s_swapped) l10 c10 k10, PySem.W.mg_of X G a10, (fun_mk (st := s_swapped) l10 c10 k10).binds (ps := ["whole", "place"]) fun _ _ _ _ _ _ us hl => (match us, hl with | [_, _], _ => rfl)⟩,
    f_zeroed := ⟨_, _, fun_mk (st := s_zeroed) l11 c11 k11, PySem.W.mg_of X G a11, (fun_mk (st := s_zeroed) l11 c11 k11).binds (ps := ["whole", "way"]) fun _ _ _ _ _ _ us hl => (match us, hl with | [_, _], _ => rfl)⟩,
    f_changed := ⟨_, _, fun_mk (st := s_changed) l12 c12 k12, PySem.W.mg_of X G a12, (fun_mk (st := s_changed) l12 c12 k12).binds (ps := ["receipts", "slip"]) fun _ _ _ _ _ _ us hl => (match us, hl with | [_, _], _ => rfl)⟩,
    f_is_slip_of := ⟨_, _, fun_mk (st := s_is_slip_of) l13 c13 k13, PySem.W.mg_of X G a13, (fun_mk (st := s_is_slip_of) l13 c13 k13).binds (ps := ["day", "slip"]) fun _ _ _ _ _ _ us hl => (match us, hl with | [_, _], _ => rfl)⟩,
    f_is_slip := ⟨_, _, fun_mk (st := s_is_slip) l14 c14 k14, PySem.W.mg_of X G a14, (fun_mk (st := s_is_slip) l14 c14 k14).binds (ps := ["day", "slip"]) fun _ _ _ _ _ _ us hl => (match us, hl with | [_, _], _ => rfl)⟩,
    f_mended := ⟨_, _, fun_mk (st := s_mended) l15 c15 k15, PySem.W.mg_of X G a15, (fun_mk (st := s_mended) l15 c15 k15).binds (ps := ["day", "slip"]) fun _ _ _ _ _ _ us hl => (match us, hl with | [_, _], _ => rfl)⟩,
    f_tries := ⟨_, _, fun_mk (st := s_tries) l16 c16 k16, PySem.W.mg_of X G a16, (fun_mk (st := s_tries) l16 c16 k16).binds (ps := ["day"]) fun _ _ _ _ _ _ us hl => (match us, hl with | [_], _ => rfl)⟩,
    f_slips := ⟨_, _, fun_mk (st := s_slips) l17 c17 k17, PySem.W.mg_of X G a17, (fun_mk (st := s_slips) l17 c17 k17).binds (ps := ["day"]) fun _ _ _ _ _ _ us hl => (match us, hl with | [_], _ => rfl)⟩,
    f__law_draws := ⟨_, _, fun_mk (st := s__law_draws) l18 c18 k18, PySem.W.mg_of X G a18, (fun_mk (st := s__law_draws) l18 c18 k18).binds (ps := ["script"]) fun _ _ _ _ _ _ us hl => (match us, hl with | [_], _ => rfl)⟩,
    f__law_mix := ⟨_, _, fun_mk (st := s__law_mix) l19 c19 k19, PySem.W.mg_of X G a19, (fun_mk (st := s__law_mix) l19 c19 k19).binds (ps := ["draws", "k", "many"]) fun _ _ _ _ _ _ us hl => (match us, hl with | [_, _, _], _ => rfl)⟩,
    f__law_name := ⟨_, _, fun_mk (st := s__law_name) l20 c20 k20, PySem.W.mg_of X G a20, (fun_mk (st := s__law_name) l20 c20 k20).binds (ps := ["e"]) fun _ _ _ _ _ _ us hl => (match us, hl with | [_], _ => rfl)⟩,
    f__law_of := ⟨_, _, fun_mk (st := s__law_of) l21 c21 k21, PySem.W.mg_of X G a21, (fun_mk (st := s__law_of) l21 c21 k21).binds (ps := ["which", "day", "slip"]) fun _ _ _ _ _ _ us hl => (match us, hl with | [_, _, _], _ => rfl)⟩,
    f_law := ⟨_, _, fun_mk (st := s_law) l22 c22 k22, PySem.W.mg_of X G a22, (fun_mk (st := s_law) l22 c22 k22).binds (ps := ["script"]) fun _ _ _ _ _ _ us hl => (match us, hl with | [_], _ => rfl)⟩,
    b_abs := PySem.W.mg_none_of X G z_abs,
    b_enumerate := PySem.W.mg_none_of X G z_enumerate,
    b_int := PySem.W.mg_none_of X G z_int,
    b_isinstance := PySem.W.mg_none_of X G z_isinstance,
    b_len := PySem.W.mg_none_of X G z_len,
    b_min := PySem.W.mg_none_of X G z_min,
    b_range := PySem.W.mg_none_of X G z_range,
    b_repr := PySem.W.mg_none_of X G z_repr,
    b_sorted := PySem.W.mg_none_of X G z_sorted,
    b_str := PySem.W.mg_none_of X G z_str,
    b_sum := PySem.W.mg_none_of X G z_sum,
    g_CARDS := ⟨_, PySem.W.mg_of X G y_CARDS⟩,
    g_COINS := ⟨_, PySem.W.mg_of X G y_COINS⟩,
    g_MOST_COUNTED := ⟨_, PySem.W.mg_of X G y_MOST_COUNTED⟩,
    g_MOST_RECEIPT := ⟨_, PySem.W.mg_of X G y_MOST_RECEIPT⟩,
    g_MOST_RECEIPTS := ⟨_, PySem.W.mg_of X G y_MOST_RECEIPTS⟩,
    g_MOST_SUM := ⟨_, PySem.W.mg_of X G y_MOST_SUM⟩,
    x_BadDay := E_BadDay,
    x_BadReceipt := E_BadReceipt,
    x_BadSlip := E_BadSlip,
    x_ShopError := E_ShopError,
    x_TooMany := E_TooMany,
    m_BadDay_ShopError := M_BadDay_ShopError,
    m_BadReceipt_ShopError := M_BadReceipt_ShopError,
    m_BadSlip_ShopError := M_BadSlip_ShopError,
    m_TooMany_ShopError := M_TooMany_ShopError,
    xi_BadDay := XI_BadDay,
    xi_BadReceipt := XI_BadReceipt,
    xi_BadSlip := XI_BadSlip,
    xi_TooMany := XI_TooMany,
    i_BadDay_BadDay := IS_BadDay_BadDay,
    i_BadDay_BadReceipt := IS_BadDay_BadReceipt,
    i_BadDay_BadSlip := IS_BadDay_BadSlip,
    i_BadDay_TooMany := IS_BadDay_TooMany,
    i_BadReceipt_BadDay := IS_BadReceipt_BadDay,
    i_BadReceipt_BadReceipt := IS_BadReceipt_BadReceipt,
    i_BadReceipt_BadSlip := IS_BadReceipt_BadSlip,
    i_BadReceipt_TooMany := IS_BadReceipt_TooMany,
    i_BadSlip_BadDay := IS_BadSlip_BadDay,
    i_BadSlip_BadReceipt := IS_BadSlip_BadReceipt,
    i_BadSlip_BadSlip := IS_BadSlip_BadSlip,
    i_BadSlip_TooMany := IS_BadSlip_TooMany,
    i_TooMany_BadDay := IS_TooMany_BadDay,
    i_TooMany_BadReceipt := IS_TooMany_BadReceipt,
    i_TooMany_BadSlip := IS_TooMany_BadSlip,
    i_TooMany_TooMany := IS_TooMany_TooMany }
  exact ⟨_, fun s u => .of_eq rfl, fun_mk (st := s_law) l22 c22 k22, fun base _ _ => ok_law T⟩
end Law
open PySem PySem.W PyProof.Rows
set_option maxHeartbeats 0 in
theorem PySem.Challenge.cw_bargainstold_k63_errors_of_closed_days_holds : PySem.Challenge.rw_bargainstold_k63_errors_of_closed_days.Holds := by
  w_on; o_law; k_head; (case hw => w_witness2)
  k_fill
  refine DV.law_end (l := PySem.Challenge.rw_bargainstold_k63_errors_of_closed_days) (n := 63) (k := 7) (N := Law.N_law) (x := "law") (qual := "law") (st := Law.s_law) (Fb := Law.b_law) rfl (by decide) rfl ⟨rfl, by decide, by decide⟩ Law.sc_law (fun w h Y => PySem.W.kIn_of Y) Law.law_true ?F
  case F =>
    intro w mg fa h KX G hmg
    refine' Law.all_mk KX G hmg ?a0 ?l0 ?c0 ?k0 ?a1 ?l1 ?c1 ?k1 ?a2 ?l2 ?c2 ?k2 ?a3 ?l3 ?c3 ?k3 ?a4 ?l4 ?c4 ?k4 ?a5 ?l5 ?c5 ?k5 ?a6 ?l6 ?c6 ?k6 ?a7 ?l7 ?c7 ?k7 ?a8 ?l8 ?c8 ?k8 ?a9 ?l9 ?c9 ?k9 ?a10 ?l10 ?c10 ?k10 ?a11 ?l11 ?c11 ?k11 ?a12 ?l12 ?c12 ?k12 ?a13 ?l13 ?c13 ?k13 ?a14 ?l14 ?c14 ?k14 ?a15 ?l15 ?c15 ?k15 ?a16 ?l16 ?c16 ?k16 ?a17 ?l17 ?c17 ?k17 ?a18 ?l18 ?c18 ?k18 ?a19 ?l19 ?c19 ?k19 ?a20 ?l20 ?c20 ?k20 ?a21 ?l21 ?c21 ?k21 ?a22 ?l22 ?c22 ?k22 ?z_abs ?z_enumerate ?z_int ?z_isinstance ?z_len ?z_min ?z_range ?z_repr ?z_sorted ?z_str ?z_sum ?y_CARDS ?y_COINS ?y_MOST_COUNTED ?y_MOST_RECEIPT ?y_MOST_RECEIPTS ?y_MOST_SUM ?E_BadDay ?E_BadReceipt ?E_BadSlip ?E_ShopError ?E_TooMany ?M_BadDay_ShopError ?M_BadReceipt_ShopError ?M_BadSlip_ShopError ?M_TooMany_ShopError ?XI_BadDay ?XI_BadReceipt ?XI_BadSlip ?XI_TooMany ?IS_BadDay_BadDay ?IS_BadDay_BadReceipt ?IS_BadDay_BadSlip ?IS_BadDay_TooMany ?IS_BadReceipt_BadDay ?IS_BadReceipt_BadReceipt ?IS_BadReceipt_BadSlip ?IS_BadReceipt_TooMany ?IS_BadSlip_BadDay ?IS_BadSlip_BadReceipt ?IS_BadSlip_BadSlip ?IS_BadSlip_TooMany ?IS_TooMany_BadDay ?IS_TooMany_BadReceipt ?IS_TooMany_BadSlip ?IS_TooMany_TooMany
    (case a0 => k_is); (case l0 => k_is); (case c0 => k_is); (case k0 => k_is); (case a1 => k_is); (case l1 => k_is); (case c1 => k_is); (case k1 => k_is); (case a2 => k_is); (case l2 => k_is); (case c2 => k_is); (case k2 => k_is); (case a3 => k_is); (case l3 => k_is); (case c3 => k_is); (case k3 => k_is); (case a4 => k_is); (case l4 => k_is); (case c4 => k_is); (case k4 => k_is); (case a5 => k_is); (case l5 => k_is); (case c5 => k_is); (case k5 => k_is); (case a6 => k_is); (case l6 => k_is); (case c6 => k_is); (case k6 => k_is); (case a7 => k_is); (case l7 => k_is); (case c7 => k_is); (case k7 => k_is); (case a8 => k_is); (case l8 => k_is); (case c8 => k_is); (case k8 => k_is); (case a9 => k_is); (case l9 => k_is); (case c9 => k_is); (case k9 => k_is); (case a10 => k_is); (case l10 => k_is); (case c10 => k_is); (case k10 => k_is); (case a11 => k_is); (case l11 => k_is); (case c11 => k_is); (case k11 => k_is); (case a12 => k_is); (case l12 => k_is); (case c12 => k_is); (case k12 => k_is); (case a13 => k_is); (case l13 => k_is); (case c13 => k_is); (case k13 => k_is); (case a14 => k_is); (case l14 => k_is); (case c14 => k_is); (case k14 => k_is); (case a15 => k_is); (case l15 => k_is); (case c15 => k_is); (case k15 => k_is); (case a16 => k_is); (case l16 => k_is); (case c16 => k_is); (case k16 => k_is); (case a17 => k_is); (case l17 => k_is); (case c17 => k_is); (case k17 => k_is); (case a18 => k_is); (case l18 => k_is); (case c18 => k_is); (case k18 => k_is); (case a19 => k_is); (case l19 => k_is); (case c19 => k_is); (case k19 => k_is); (case a20 => k_is); (case l20 => k_is); (case c20 => k_is); (case k20 => k_is); (case a21 => k_is); (case l21 => k_is); (case c21 => k_is); (case k21 => k_is); (case a22 => k_is); (case l22 => k_is); (case c22 => k_is); (case k22 => k_is); (case z_abs => k_is); (case z_enumerate => k_is); (case z_int => k_is); (case z_isinstance => k_is); (case z_len => k_is); (case z_min => k_is); (case z_range => k_is); (case z_repr => k_is); (case z_sorted => k_is); (case z_str => k_is); (case z_sum => k_is); (case y_CARDS => k_is); (case y_COINS => k_is); (case y_MOST_COUNTED => k_is); (case y_MOST_RECEIPT => k_is); (case y_MOST_RECEIPTS => k_is); (case y_MOST_SUM => k_is); (case E_BadDay => (refine' DV.exc_mk KX G ?n (DV.init_mk ?lk ?h1 ?h2 ?h3 ?h4 ?h5 ?h6 ?h7 ?h8 ?h9 ?hs ?ht ?hb ?hT) (DV.raise_mk ?r1 ?r2 ?r3 ?r4 ?r5 ?r6 ?r7 ?r8 ?r9 ?r10 ?r11 ?r12) ⟨?x1, ?x2, ?x3, ?x4⟩; (case n => k_is); (case r1 => k_is); (case r7 => k_is); (case lk => k_is); (case h1 => k_is); (case h2 => exact rfl); (case h3 => exact rfl); (case h4 => k_is); (case h5 => exact rfl); (case h6 => exact rfl); (case h7 => k_is); (case h8 => k_is); (case h9 => exact rfl); (case hs => exact PySem.W.mg_none_of KX G (by k_is)); (case ht => exact rfl); (case hb => intro a b; exact rfl); (case hT => k_is); (case r2 => exact rfl); (case r3 => k_is); (case r4 => k_is); (case r5 => k_is); (case r6 => k_is); (case r8 => k_is); (case r9 => ks_is); (case r10 => k_is); (case r11 => k_is); (case r12 => k_is); (case x1 => k_is); (case x2 => k_is); (case x3 => k_is); (case x4 => first | k_is | exact rfl))); (case E_BadReceipt => (refine' DV.exc_mk KX G ?n (DV.init_mk ?lk ?h1 ?h2 ?h3 ?h4 ?h5 ?h6 ?h7 ?h8 ?h9 ?hs ?ht ?hb ?hT) (DV.raise_mk ?r1 ?r2 ?r3 ?r4 ?r5 ?r6 ?r7 ?r8 ?r9 ?r10 ?r11 ?r12) ⟨?x1, ?x2, ?x3, ?x4⟩; (case n => k_is); (case r1 => k_is); (case r7 => k_is); (case lk => k_is); (case h1 => k_is); (case h2 => exact rfl); (case h3 => exact rfl); (case h4 => k_is); (case h5 => exact rfl); (case h6 => exact rfl); (case h7 => k_is); (case h8 => k_is); (case h9 => exact rfl); (case hs => exact PySem.W.mg_none_of KX G (by k_is)); (case ht => exact rfl); (case hb => intro a b; exact rfl); (case hT => k_is); (case r2 => exact rfl); (case r3 => k_is); (case r4 => k_is); (case r5 => k_is); (case r6 => k_is); (case r8 => k_is); (case r9 => ks_is); (case r10 => k_is); (case r11 => k_is); (case r12 => k_is); (case x1 => k_is); (case x2 => k_is); (case x3 => k_is); (case x4 => first | k_is | exact rfl))); (case E_BadSlip => (refine' DV.exc_mk KX G ?n (DV.init_mk ?lk ?h1 ?h2 ?h3 ?h4 ?h5 ?h6 ?h7 ?h8 ?h9 ?hs ?ht ?hb ?hT) (DV.raise_mk ?r1 ?r2 ?r3 ?r4 ?r5 ?r6 ?r7 ?r8 ?r9 ?r10 ?r11 ?r12) ⟨?x1, ?x2, ?x3, ?x4⟩; (case n => k_is); (case r1 => k_is); (case r7 => k_is); (case lk => k_is); (case h1 => k_is); (case h2 => exact rfl); (case h3 => exact rfl); (case h4 => k_is); (case h5 => exact rfl); (case h6 => exact rfl); (case h7 => k_is); (case h8 => k_is); (case h9 => exact rfl); (case hs => exact PySem.W.mg_none_of KX G (by k_is)); (case ht => exact rfl); (case hb => intro a b; exact rfl); (case hT => k_is); (case r2 => exact rfl); (case r3 => k_is); (case r4 => k_is); (case r5 => k_is); (case r6 => k_is); (case r8 => k_is); (case r9 => ks_is); (case r10 => k_is); (case r11 => k_is); (case r12 => k_is); (case x1 => k_is); (case x2 => k_is); (case x3 => k_is); (case x4 => first | k_is | exact rfl))); (case E_ShopError => (refine' DV.exc_mk KX G ?n (DV.init_mk ?lk ?h1 ?h2 ?h3 ?h4 ?h5 ?h6 ?h7 ?h8 ?h9 ?hs ?ht ?hb ?hT) (DV.raise_mk ?r1 ?r2 ?r3 ?r4 ?r5 ?r6 ?r7 ?r8 ?r9 ?r10 ?r11 ?r12) ⟨?x1, ?x2, ?x3, ?x4⟩; (case n => k_is); (case r1 => k_is); (case r7 => k_is); (case lk => k_is); (case h1 => k_is); (case h2 => exact rfl); (case h3 => exact rfl); (case h4 => k_is); (case h5 => exact rfl); (case h6 => exact rfl); (case h7 => k_is); (case h8 => k_is); (case h9 => exact rfl); (case hs => exact PySem.W.mg_none_of KX G (by k_is)); (case ht => exact rfl); (case hb => intro a b; exact rfl); (case hT => k_is); (case r2 => exact rfl); (case r3 => k_is); (case r4 => k_is); (case r5 => k_is); (case r6 => k_is); (case r8 => k_is); (case r9 => ks_is); (case r10 => k_is); (case r11 => k_is); (case r12 => k_is); (case x1 => k_is); (case x2 => k_is); (case x3 => k_is); (case x4 => first | k_is | exact rfl))); (case E_TooMany => (refine' DV.exc_mk KX G ?n (DV.init_mk ?lk ?h1 ?h2 ?h3 ?h4 ?h5 ?h6 ?h7 ?h8 ?h9 ?hs ?ht ?hb ?hT) (DV.raise_mk ?r1 ?r2 ?r3 ?r4 ?r5 ?r6 ?r7 ?r8 ?r9 ?r10 ?r11 ?r12) ⟨?x1, ?x2, ?x3, ?x4⟩; (case n => k_is); (case r1 => k_is); (case r7 => k_is); (case lk => k_is); (case h1 => k_is); (case h2 => exact rfl); (case h3 => exact rfl); (case h4 => k_is); (case h5 => exact rfl); (case h6 => exact rfl); (case h7 => k_is); (case h8 => k_is); (case h9 => exact rfl); (case hs => exact PySem.W.mg_none_of KX G (by k_is)); (case ht => exact rfl); (case hb => intro a b; exact rfl); (case hT => k_is); (case r2 => exact rfl); (case r3 => k_is); (case r4 => k_is); (case r5 => k_is); (case r6 => k_is); (case r8 => k_is); (case r9 => ks_is); (case r10 => k_is); (case r11 => k_is); (case r12 => k_is); (case x1 => k_is); (case x2 => k_is); (case x3 => k_is); (case x4 => first | k_is | exact rfl))); (case M_BadDay_ShopError => (refine' DV.cat_mk KX G ?n1 ?n2 (DV.exm_mk ?e1 ?e2 ?e3 ?e4) ⟨?x1, ?x2, ?x3, ?x4⟩ ?no; (case n1 => k_is); (case n2 => k_is); (case e1 => k_is); (case e2 => k_is); (case e3 => k_is); (case e4 => k_is); (case x1 => k_is); (case x2 => k_is); (case x3 => k_is); (case x4 => first | k_is | exact rfl); (case no => k_is))); (case M_BadReceipt_ShopError => (refine' DV.cat_mk KX G ?n1 ?n2 (DV.exm_mk ?e1 ?e2 ?e3 ?e4) ⟨?x1, ?x2, ?x3, ?x4⟩ ?no; (case n1 => k_is); (case n2 => k_is); (case e1 => k_is); (case e2 => k_is); (case e3 => k_is); (case e4 => k_is); (case x1 => k_is); (case x2 => k_is); (case x3 => k_is); (case x4 => first | k_is | exact rfl); (case no => k_is))); (case M_BadSlip_ShopError => (refine' DV.cat_mk KX G ?n1 ?n2 (DV.exm_mk ?e1 ?e2 ?e3 ?e4) ⟨?x1, ?x2, ?x3, ?x4⟩ ?no; (case n1 => k_is); (case n2 => k_is); (case e1 => k_is); (case e2 => k_is); (case e3 => k_is); (case e4 => k_is); (case x1 => k_is); (case x2 => k_is); (case x3 => k_is); (case x4 => first | k_is | exact rfl); (case no => k_is))); (case M_TooMany_ShopError => (refine' DV.cat_mk KX G ?n1 ?n2 (DV.exm_mk ?e1 ?e2 ?e3 ?e4) ⟨?x1, ?x2, ?x3, ?x4⟩ ?no; (case n1 => k_is); (case n2 => k_is); (case e1 => k_is); (case e2 => k_is); (case e3 => k_is); (case e4 => k_is); (case x1 => k_is); (case x2 => k_is); (case x3 => k_is); (case x4 => first | k_is | exact rfl); (case no => k_is))); (case XI_BadDay => (refine' DV.xi_mk KX G ?n1 ⟨?e1, ?e2, ?e3, ?e4, ?e5⟩; (case n1 => k_is); (case e1 => exact rfl); (case e2 => k_is); (case e3 => k_is); (case e4 => k_is); (case e5 => k_is))); (case XI_BadReceipt => (refine' DV.xi_mk KX G ?n1 ⟨?e1, ?e2, ?e3, ?e4, ?e5⟩; (case n1 => k_is); (case e1 => exact rfl); (case e2 => k_is); (case e3 => k_is); (case e4 => k_is); (case e5 => k_is))); (case XI_BadSlip => (refine' DV.xi_mk KX G ?n1 ⟨?e1, ?e2, ?e3, ?e4, ?e5⟩; (case n1 => k_is); (case e1 => exact rfl); (case e2 => k_is); (case e3 => k_is); (case e4 => k_is); (case e5 => k_is))); (case XI_TooMany => (refine' DV.xi_mk KX G ?n1 ⟨?e1, ?e2, ?e3, ?e4, ?e5⟩; (case n1 => k_is); (case e1 => exact rfl); (case e2 => k_is); (case e3 => k_is); (case e4 => k_is); (case e5 => k_is))); (case IS_BadDay_BadDay => (exact DV.is_same)); (case IS_BadDay_BadReceipt => (refine' DV.is_mk KX G ?n1 ?n2 ?ne ?e2 ?e3 ?e4; (case n1 => k_is); (case n2 => k_is); (case ne => exact rfl); (case e2 => k_is); (case e3 => k_is); (case e4 => k_is))); (case IS_BadDay_BadSlip => (refine' DV.is_mk KX G ?n1 ?n2 ?ne ?e2 ?e3 ?e4; (case n1 => k_is); (case n2 => k_is); (case ne => exact rfl); (case e2 => k_is); (case e3 => k_is); (case e4 => k_is))); (case IS_BadDay_TooMany => (refine' DV.is_mk KX G ?n1 ?n2 ?ne ?e2 ?e3 ?e4; (case n1 => k_is); (case n2 => k_is); (case ne => exact rfl); (case e2 => k_is); (case e3 => k_is); (case e4 => k_is))); (case IS_BadReceipt_BadDay => (refine' DV.is_mk KX G ?n1 ?n2 ?ne ?e2 ?e3 ?e4; (case n1 => k_is); (case n2 => k_is); (case ne => exact rfl); (case e2 => k_is); (case e3 => k_is); (case e4 => k_is))); (case IS_BadReceipt_BadReceipt => (exact DV.is_same)); (case IS_BadReceipt_BadSlip => (refine' DV.is_mk KX G ?n1 ?n2 ?ne ?e2 ?e3 ?e4; (case n1 => k_is); (case n2 => k_is); (case ne => exact rfl); (case e2 => k_is); (case e3 => k_is); (case e4 => k_is))); (case IS_BadReceipt_TooMany => (refine' DV.is_mk KX G ?n1 ?n2 ?ne ?e2 ?e3 ?e4; (case n1 => k_is); (case n2 => k_is); (case ne => exact rfl); (case e2 => k_is); (case e3 => k_is); (case e4 => k_is))); (case IS_BadSlip_BadDay => (refine' DV.is_mk KX G ?n1 ?n2 ?ne ?e2 ?e3 ?e4; (case n1 => k_is); (case n2 => k_is); (case ne => exact rfl); (case e2 => k_is); (case e3 => k_is); (case e4 => k_is))); (case IS_BadSlip_BadReceipt => (refine' DV.is_mk KX G ?n1 ?n2 ?ne ?e2 ?e3 ?e4; (case n1 => k_is); (case n2 => k_is); (case ne => exact rfl); (case e2 => k_is); (case e3 => k_is); (case e4 => k_is))); (case IS_BadSlip_BadSlip => (exact DV.is_same)); (case IS_BadSlip_TooMany => (refine' DV.is_mk KX G ?n1 ?n2 ?ne ?e2 ?e3 ?e4; (case n1 => k_is); (case n2 => k_is); (case ne => exact rfl); (case e2 => k_is); (case e3 => k_is); (case e4 => k_is))); (case IS_TooMany_BadDay => (refine' DV.is_mk KX G ?n1 ?n2 ?ne ?e2 ?e3 ?e4; (case n1 => k_is); (case n2 => k_is); (case ne => exact rfl); (case e2 => k_is); (case e3 => k_is); (case e4 => k_is))); (case IS_TooMany_BadReceipt => (refine' DV.is_mk KX G ?n1 ?n2 ?ne ?e2 ?e3 ?e4; (case n1 => k_is); (case n2 => k_is); (case ne => exact rfl); (case e2 => k_is); (case e3 => k_is); (case e4 => k_is))); (case IS_TooMany_BadSlip => (refine' DV.is_mk KX G ?n1 ?n2 ?ne ?e2 ?e3 ?e4; (case n1 => k_is); (case n2 => k_is); (case ne => exact rfl); (case e2 => k_is); (case e3 => k_is); (case e4 => k_is))); (case IS_TooMany_TooMany => (exact DV.is_same))

