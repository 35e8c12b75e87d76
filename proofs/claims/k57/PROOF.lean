import PyProof.Rows.All
import Wide.All
import OpenK.AllK
import Wide.FinOn
import HandS.ForMost
import HandS.ForExc
import HandS.Style
import HandS.Flow
import HandS.DictEq
import HandS.DeepEq
import KE.DataEq
import HandS.Wide
import HandS.TupAny
import HandS.Deep
import HandS.ExcOwn
import HandS.Zip
import HandS.RaiseMore
import HandS.SortInts
import HandS.Small
import PyProof.ReprBulk
import PySem.Challenge.RW_bargainstold_k57_whole_orders_for_stores
set_option Elab.async false
set_option linter.all false
set_option maxRecDepth 100000
set_option maxHeartbeats 4000000

namespace DV
open PySem L2

/-- data as trees -/
inductive D where
  | non | bl (b : Bool) | int (i : Int) | str (x : Str)
  | lst (xs : List D) | tup (xs : List D) | dct (kvs : List (Key × D)) | scr (ns : List Int)

/-- an outcome: a value, an error of the class named c that carries d, or: not followed here -/
inductive R (α : Type) where
  | ok (a : α) | exc (c : Str) (n : Int) | no

def R.bind {α β : Type} : R α → (α → R β) → R β
  | .ok a, f => f a
  | .exc c d, _ => .exc c d
  | .no, _ => .no
@[simp] theorem R.bind_ok {α β : Type} (a : α) (f : α → R β) : R.bind (.ok a) f = f a := Eq.trans rfl rfl
@[simp] theorem R.bind_exc {α β : Type} (c : Str) (d : Int) (f : α → R β) : R.bind (.exc c d) f = .exc c d := Eq.trans rfl rfl
@[simp] theorem R.bind_no {α β : Type} (f : α → R β) : R.bind .no f = .no := Eq.trans rfl rfl

/-- what stands in a slot: a datum that nobody changes; a list, a dict of the slot's own -/
inductive SV where
  | d (x : D) | ol (xs : List D) | od (kvs : List (Key × D))
abbrev Env := List (Option SV)

/-- the script: known to the machine, or written -/
def ScrO (K : PySem.W.Frag) (H : Hp) (a : Addr) (vs : List V) : Prop := (∃ o, H a = some (.frz o (.lst vs))) ∨ SqL K (fun _ => none) a vs
theorem ScrO.sq {K : PySem.W.Frag} {H : Hp} {a : Addr} {vs : List V} (h : ScrO K H a vs) : SqL K H a vs := by
  rcases h with ⟨o, h⟩ | (h | ⟨o, h⟩) | h
  · exact .inl (.inr ⟨o, h⟩)
  · cases h
  · cases h
  · exact .inr h
section
variable (K : PySem.W.Frag) (O : Addr → Prop) (H : Hp)
mutual
/-- v is the datum d in the heap H; its lists stand away from O -/
def RepD : D → V → Prop
  | .non, v => v = .non
  | .bl b, v => v = .bl b
  | .int i, v => v = .int i
  | .str x, v => v = .str x
  | .lst xs, v => ∃ a vs, v = .ref a ∧ ¬ O a ∧ H a = some (.lst vs) ∧ RepDs xs vs
  | .tup xs, v => ∃ a vs, v = .ref a ∧ SqT K H a vs ∧ RepDs xs vs
  | .dct kvs, v => ∃ a vs, v = .ref a ∧ ¬ O a ∧ Rd H a (.dK vs) ∧ RepKs kvs vs
  | .scr ns, v => ∃ a, v = .ref a ∧ ScrO K H a (ns.map V.int)
def RepDs : List D → List V → Prop
  | [], vs => vs = []
  | x :: xs, vs => ∃ v r, vs = v :: r ∧ RepD x v ∧ RepDs xs r
def RepKs : List (Key × D) → List (Key × V) → Prop
  | [], vs => vs = []
  | (k, x) :: xs, vs => ∃ v r, vs = (k, v) :: r ∧ RepD x v ∧ RepKs xs r
end
/-- the topmost list or dict may stand in O -/
def RepTop : D → V → Prop
  | .lst xs, v => ∃ a vs, v = .ref a ∧ H a = some (.lst vs) ∧ RepDs K O H xs vs
  | .dct kvs, v => ∃ a vs, v = .ref a ∧ Rd H a (.dK vs) ∧ RepKs K O H kvs vs
  | d, v => RepD K O H d v
def RepM (m : Bool) (d : D) (v : V) : Prop := if m = true then RepTop K O H d v else RepD K O H d v
end

/-- what is kept: all away from O, and what is never written -/
def Keep (O : Addr → Prop) (H H' : Hp) : Prop := ∀ a o, H a = some o → (¬ O a ∨ ¬ Mut (some o)) → H' a = some o
theorem Keep.of_same {O : Addr → Prop} {H H' : Hp} (h : Same H H') : Keep O H H' := fun a o e _ => h a o e
theorem Keep.refl {O : Addr → Prop} {H : Hp} : Keep O H H := fun _ _ e _ => e
theorem Keep.upd {O : Addr → Prop} {H : Hp} {a : Addr} {o : HO} (h : O a) (hm : Mut (H a)) : Keep O H (L2.upd H a o) := fun b u e c => by
  by_cases hb : b = a
  · subst hb
    rcases c with c | c
    · exact absurd h c
    · rw [e] at hm; exact absurd hm c
  · rw [upd_ne hb]; exact e
theorem Keep.new {O : Addr → Prop} {H : Hp} {a : Addr} {o : HO} (h : H a = none) : Keep O H (L2.upd H a o) := fun b u e _ => by
  rw [upd_ne (ne_of_none e h)]; exact e

section
variable {K : PySem.W.Frag} {O O' : Addr → Prop} {H H' : Hp}
theorem rd_keep {a : Addr} {u : HO} (k : Keep O H H') (ho : ¬ O a ∨ ¬ Mut (some u)) (h : Rd H a u) : Rd H' a u := by
  rcases h with h | ⟨o, h⟩
  · exact .inl (k a _ h ho)
  · exact .inr ⟨o, k a _ h (.inr (fun z => z))⟩
theorem ScrO.keep {a : Addr} {vs : List V} (k : Keep O H H') (h : ScrO K H a vs) : ScrO K H' a vs := by
  rcases h with ⟨o, h⟩ | h
  · exact .inl ⟨o, k _ _ h (.inr fun z => z)⟩
  · exact .inr h
theorem sqT_keep {a : Addr} {vs : List V} (k : Keep O H H') (h : SqT K H a vs) : SqT K H' a vs := by
  rcases h with h | h
  · exact .inl (rd_keep k (.inr (fun z => z)) h)
  · exact .inr h
mutual
/-- fewer addresses are forbidden, the heap is kept -/
theorem RepD.keep (k : Keep O H H') (w : ∀ a, O' a → O a) : ∀ (d : D) (v : V), RepD K O H d v → RepD K O' H' d v
  | .non, _, h => h
  | .bl _, _, h => h
  | .int _, _, h => h
  | .str _, _, h => h
  | .lst xs, v, h => by
    simp only [RepD] at h ⊢
    obtain ⟨a, vs, e, ho, hs, hr⟩ := h
    exact ⟨a, vs, e, fun z => ho (w a z), k _ _ hs (.inl ho), RepDs.keep k w xs vs hr⟩
  | .tup xs, v, h => by
    simp only [RepD] at h ⊢
    obtain ⟨a, vs, e, hs, hr⟩ := h
    exact ⟨a, vs, e, sqT_keep k hs, RepDs.keep k w xs vs hr⟩
  | .dct kvs, v, h => by
    simp only [RepD] at h ⊢
    obtain ⟨a, vs, e, ho, hs, hr⟩ := h
    exact ⟨a, vs, e, fun z => ho (w a z), rd_keep k (.inl ho) hs, RepKs.keep k w kvs vs hr⟩
  | .scr ns, v, h => by
    simp only [RepD] at h ⊢
    obtain ⟨a, e, h⟩ := h
    exact ⟨a, e, h.keep k⟩
theorem RepDs.keep (k : Keep O H H') (w : ∀ a, O' a → O a) : ∀ (ds : List D) (vs : List V), RepDs K O H ds vs → RepDs K O' H' ds vs
  | [], _, h => by simp only [RepDs] at h ⊢; exact h
  | x :: xs, vs, h => by
    simp only [RepDs] at h ⊢
    obtain ⟨v, r, e, h1, h2⟩ := h
    exact ⟨v, r, e, RepD.keep k w x v h1, RepDs.keep k w xs r h2⟩
theorem RepKs.keep (k : Keep O H H') (w : ∀ a, O' a → O a) : ∀ (ds : List (Key × D)) (vs : List (Key × V)), RepKs K O H ds vs → RepKs K O' H' ds vs
  | [], _, h => by simp only [RepKs] at h ⊢; exact h
  | (c, x) :: xs, vs, h => by
    simp only [RepKs] at h ⊢
    obtain ⟨v, r, e, h1, h2⟩ := h
    exact ⟨v, r, e, RepD.keep k w x v h1, RepKs.keep k w xs r h2⟩
end
theorem RepD.same {d : D} {v : V} (s : Same H H') (h : RepD K O H d v) : RepD K O H' d v := RepD.keep (Keep.of_same s) (fun _ z => z) d v h
theorem RepDs.same {d : List D} {v : List V} (s : Same H H') (h : RepDs K O H d v) : RepDs K O H' d v := RepDs.keep (Keep.of_same s) (fun _ z => z) d v h
theorem RepKs.same {d : List (Key × D)} {v : List (Key × V)} (s : Same H H') (h : RepKs K O H d v) : RepKs K O H' d v := RepKs.keep (Keep.of_same s) (fun _ z => z) d v h
mutual
/-- a new address may be forbidden -/
theorem RepD.avoid {p : Addr} (n : H p = none) : ∀ (d : D) (v : V), RepD K O H d v → RepD K (fun a => O a ∨ a = p) H d v
  | .non, _, h => h
  | .bl _, _, h => h
  | .int _, _, h => h
  | .str _, _, h => h
  | .lst xs, v, h => by
    simp only [RepD] at h ⊢
    obtain ⟨a, vs, e, ho, hs, hr⟩ := h
    refine ⟨a, vs, e, fun z => z.elim ho fun z => ?_, hs, RepDs.avoid n xs vs hr⟩
    subst z
    rw [n] at hs; cases hs
  | .tup xs, v, h => by
    simp only [RepD] at h ⊢
    obtain ⟨a, vs, e, hs, hr⟩ := h
    exact ⟨a, vs, e, hs, RepDs.avoid n xs vs hr⟩
  | .dct kvs, v, h => by
    simp only [RepD] at h ⊢
    obtain ⟨a, vs, e, ho, hs, hr⟩ := h
    refine ⟨a, vs, e, fun z => z.elim ho fun z => ?_, hs, RepKs.avoid n kvs vs hr⟩
    subst z
    rcases hs with h1 | ⟨o, h1⟩
    · rw [n] at h1; cases h1
    · rw [n] at h1; cases h1
  | .scr ns, v, h => by
    simp only [RepD] at h ⊢
    exact h
theorem RepDs.avoid {p : Addr} (n : H p = none) : ∀ (ds : List D) (vs : List V), RepDs K O H ds vs → RepDs K (fun a => O a ∨ a = p) H ds vs
  | [], _, h => by simp only [RepDs] at h ⊢; exact h
  | x :: xs, vs, h => by
    simp only [RepDs] at h ⊢
    obtain ⟨v, r, e, h1, h2⟩ := h
    exact ⟨v, r, e, RepD.avoid n x v h1, RepDs.avoid n xs r h2⟩
theorem RepKs.avoid {p : Addr} (n : H p = none) : ∀ (ds : List (Key × D)) (vs : List (Key × V)), RepKs K O H ds vs → RepKs K (fun a => O a ∨ a = p) H ds vs
  | [], _, h => by simp only [RepKs] at h ⊢; exact h
  | (c, x) :: xs, vs, h => by
    simp only [RepKs] at h ⊢
    obtain ⟨v, r, e, h1, h2⟩ := h
    exact ⟨v, r, e, RepD.avoid n x v h1, RepKs.avoid n xs r h2⟩
end
theorem RepD.top {d : D} {v : V} (h : RepD K O H d v) : RepTop K O H d v := by
  cases d <;> simp only [RepTop] <;> try exact h
  · simp only [RepD] at h
    obtain ⟨a, vs, e, _, q⟩ := h
    exact ⟨a, vs, e, q⟩
  · simp only [RepD] at h
    obtain ⟨a, vs, e, _, q⟩ := h
    exact ⟨a, vs, e, q⟩
theorem RepTop.same {d : D} {v : V} (s : Same H H') (h : RepTop K O H d v) : RepTop K O H' d v := by
  cases d <;> simp only [RepTop] at h ⊢ <;> try exact RepD.same s h
  · obtain ⟨a, vs, e, h1, h2⟩ := h
    exact ⟨a, vs, e, s _ _ h1, RepDs.same s h2⟩
  · obtain ⟨a, vs, e, h1, h2⟩ := h
    refine ⟨a, vs, e, ?_, RepKs.same s h2⟩
    rcases h1 with h1 | ⟨o, h1⟩
    · exact .inl (s _ _ h1)
    · exact .inr ⟨o, s _ _ h1⟩
theorem RepM.same {m : Bool} {d : D} {v : V} (s : Same H H') (h : RepM K O H m d v) : RepM K O H' m d v := by
  unfold RepM at h ⊢
  cases m
  · exact RepD.same s h
  · exact RepTop.same s h
theorem RepDs.length : ∀ {ds : List D} {vs : List V}, RepDs K O H ds vs → ds.length = vs.length
  | [], vs, h => by simp only [RepDs] at h; subst h; rfl
  | x :: xs, vs, h => by
    simp only [RepDs] at h
    obtain ⟨v, r, e, _, h2⟩ := h
    subst e
    simp [RepDs.length h2]
theorem RepDs.get : ∀ {ds : List D} {vs : List V} {i : Nat} {d : D}, RepDs K O H ds vs → ds[i]? = some d → ∃ v, vs[i]? = some v ∧ RepD K O H d v
  | [], _, _, _, _, e => by simp at e
  | x :: xs, vs, i, d, h, e => by
    simp only [RepDs] at h
    obtain ⟨v, r, e1, h1, h2⟩ := h
    subst e1
    cases i with
    | zero => simp at e; subst e; exact ⟨v, rfl, h1⟩
    | succ i =>
      obtain ⟨w, q1, q2⟩ := RepDs.get (i := i) h2 (by simpa using e)
      exact ⟨w, by simpa using q1, q2⟩
theorem RepDs.getV {ds : List D} {vs : List V} {i : Nat} {v : V} (h : RepDs K O H ds vs) (e : vs[i]? = some v) : ∃ d, ds[i]? = some d ∧ RepD K O H d v := by
  have hi : i < ds.length := by
    rw [h.length]
    exact (List.getElem?_eq_some_iff.mp e).1
  obtain ⟨w, q1, q2⟩ := h.get (List.getElem?_eq_getElem hi)
  rw [e] at q1
  cases q1
  exact ⟨_, List.getElem?_eq_getElem hi, q2⟩
theorem RepDs.append : ∀ {ds es : List D} {vs us : List V}, RepDs K O H ds vs → RepDs K O H es us → RepDs K O H (ds ++ es) (vs ++ us)
  | [], es, vs, us, h, g => by simp only [RepDs] at h; subst h; exact g
  | x :: xs, es, vs, us, h, g => by
    simp only [RepDs] at h
    obtain ⟨v, r, e, h1, h2⟩ := h
    subst e
    simp only [List.cons_append, RepDs]
    exact ⟨v, r ++ us, rfl, h1, RepDs.append h2 g⟩
theorem RepDs.take : ∀ {ds : List D} {vs : List V} (n : Nat), RepDs K O H ds vs → RepDs K O H (ds.take n) (vs.take n)
  | _, _, 0, _ => by simp [RepDs]
  | [], vs, n + 1, h => by simp only [RepDs] at h; subst h; simp [RepDs]
  | x :: xs, vs, n + 1, h => by
    simp only [RepDs] at h
    obtain ⟨v, r, e, h1, h2⟩ := h
    subst e
    simp only [List.take_succ_cons, RepDs]
    exact ⟨v, _, rfl, h1, RepDs.take n h2⟩
theorem RepDs.drop : ∀ {ds : List D} {vs : List V} (n : Nat), RepDs K O H ds vs → RepDs K O H (ds.drop n) (vs.drop n)
  | _, _, 0, h => by simpa using h
  | [], vs, n + 1, h => by simp only [RepDs] at h; subst h; simp [RepDs]
  | x :: xs, vs, n + 1, h => by
    simp only [RepDs] at h
    obtain ⟨v, r, e, h1, h2⟩ := h
    subst e
    simpa using RepDs.drop n h2
theorem RepDs.nil : RepDs K O H [] [] := by simp [RepDs]
theorem RepDs.cons {d : D} {v : V} {ds : List D} {vs : List V} (h : RepD K O H d v) (g : RepDs K O H ds vs) : RepDs K O H (d :: ds) (v :: vs) := by
  simp only [RepDs]; exact ⟨v, vs, rfl, h, g⟩
theorem RepDs.ofAll : ∀ {ds : List D} {vs : List V}, ds.length = vs.length → (∀ (i : Nat) d v, ds[i]? = some d → vs[i]? = some v → RepD K O H d v) → RepDs K O H ds vs
  | [], [], _, _ => .nil
  | d :: ds, v :: vs, e, h => .cons (h 0 d v rfl rfl) (RepDs.ofAll (by simpa using e) fun i a b p q => h (i + 1) a b (by simpa using p) (by simpa using q))
theorem RepDs.reverse {ds : List D} {vs : List V} (h : RepDs K O H ds vs) : RepDs K O H ds.reverse vs.reverse := by
  refine .ofAll (by simp [h.length]) fun i d v p q => ?_
  have h1 : i < ds.length := by simpa using (List.getElem?_eq_some_iff.mp p).1
  have e := h.length
  rw [List.getElem?_reverse h1] at p
  rw [List.getElem?_reverse (by omega)] at q
  rw [e] at p
  obtain ⟨w, q1, q2⟩ := h.get p
  rw [q] at q1; cases q1; exact q2
theorem RepDs.set {ds : List D} {vs : List V} {d : D} {v : V} (i : Nat) (h : RepDs K O H ds vs) (g : RepD K O H d v) : RepDs K O H (ds.set i d) (vs.set i v) := by
  refine .ofAll (by simp [h.length]) fun j a b p q => ?_
  by_cases e : i = j
  · subst e
    have h1 : i < ds.length := by simpa using (List.getElem?_eq_some_iff.mp p).1
    have h2 : i < vs.length := by rw [← h.length]; exact h1
    rw [List.getElem?_set_self h1] at p
    rw [List.getElem?_set_self h2] at q
    cases p; cases q; exact g
  · rw [List.getElem?_set_ne e] at p
    rw [List.getElem?_set_ne e] at q
    obtain ⟨w, q1, q2⟩ := h.get p
    rw [q] at q1; cases q1; exact q2
theorem RepKs.length : ∀ {ds : List (Key × D)} {vs : List (Key × V)}, RepKs K O H ds vs → ds.length = vs.length
  | [], vs, h => by simp only [RepKs] at h; subst h; rfl
  | (c, x) :: xs, vs, h => by
    simp only [RepKs] at h
    obtain ⟨v, r, e, _, h2⟩ := h
    subst e
    simp [RepKs.length h2]
end
end DV

namespace DV
open PySem L2

/-! the slots and what they hold -/
def SV.own : SV → Bool
  | .d _ => false
  | _ => true
def RepV (K : PySem.W.Frag) (O : Addr → Prop) (H : Hp) : SV → V → Prop
  | .d x, v => RepD K O H x v
  | .ol xs, v => ∃ a vs, v = .ref a ∧ O a ∧ H a = some (.lst vs) ∧ RepDs K O H xs vs
  | .od kvs, v => ∃ a vs, v = .ref a ∧ O a ∧ H a = some (.dK vs) ∧ RepKs K O H kvs vs
structure RepS (K : PySem.W.Frag) (O : Addr → Prop) (H : Hp) (σ : L2.St) (env : Env) : Prop where
  len : σ.length = env.length
  get : ∀ (i : Nat) sv, env[i]? = some (some sv) → ∃ v, σ[i]? = some (some v) ∧ RepV K O H sv v
  inj : ∀ (i j : Nat) (a : Addr) su sv, env[i]? = some (some su) → env[j]? = some (some sv) → su.own = true → sv.own = true → σ[i]? = some (some (.ref a)) → σ[j]? = some (some (.ref a)) → i = j
  trk : ∀ a, O a → H a ≠ none

section
variable {K : PySem.W.Frag} {O O' : Addr → Prop} {H H' : Hp} {σ : L2.St} {env : Env}
theorem RepV.same {sv : SV} {v : V} (s : Same H H') (h : RepV K O H sv v) : RepV K O H' sv v := by
  cases sv with
  | d x => exact RepD.same s h
  | ol xs =>
    obtain ⟨a, vs, e, ho, h1, h2⟩ := h
    exact ⟨a, vs, e, ho, s _ _ h1, h2.same s⟩
  | od xs =>
    obtain ⟨a, vs, e, ho, h1, h2⟩ := h
    exact ⟨a, vs, e, ho, s _ _ h1, h2.same s⟩
theorem RepS.same (s : Same H H') (h : RepS K O H σ env) : RepS K O H' σ env :=
  ⟨h.len, fun i sv e => let ⟨v, e1, r⟩ := h.get i sv e; ⟨v, e1, r.same s⟩, h.inj, fun a o z => by
    cases q : H a with
    | none => exact h.trk a o q
    | some u => rw [s a u q] at z; cases z⟩
theorem Same.new' {p : Addr} {o : HO} (h : H p = none) : Same H (upd H p o) := fun a u e => by
  rw [upd_ne (ne_of_none e h)]; exact e
theorem RepS.nfree {p : Addr} (h : RepS K O H σ env) (n : H p = none) : ¬ O p := fun z => h.trk p z n
end

/-! readings -/
/-- the end of an expression -/
def Fin (K : PySem.W.Frag) (mg : Str → Option Value) (W : WX) (O : Addr → Prop) (m : Bool) (σ : L2.St) (H : Hp) (Q : VK) : R D → Prop
  | .ok d => ∀ v H', Same H H' → RepM K O H' m d v → Q v H'
  | .exc c n => ∀ C dx H', mg c = some (.ref C) → Same H H' → H' dx = some (.xd [(("at" : Str), .int n)]) → W (.ref C) (some dx) σ H'
  | .no => False
def tD (K : PySem.W.Frag) (mg : Str → Option Value) (W : WX) (m : Bool) (f : Env → R D) : TE := fun σ H Q => ∃ env O, RepS K O H σ env ∧ Fin K mg W O m σ H Q (f env)
/-- no exception -/
def W0 : WX := fun _ _ _ _ => False
/-- e is read as f; m: the value's topmost list may be the slot's own -/
def DE (X : Cx) (W : WX) (m : Bool) (e : Expr) (f : Env → R D) : Prop := PE X e (tD X.K X.mg W m f)

theorem PE.imp {X : Cx} {e : Expr} {t t' : TE} (h : PE X e t) (i : ∀ σ H Q, t' σ H Q → t σ H Q) : PE X e t' :=
  ⟨fun pins s σ H Q I q => h.run pins s σ H Q I (i σ H Q q)⟩
theorem PT.imp {X : Cx} {e : Expr} {t t' : TT} (h : PT X e t) (i : ∀ σ H Q, t' σ H Q → t σ H Q) : PT X e t' :=
  ⟨fun pins s σ H Q I q => h.run pins s σ H Q I (i σ H Q q)⟩
theorem PA.imp {X : Cx} {e : List Expr} {t t' : TA} (h : PA X e t) (i : ∀ σ H Q, t' σ H Q → t σ H Q) : PA X e t' :=
  ⟨fun pos pins s σ H Q I q => h.run pos pins s σ H Q I (i σ H Q q)⟩
theorem PS.imp {X : Cx} {e : Stmt} {t t' : TS} (h : PS X e t) (i : ∀ D σ H, t' D σ H → t D σ H) : PS X e t' :=
  ⟨fun pins s σ H D I q => h.run pins s σ H D I (i D σ H q)⟩
theorem PSs.imp {X : Cx} {e : List Stmt} {t t' : TS} (h : PSs X e t) (i : ∀ D σ H, t' D σ H → t D σ H) : PSs X e t' :=
  ⟨fun pins s σ H D I q => h.run pins s σ H D I (i D σ H q)⟩

section
variable {X : Cx} {W : WX} {K : PySem.W.Frag} {mg : Str → Option Value} {O : Addr → Prop} {H H' : Hp} {σ : L2.St} {env : Env} {Q : VK} {m : Bool} {f g h : Env → R D}
theorem Fin.same {r : R D} (s : Same H H') (q : Fin K mg W O m σ H Q r) : Fin K mg W O m σ H' Q r := by
  cases r with
  | ok d => exact fun v H2 s2 r => q v H2 (s.trans s2) r
  | exc c n => exact fun C dx H2 e s2 a => q C dx H2 e (s.trans s2) a
  | no => exact q
theorem RepM.ofD {d : D} {v : V} (h : RepD K O H d v) : RepM K O H m d v := by
  unfold RepM
  cases m
  · exact h
  · exact h.top
theorem RepM.dT {d : D} {v : V} (h : RepM K O H true d v) : RepTop K O H d v := h
theorem RepM.dF {d : D} {v : V} (h : RepM K O H false d v) : RepD K O H d v := h
/-- a plain reading serves where the topmost may be one's own -/
theorem DE.up {e : Expr} {f : Env → R D} (h : DE X W false e f) : DE X W m e f := PE.imp h fun σ H Q ⟨env, O, r, q⟩ => by
  refine ⟨env, O, r, ?_⟩
  revert q
  cases f env with
  | ok d => exact fun q v H' s z => q v H' s (RepM.ofD (RepM.dF z))
  | exc c n => exact fun q => q
  | no => exact fun q => q
theorem DE.eq {e : Expr} {f g : Env → R D} (h : DE X W m e f) (i : ∀ env, g env = f env) : DE X W m e g := by
  have : g = f := funext i
  rw [this]; exact h
/-- one operand -/
theorem fin1 {k : D → R D} (r : RepS K O H σ env) (q : Fin K mg W O m σ H Q ((f env).bind k)) {m1 : Bool} {Q1 : VK}
    (hk : ∀ d v H1, f env = .ok d → Same H H1 → RepM K O H1 m1 d v → RepS K O H1 σ env → Fin K mg W O m σ H1 Q (k d) → Q1 v H1) : tD K mg W m1 f σ H Q1 := by
  refine ⟨env, O, r, ?_⟩
  revert q hk
  cases f env with
  | ok d => exact fun q hk v H1 s z => hk d v H1 rfl s z (r.same s) (Fin.same s q)
  | exc c n => exact fun q hk => q
  | no => exact fun q hk => q
theorem Fin.val {d : D} {v : V} (q : Fin K mg W O m σ H Q (.ok d)) (r : RepD K O H d v) : Q v H := q v H (Same.refl H) (RepM.ofD r)
theorem Fin.valN {d : D} {p : Addr} {o : HO} (q : Fin K mg W O m σ H Q (.ok d)) (n : H p = none) (r : RepD K O (upd H p o) d (.ref p)) : Q (.ref p) (upd H p o) := q _ _ (Same.new' n) (RepM.ofD r)
end

/-! names and constants -/
def eVar (i : Nat) : Env → R D := fun s => match s[i]? with
  | some (some (.d x)) => .ok x
  | _ => .no
/-- a slot's own list, read where it does not stay -/
def eOwn (i : Nat) : Env → R D := fun s => match s[i]? with
  | some (some (.d x)) => .ok x
  | some (some (.ol xs)) => .ok (.lst xs)
  | some (some (.od xs)) => .ok (.dct xs)
  | _ => .no
def eC (d : D) : Env → R D := fun _ => .ok d
section
variable {X : Cx} {W : WX} {m : Bool}
theorem de_var {i : Nat} {x : Str} {pos : Pos} (h : PE X (.Name x pos) (tVar i)) : DE X W m (.Name x pos) (eVar i) := PE.imp h fun σ H Q ⟨env, O, r, q⟩ => by
  unfold eVar at q
  split at q
  · rename_i x e
    obtain ⟨v, e1, r1⟩ := r.get i _ e
    exact ⟨v, e1, q.val r1⟩
  · exact q.elim
theorem de_own {i : Nat} {x : Str} {pos : Pos} (h : PE X (.Name x pos) (tVar i)) : DE X W true (.Name x pos) (eOwn i) := PE.imp h fun σ H Q ⟨env, O, r, q⟩ => by
  unfold eOwn at q
  split at q
  · rename_i x e
    obtain ⟨v, e1, r1⟩ := r.get i _ e
    exact ⟨v, e1, q.val r1⟩
  · rename_i x e
    obtain ⟨v, e1, a, vs, ev, _, h1, h2⟩ := r.get i _ e
    exact ⟨v, e1, q v H (Same.refl H) ⟨a, vs, ev, h1, h2⟩⟩
  · rename_i x e
    obtain ⟨v, e1, a, vs, ev, _, h1, h2⟩ := r.get i _ e
    exact ⟨v, e1, q v H (Same.refl H) ⟨a, vs, ev, .inl h1, h2⟩⟩
  · exact q.elim
theorem de_int {i : Int} {j : Nat} {pos : Pos} : DE X W m (.Constant (.int i) j pos) (eC (.int i)) := PE.imp pe_int fun σ H Q ⟨env, O, r, q⟩ => q.val (by simp [RepD])
theorem de_bl {b : Bool} {j : Nat} {pos : Pos} : DE X W m (.Constant (.bool b) j pos) (eC (.bl b)) := PE.imp pe_bl fun σ H Q ⟨env, O, r, q⟩ => q.val (by simp [RepD])
theorem de_non {j : Nat} {pos : Pos} : DE X W m (.Constant .none j pos) (eC .non) := PE.imp pe_non fun σ H Q ⟨env, O, r, q⟩ => q.val (by simp [RepD])
theorem de_str {x : Str} {j : Nat} {pos : Pos} : DE X W m (.Constant (.str x) j pos) (eC (.str x)) := PE.imp pe_str fun σ H Q ⟨env, O, r, q⟩ => q.val (by simp [RepD])
theorem de_glob {x : Str} {i : Int} {pos : Pos} (hm : ∃ u, X.mg x = some (.int i u)) (hg : Gl X x) (hd : (x == ("__debug__" : Str)) = false := by decide) : DE X W m (.Name x pos) (eC (.int i)) :=
  PE.imp (pe_glob (v := .int i) hg hm.choose_spec ⟨_, rfl⟩ hd) fun σ H Q ⟨env, O, r, q⟩ => q.val (by simp [RepD])
end

/-! operators -/
section
variable {K : PySem.W.Frag} {O : Addr → Prop} {H : Hp}
theorem repInt {i : Int} {v : V} {m : Bool} : RepM K O H m (.int i) v ↔ v = .int i := by cases m <;> simp [RepM, RepTop, RepD]
theorem repBl {i : Bool} {v : V} {m : Bool} : RepM K O H m (.bl i) v ↔ v = .bl i := by cases m <;> simp [RepM, RepTop, RepD]
theorem repStr {i : Str} {v : V} {m : Bool} : RepM K O H m (.str i) v ↔ v = .str i := by cases m <;> simp [RepM, RepTop, RepD]
theorem repNon {v : V} {m : Bool} : RepM K O H m .non v ↔ v = .non := by cases m <;> simp [RepM, RepTop, RepD]
theorem repTup {xs : List D} {v : V} {m : Bool} : RepM K O H m (.tup xs) v ↔ ∃ a vs, v = .ref a ∧ SqT K H a vs ∧ RepDs K O H xs vs := by cases m <;> simp [RepM, RepTop, RepD]
theorem repLst {xs : List D} {v : V} {m : Bool} (h : RepM K O H m (.lst xs) v) : ∃ a vs, v = .ref a ∧ H a = some (.lst vs) ∧ RepDs K O H xs vs := by
  cases m
  · have h : RepD K O H (.lst xs) v := h
    simp only [RepD] at h
    obtain ⟨a, vs, e, _, q⟩ := h
    exact ⟨a, vs, e, q⟩
  · exact h
theorem repScr {ns : List Int} {v : V} {m : Bool} : RepM K O H m (.scr ns) v ↔ ∃ a, v = .ref a ∧ ScrO K H a (ns.map V.int) := by cases m <;> simp [RepM, RepTop, RepD]
theorem repDct {xs : List (Key × D)} {v : V} {m : Bool} (h : RepM K O H m (.dct xs) v) : ∃ a vs, v = .ref a ∧ Rd H a (.dK vs) ∧ RepKs K O H xs vs := by
  cases m
  · have h : RepD K O H (.dct xs) v := h
    simp only [RepD] at h
    obtain ⟨a, vs, e, _, q⟩ := h
    exact ⟨a, vs, e, q⟩
  · exact h
/-- a new list, tuple -/
theorem RepD.newL {σ : L2.St} {env : Env} {p : Addr} {xs : List D} {vs : List V} (r : RepS K O H σ env) (n : H p = none) (h : RepDs K O H xs vs) : RepD K O (upd H p (.lst vs)) (.lst xs) (.ref p) := by
  simp only [RepD]
  exact ⟨p, vs, rfl, r.nfree n, upd_same, h.same (Same.new' n)⟩
theorem RepD.newT {p : Addr} {xs : List D} {vs : List V} (n : H p = none) (h : RepDs K O H xs vs) : RepD K O (upd H p (.tup vs)) (.tup xs) (.ref p) := by
  simp only [RepD]
  exact ⟨p, vs, rfl, .inl (.inl upd_same), h.same (Same.new' n)⟩
theorem RepD.newK {σ : L2.St} {env : Env} {p : Addr} {xs : List (Key × D)} {vs : List (Key × V)} (r : RepS K O H σ env) (n : H p = none) (h : RepKs K O H xs vs) : RepD K O (upd H p (.dK vs)) (.dct xs) (.ref p) := by
  simp only [RepD]
  exact ⟨p, vs, rfl, r.nfree n, .inl upd_same, h.same (Same.new' n)⟩
end

/-- a two-place operation on data: what it gives, and that the machine's rule gives it -/
def Op2 (K : PySem.W.Frag) (r : R2) (k : D → D → R D) : Prop := ∀ (mg : Str → Option Value) (O : Addr → Prop) (m : Bool) (σ : L2.St) (env : Env) (H : Hp) (Q : VK) (x y : D) (v w : V),
  RepS K O H σ env → RepM K O H true x v → RepM K O H true y w → Fin K mg W0 O m σ H Q (k x y) → r v w H Q
theorem Fin.w0 {K : PySem.W.Frag} {mg : Str → Option Value} {W : WX} {O : Addr → Prop} {m : Bool} {σ : L2.St} {H : Hp} {Q : VK} {r : R D} (h : ∀ c n, r ≠ .exc c n) (q : Fin K mg W O m σ H Q r) : Fin K mg W0 O m σ H Q r := by
  cases r with
  | ok d => exact q
  | exc c n => exact absurd rfl (h c n)
  | no => exact q
def e2 (k : D → D → R D) (f g : Env → R D) : Env → R D := fun s => (f s).bind fun x => (g s).bind fun y => k x y
def e1 (k : D → R D) (f : Env → R D) : Env → R D := fun s => (f s).bind k
section
variable {X : Cx} {W : WX} {m : Bool} {a b : Expr} {f g : Env → R D} {pos : Pos} {r : R2} {k : D → D → R D}
theorem t2_of (ho : Op2 X.K r k) (nx : ∀ x y c n, k x y ≠ .exc c n) : ∀ σ H Q, tD X.K X.mg W m (e2 k f g) σ H Q → tOp r (tD X.K X.mg W true f) (tD X.K X.mg W true g) σ H Q := fun σ H Q ⟨env, O, rs, q⟩ => by
  refine fin1 rs q fun x v H1 _ s1 rx rs1 q1 => ?_
  refine fin1 rs1 q1 fun y w H2 _ s2 ry rs2 q2 => ?_
  exact ho X.mg O m σ env H2 Q x y v w rs2 (rx.same s2) ry (q2.w0 (nx x y))
theorem de_op {op : Operator} (hr : OpR X (binaryOp op) r) (ho : Op2 X.K r k) (nx : ∀ x y c n, k x y ≠ .exc c n) (ha : DE X W true a f) (hb : DE X W true b g) : DE X W m (.BinOp a op b pos) (e2 k f g) :=
  PE.imp (pe_op hr ha hb) (t2_of ho nx)
theorem de_cmp {op : CmpOp} (hr : OpR X (compareOp op) r) (ho : Op2 X.K r k) (nx : ∀ x y c n, k x y ≠ .exc c n) (hm : behindInMarks op b = false) (ha : DE X W true a f) (hb : DE X W true b g) : DE X W m (.Compare a [op] [b] pos) (e2 k f g) :=
  PE.imp (pe_cmpR hr ha hb hm) (t2_of ho nx)
end
end DV

namespace DV
open PySem L2

theorem lim_le {n : Nat} (h : n ≤ 1000000) : n ≤ sizeLine := by rw [sizeLine_eq]; omega
theorem lim_lt {n : Nat} (h : n < 1000000) : n < sizeLine := by rw [sizeLine_eq]; omega
/-! ### what the operators give -/
def addD : D → D → R D
  | .int i, .int j => .ok (.int (i + j))
  | .str a, .str b => if a.length + b.length ≤ 1000000 then .ok (.str (a ++ b)) else .no
  | .lst xs, .lst ys => if xs.length + ys.length ≤ 1000000 then .ok (.lst (xs ++ ys)) else .no
  | .tup xs, .tup ys => if xs.length + ys.length ≤ 1000000 then .ok (.tup (xs ++ ys)) else .no
  | _, _ => .no
def subD : D → D → R D
  | .int i, .int j => .ok (.int (i - j))
  | _, _ => .no
/-- a factor below 2 ^ 64 in size -/
def mulD : D → D → R D
  | .int i, .int j => if (-18446744073709551616 < i ∧ i < 18446744073709551616) ∨ (-18446744073709551616 < j ∧ j < 18446744073709551616) then .ok (.int (i * j)) else .no
  | .lst xs, .int k => if -9223372036854775808 ≤ k ∧ k < 9223372036854775808 ∧ xs.length * k.toNat ≤ 1000000 then .ok (.lst (List.replicate k.toNat xs).flatten) else .no
  | _, _ => .no
def fdivD : D → D → R D
  | .int i, .int j => if 0 < j ∧ j < 18446744073709551616 then .ok (.int (i / j)) else .no
  | _, _ => .no
def modD : D → D → R D
  | .int i, .int j => if 0 < j then .ok (.int (i % j)) else .no
  | _, _ => .no
def powD : D → D → R D
  | .int i, .int j => if 0 ≤ j ∧ j ≤ 1000000 ∧ -18446744073709551616 < i ∧ i < 18446744073709551616 then .ok (.int (i ^ j.toNat)) else .no
  | _, _ => .no
def negD : D → R D
  | .int i => .ok (.int (-i))
  | _ => .no
def ltD : D → D → R D
  | .int i, .int j => .ok (.bl (decide (i < j)))
  | _, _ => .no
def leD : D → D → R D
  | .int i, .int j => .ok (.bl (decide (i ≤ j)))
  | _, _ => .no
def gtD : D → D → R D
  | .int i, .int j => .ok (.bl (decide (j < i)))
  | _, _ => .no
def geD : D → D → R D
  | .int i, .int j => .ok (.bl (decide (j ≤ i)))
  | _, _ => .no
def isNonD : D → Bool
  | .non => true
  | _ => false
def isND : D → R D := fun x => .ok (.bl (isNonD x))
def notND : D → R D := fun x => .ok (.bl (!isNonD x))

section
variable {K : PySem.W.Frag} {mg : Str → Option Value} {W : WX} {O : Addr → Prop} {H : Hp} {σ : L2.St} {env : Env} {Q : VK} {m : Bool}
theorem RepDs.nil_iff {ds : List D} {vs : List V} (h : RepDs K O H ds vs) : ds = [] ↔ vs = [] := by
  have e := h.length
  rw [← List.length_eq_zero_iff, ← List.length_eq_zero_iff, e]
def rAddA (K : PySem.W.Frag) : R2 := fun x y H Q => ((rI0 fun i j => .int (i + j)) x y H Q ∨ (∃ i j, x = .str i ∧ y = .str j ∧ i.length + j.length ≤ sizeLine ∧ Q (.str (i ++ j)) H)) ∨ (rCat x y H Q ∨ rCatA K x y H Q)
theorem op_addA {X : Cx} : OpR X (binaryOp .Add) (rAddA X.K) := (op_add.or op_add_str).or (op_cat.or op_catA)
theorem o2_add : Op2 K (rAddA K) addD := fun mg O m σ env H Q x y v w r hx hy q => by
  unfold addD at q
  split at q
  · rw [repInt] at hx hy; subst hx; subst hy
    exact .inl (.inl ⟨_, _, rfl, rfl, q.val (by simp [RepD])⟩)
  · rw [repStr] at hx hy; subst hx; subst hy
    split at q
    · rename_i h; exact .inl (.inr ⟨_, _, rfl, rfl, lim_le h, q.val (by simp [RepD])⟩)
    · exact q.elim
  · obtain ⟨a, vs, e, h1, h2⟩ := repLst hx
    obtain ⟨b, us, e', g1, g2⟩ := repLst hy
    split at q
    · rename_i h
      refine .inr (.inl ⟨a, b, vs, us, e, e', h1, g1, ?_, fun p n => ?_⟩)
      · rw [← h2.length, ← g2.length]; exact lim_le h
      · exact q.valN n (.newL r n (h2.append g2))
    · exact q.elim
  · rw [repTup] at hx hy
    obtain ⟨a, vs, e, h1, h2⟩ := hx
    obtain ⟨b, us, e', g1, g2⟩ := hy
    split at q
    · rename_i h
      refine .inr (.inr ⟨a, b, vs, us, e, e', h1, g1, ?_, fun z => ?_, fun z z' => ?_, fun z z' p n => ?_⟩)
      · rw [← h2.length, ← g2.length]; exact lim_le h
      · have := h2.nil_iff.mpr z
        subst this
        refine q.val ?_
        simp only [List.nil_append, RepD]
        exact ⟨b, us, rfl, g1, g2⟩
      · have := g2.nil_iff.mpr z'
        subst this
        refine q.val ?_
        simp only [List.append_nil, RepD]
        exact ⟨a, vs, rfl, h1, h2⟩
      · exact q.valN n (.newT n (h2.append g2))
    · exact q.elim
  · exact q.elim
theorem o2_int {k : D → D → R D} {g : Int → Int → D} {gv : Int → Int → V} (hk : ∀ x y, (∃ i j, x = .int i ∧ y = .int j ∧ k x y = .ok (g i j)) ∨ k x y = .no) (hg : ∀ K O H i j, RepD K O H (g i j) (gv i j)) : Op2 K (rI0 gv) k := fun mg O m σ env H Q x y v w r hx hy q => by
  rcases hk x y with ⟨i, j, rfl, rfl, e⟩ | e
  · rw [repInt] at hx hy; subst hx; subst hy
    rw [e] at q
    exact ⟨_, _, rfl, rfl, q.val (hg _ _ _ _ _)⟩
  · rw [e] at q; exact q.elim
theorem o2_sub : Op2 K (rI0 fun i j => .int (i - j)) subD := o2_int (g := fun i j => .int (i - j)) (fun x y => by unfold subD; split <;> simp) fun _ _ _ _ _ => by simp [RepD]
theorem o2_lt : Op2 K (rI0 fun i j => .bl (decide (i < j))) ltD := o2_int (g := fun i j => .bl (decide (i < j))) (fun x y => by unfold ltD; split <;> simp) fun _ _ _ _ _ => by simp [RepD]
theorem o2_le : Op2 K (rI0 fun i j => .bl (decide (i ≤ j))) leD := o2_int (g := fun i j => .bl (decide (i ≤ j))) (fun x y => by unfold leD; split <;> simp) fun _ _ _ _ _ => by simp [RepD]
theorem o2_gt : Op2 K (rI0 fun i j => .bl (decide (j < i))) gtD := o2_int (g := fun i j => .bl (decide (j < i))) (fun x y => by unfold gtD; split <;> simp) fun _ _ _ _ _ => by simp [RepD]
theorem o2_ge : Op2 K (rI0 fun i j => .bl (decide (j ≤ i))) geD := o2_int (g := fun i j => .bl (decide (j ≤ i))) (fun x y => by unfold geD; split <;> simp) fun _ _ _ _ _ => by simp [RepD]
def rMulA : R2 := fun x y H Q => (rI CMul fun i j => .int (i * j)) x y H Q ∨ rRep x y H Q
theorem op_mulA {X : Cx} : OpR X (binaryOp .Mult) rMulA := op_mul.or op_rep
theorem RepDs.rep {ds : List D} {vs : List V} (h : RepDs K O H ds vs) : ∀ n : Nat, RepDs K O H (List.replicate n ds).flatten (List.replicate n vs).flatten
  | 0 => by simp [RepDs]
  | n + 1 => by
    rw [List.replicate_succ, List.replicate_succ, List.flatten_cons, List.flatten_cons]
    exact h.append (RepDs.rep h n)
theorem o2_mul : Op2 K rMulA mulD := fun mg O m σ env H Q x y v w r hx hy q => by
  unfold mulD at q
  split at q
  · rw [repInt] at hx hy; subst hx; subst hy
    split at q
    · rename_i h
      refine .inl ⟨_, _, rfl, rfl, ?_, q.val (by simp [RepD])⟩
      unfold CMul
      rw [show ((2 : Int) ^ 64) = 18446744073709551616 by decide]
      exact h
    · exact q.elim
  · obtain ⟨a, vs, e, h1, h2⟩ := repLst hx
    rw [repInt] at hy; subst hy
    split at q
    · rename_i h
      refine .inr ⟨a, _, vs, e, rfl, h1, ?_, ?_, ?_, fun p n => ?_⟩
      · rw [show ((2 : Int) ^ 63) = 9223372036854775808 by decide]; exact h.1
      · rw [show ((2 : Int) ^ 63) = 9223372036854775808 by decide]; exact h.2.1
      · rw [← h2.length]; exact lim_le h.2.2
      · exact q.valN n (.newL r n (h2.rep _))
    · exact q.elim
  · exact q.elim
theorem o2_fdiv : Op2 K (rI CDivW fun i j => .int (i / j)) fdivD := fun mg O m σ env H Q x y v w r hx hy q => by
  unfold fdivD at q
  split at q
  · rw [repInt] at hx hy; subst hx; subst hy
    split at q
    · rename_i h
      exact ⟨_, _, rfl, rfl, wide_div (b := 64) h.1 (by rw [show (2 : Nat) ^ 64 = 18446744073709551616 by decide]; omega) (by decide) (by decide), q.val (by simp [RepD])⟩
    · exact q.elim
  · exact q.elim
theorem o2_mod : Op2 K (rI (fun _ j => 0 < j) fun i j => .int (i % j)) modD := fun mg O m σ env H Q x y v w r hx hy q => by
  unfold modD at q
  split at q
  · rw [repInt] at hx hy; subst hx; subst hy
    split at q
    · rename_i h
      exact ⟨_, _, rfl, rfl, h, q.val (by simp [RepD])⟩
    · exact q.elim
  · exact q.elim
theorem o2_pow : Op2 K (rI CPow fun i j => .int (i ^ j.toNat)) powD := fun mg O m σ env H Q x y v w r hx hy q => by
  unfold powD at q
  split at q
  · rw [repInt] at hx hy; subst hx; subst hy
    split at q
    · rename_i h
      refine ⟨_, _, rfl, rfl, ⟨h.1, h.2.1, ?_⟩, q.val (by simp [RepD])⟩
      rw [show (2 : Nat) ^ 64 = 18446744073709551616 by decide]; omega
    · exact q.elim
  · exact q.elim
end
theorem addD_nx : ∀ x y c n, addD x y ≠ .exc c n := fun x y c n => by unfold addD; split <;> (try split) <;> simp
theorem subD_nx : ∀ x y c n, subD x y ≠ .exc c n := fun x y c n => by unfold subD; split <;> simp
theorem mulD_nx : ∀ x y c n, mulD x y ≠ .exc c n := fun x y c n => by unfold mulD; split <;> (try split) <;> simp
theorem fdivD_nx : ∀ x y c n, fdivD x y ≠ .exc c n := fun x y c n => by unfold fdivD; split <;> (try split) <;> simp
theorem modD_nx : ∀ x y c n, modD x y ≠ .exc c n := fun x y c n => by unfold modD; split <;> (try split) <;> simp
theorem powD_nx : ∀ x y c n, powD x y ≠ .exc c n := fun x y c n => by unfold powD; split <;> (try split) <;> simp
theorem ltD_nx : ∀ x y c n, ltD x y ≠ .exc c n := fun x y c n => by unfold ltD; split <;> simp
theorem leD_nx : ∀ x y c n, leD x y ≠ .exc c n := fun x y c n => by unfold leD; split <;> simp
theorem gtD_nx : ∀ x y c n, gtD x y ≠ .exc c n := fun x y c n => by unfold gtD; split <;> simp
theorem geD_nx : ∀ x y c n, geD x y ≠ .exc c n := fun x y c n => by unfold geD; split <;> simp
section
variable {X : Cx} {W : WX} {m : Bool} {a b c : Expr} {f g h : Env → R D} {pos : Pos}
theorem de_add (ha : DE X W true a f) (hb : DE X W true b g) : DE X W m (.BinOp a .Add b pos) (e2 addD f g) := de_op op_addA o2_add addD_nx ha hb
theorem de_sub (ha : DE X W true a f) (hb : DE X W true b g) : DE X W m (.BinOp a .Sub b pos) (e2 subD f g) := de_op op_sub o2_sub subD_nx ha hb
theorem de_mul (ha : DE X W true a f) (hb : DE X W true b g) : DE X W m (.BinOp a .Mult b pos) (e2 mulD f g) := de_op op_mulA o2_mul mulD_nx ha hb
theorem de_fdiv (ha : DE X W true a f) (hb : DE X W true b g) : DE X W m (.BinOp a .FloorDiv b pos) (e2 fdivD f g) := de_op op_fdivW o2_fdiv fdivD_nx ha hb
theorem de_mod (ha : DE X W true a f) (hb : DE X W true b g) : DE X W m (.BinOp a .Mod b pos) (e2 modD f g) := de_op op_mod o2_mod modD_nx ha hb
theorem de_pow (ha : DE X W true a f) (hb : DE X W true b g) : DE X W m (.BinOp a .Pow b pos) (e2 powD f g) := de_op op_pow o2_pow powD_nx ha hb
theorem de_lt (ha : DE X W true a f) (hb : DE X W true b g) : DE X W m (.Compare a [.Lt] [b] pos) (e2 ltD f g) := de_cmp op_lt o2_lt ltD_nx (nomark _) ha hb
theorem de_le (ha : DE X W true a f) (hb : DE X W true b g) : DE X W m (.Compare a [.LtE] [b] pos) (e2 leD f g) := de_cmp op_le o2_le leD_nx (nomark _) ha hb
theorem de_gt (ha : DE X W true a f) (hb : DE X W true b g) : DE X W m (.Compare a [.Gt] [b] pos) (e2 gtD f g) := de_cmp op_gt o2_gt gtD_nx (nomark _) ha hb
theorem de_ge (ha : DE X W true a f) (hb : DE X W true b g) : DE X W m (.Compare a [.GtE] [b] pos) (e2 geD f g) := de_cmp op_ge o2_ge geD_nx (nomark _) ha hb
theorem de_neg (ha : DE X W true a f) : DE X W m (.UnaryOp .USub a pos) (e1 negD f) := PE.imp (pe_un un_neg ha) fun σ H Q ⟨env, O, rs, q⟩ => by
  refine fin1 rs q fun x v H1 _ s1 rx rs1 q1 => ?_
  unfold negD at q1
  split at q1
  · rw [repInt] at rx; subst rx
    exact ⟨_, rfl, q1.val (by simp [RepD])⟩
  · exact q1.elim
theorem RepM.non {K : PySem.W.Frag} {O : Addr → Prop} {H : Hp} {d : D} {v : V} {m : Bool} (h : RepM K O H m d v) : decide (v = .non) = isNonD d := by
  cases d with
  | non => rw [repNon] at h; subst h; rfl
  | bl _ => rw [repBl] at h; subst h; rfl
  | int _ => rw [repInt] at h; subst h; rfl
  | str _ => rw [repStr] at h; subst h; rfl
  | lst _ => obtain ⟨a, _, e, _⟩ := repLst h; subst e; rfl
  | tup _ => rw [repTup] at h; obtain ⟨a, _, e, _⟩ := h; subst e; rfl
  | dct _ => obtain ⟨a, _, e, _⟩ := repDct h; subst e; rfl
  | scr _ => rw [repScr] at h; obtain ⟨a, e, _⟩ := h; subst e; rfl
theorem de_isN {j : Nat} {p : Pos} (ha : DE X W true a f) : DE X W m (.Compare a [.Is] [.Constant .none j p] pos) (e1 isND f) := PE.imp (pe_cmp (pc_isN ha) rfl) fun σ H Q ⟨env, O, rs, q⟩ => by
  refine fin1 rs q fun x v H1 _ s1 rx rs1 q1 => ?_
  rw [rx.non]
  exact q1.val (by simp [RepD])
theorem de_notN {j : Nat} {p : Pos} (ha : DE X W true a f) : DE X W m (.Compare a [.IsNot] [.Constant .none j p] pos) (e1 notND f) := PE.imp (pe_cmp (pc_notN ha) rfl) fun σ H Q ⟨env, O, rs, q⟩ => by
  refine fin1 rs q fun x v H1 _ s1 rx rs1 q1 => ?_
  rw [rx.non]
  exact q1.val (by simp [RepD])
/-- a chain of two comparisons -/
def e3c (k k' : D → D → R D) (f g h : Env → R D) : Env → R D := fun s => (f s).bind fun x => (g s).bind fun y => (k x y).bind fun z => match z with
  | .bl true => (h s).bind fun w => k' y w
  | .bl false => .ok (.bl false)
  | _ => .no
theorem chain_of {r r' : R2} {k k' : D → D → R D} (k1 : Op2 X.K r k) (k2 : Op2 X.K r' k') (n1 : ∀ x y c n, k x y ≠ .exc c n) (n2 : ∀ x y c n, k' x y ≠ .exc c n) : ∀ σ H Q, tD X.K X.mg W m (e3c k k' f g h) σ H Q → tChain r r' (tD X.K X.mg W true f) (tD X.K X.mg W true g) (tD X.K X.mg W true h) σ H Q := fun σ H Q ⟨env, O, rs, q⟩ => by
  refine fin1 rs q fun x v H1 _ s1 rx rs1 q1 => ?_
  refine fin1 rs1 q1 fun y w H2 _ s2 ry rs2 q2 => ?_
  have go : ∀ Q', Fin X.K X.mg W0 O true σ H2 Q' (k x y) → r v w H2 Q' := fun Q' z => k1 X.mg O true σ env H2 Q' x y v w rs2 (rx.same s2) ry z
  cases e : k x y with
  | exc c n => exact absurd e (n1 x y c n)
  | no => rw [e] at q2; exact q2.elim
  | ok z =>
    rw [e] at q2
    refine go _ ?_
    rw [e]
    intro zv H3 s3 rz
    have q3 := Fin.same s3 q2
    rw [R.bind_ok] at q3
    cases z with
    | bl t =>
      rw [repBl] at rz
      refine ⟨t, rz, ?_⟩
      cases t with
      | true =>
        rw [if_pos rfl]
        refine fin1 (rs2.same s3) q3 fun w' u H4 _ s4 rw' rs4 q4 => ?_
        exact k2 X.mg O m σ env H4 Q y w' w u rs4 (ry.same (s3.trans s4)) rw' (q4.w0 (n2 y w'))
      | false =>
        rw [if_neg Bool.false_ne_true]
        exact q3.val (by simp [RepD])
    | _ => exact q3.elim
theorem de_chain {op op' : CmpOp} {r r' : R2} {k k' : D → D → R D} (ho : OpR X (compareOp op) r) (ho' : OpR X (compareOp op') r') (k1 : Op2 X.K r k) (k2 : Op2 X.K r' k') (n1 : ∀ x y c n, k x y ≠ .exc c n) (n2 : ∀ x y c n, k' x y ≠ .exc c n)
    (ha : DE X W true a f) (hb : DE X W true b g) (hc : DE X W true c h) (hm : lastMarks [op, op'] [b, c] = false := by with_unfolding_all rfl) : DE X W m (.Compare a [op, op'] [b, c] pos) (e3c k k' f g h) := PE.imp (pe_chain ho ho' ha hb hc hm) (chain_of k1 k2 n1 n2)
end

/-! ### tests -/
def FinT (mg : Str → Option Value) (W : WX) (σ : L2.St) (H : Hp) (Q : Bool → Hp → Prop) : R Bool → Prop
  | .ok b => ∀ H', Same H H' → Q b H'
  | .exc c n => ∀ C dx H', mg c = some (.ref C) → Same H H' → H' dx = some (.xd [(("at" : Str), .int n)]) → W (.ref C) (some dx) σ H'
  | .no => False
def tT (K : PySem.W.Frag) (mg : Str → Option Value) (W : WX) (f : Env → R Bool) : TT := fun σ H Q => ∃ env O, RepS K O H σ env ∧ FinT mg W σ H Q (f env)
def DT (X : Cx) (W : WX) (e : Expr) (f : Env → R Bool) : Prop := PT X e (tT X.K X.mg W f)
theorem FinT.same {mg : Str → Option Value} {W : WX} {H H' : Hp} {σ : L2.St} {Q : Bool → Hp → Prop} {r : R Bool} (s : Same H H') (q : FinT mg W σ H Q r) : FinT mg W σ H' Q r := by
  cases r with
  | ok d => exact fun H2 s2 => q H2 (s.trans s2)
  | exc c n => exact fun C dx H2 e s2 a => q C dx H2 e (s.trans s2) a
  | no => exact q
section
variable {X : Cx} {W : WX} {m : Bool} {a b c : Expr} {f g h : Env → R D} {pos : Pos} {t u : Env → R Bool} {K : PySem.W.Frag} {mg : Str → Option Value}
theorem fin1T {O : Addr → Prop} {H : Hp} {σ : L2.St} {env : Env} {Q : Bool → Hp → Prop} {k : D → R Bool} (r : RepS K O H σ env) (q : FinT mg W σ H Q ((f env).bind k)) {m1 : Bool} {Q1 : VK}
    (hk : ∀ d v H1, f env = .ok d → Same H H1 → RepM K O H1 m1 d v → RepS K O H1 σ env → FinT mg W σ H1 Q (k d) → Q1 v H1) : tD K mg W m1 f σ H Q1 := by
  refine ⟨env, O, r, ?_⟩
  revert q hk
  cases f env with
  | ok d => exact fun q hk v H1 s z => hk d v H1 rfl s z (r.same s) (FinT.same s q)
  | exc c n => exact fun q hk => q
  | no => exact fun q hk => q
theorem finTT {O : Addr → Prop} {H : Hp} {σ : L2.St} {env : Env} {Q : Bool → Hp → Prop} {k : Bool → R Bool} (r : RepS K O H σ env) (q : FinT mg W σ H Q ((t env).bind k)) {Q1 : Bool → Hp → Prop}
    (hk : ∀ d H1, t env = .ok d → Same H H1 → RepS K O H1 σ env → FinT mg W σ H1 Q (k d) → Q1 d H1) : tT K mg W t σ H Q1 := by
  refine ⟨env, O, r, ?_⟩
  revert q hk
  cases t env with
  | ok d => exact fun q hk H1 s => hk d H1 rfl s (r.same s) (FinT.same s q)
  | exc c n => exact fun q hk => q
  | no => exact fun q hk => q
theorem finT1 {O : Addr → Prop} {H : Hp} {σ : L2.St} {env : Env} {Q : VK} {k : Bool → R D} (r : RepS K O H σ env) (q : Fin K mg W O m σ H Q ((t env).bind k)) {Q1 : Bool → Hp → Prop}
    (hk : ∀ d H1, t env = .ok d → Same H H1 → RepS K O H1 σ env → Fin K mg W O m σ H1 Q (k d) → Q1 d H1) : tT K mg W t σ H Q1 := by
  refine ⟨env, O, r, ?_⟩
  revert q hk
  cases t env with
  | ok d => exact fun q hk H1 s => hk d H1 rfl s (r.same s) (Fin.same s q)
  | exc c n => exact fun q hk => q
  | no => exact fun q hk => q
def asB : D → R Bool
  | .bl b => .ok b
  | _ => .no
/-- a truth value as a test -/
def tOf (f : Env → R D) : Env → R Bool := fun s => (f s).bind asB
theorem tOf_D (σ : L2.St) (H : Hp) (Q : Bool → Hp → Prop) (z : tT K mg W (tOf f) σ H Q) : tD K mg W true f σ H fun x H' => ∃ k, x = .bl k ∧ Q k H' := by
  obtain ⟨env, O, rs, q⟩ := z
  refine ⟨env, O, rs, ?_⟩
  unfold tOf at q
  revert q
  cases f env with
  | exc c n => exact fun q => q
  | no => exact fun q => q
  | ok d =>
    intro q v H' s r
    cases d with
    | bl b => rw [repBl] at r; exact ⟨b, r, q H' s⟩
    | _ => exact q.elim
theorem dt_chain {op op' : CmpOp} {r r' : R2} {k k' : D → D → R D} (ho : OpR X (compareOp op) r) (ho' : OpR X (compareOp op') r') (k1 : Op2 X.K r k) (k2 : Op2 X.K r' k') (n1 : ∀ x y c n, k x y ≠ .exc c n) (n2 : ∀ x y c n, k' x y ≠ .exc c n)
    (ha : DE X W true a f) (hb : DE X W true b g) (hc : DE X W true c h) (hm : lastMarks [op, op'] [b, c] = false := by with_unfolding_all rfl) : DT X W (.Compare a [op, op'] [b, c] pos) (tOf (e3c k k' f g h)) :=
  PT.imp (pt_chain ho ho' ha hb hc hm) fun σ H Q z => chain_of (m := true) k1 k2 n1 n2 σ H _ (tOf_D σ H Q z)
theorem dt_isN {j : Nat} {p : Pos} (ha : DE X W true a f) : DT X W (.Compare a [.Is] [.Constant .none j p] pos) (tOf (e1 isND f)) := PT.imp (pt_cmp (pc_isN ha) rfl) fun σ H Q z => by
  obtain ⟨env, O, rs, q⟩ := tOf_D σ H Q z
  refine fin1 rs q fun x v H1 _ s1 rx rs1 q1 => ?_
  rw [rx.non]
  exact q1.val (by simp [RepD])
theorem dt_notN {j : Nat} {p : Pos} (ha : DE X W true a f) : DT X W (.Compare a [.IsNot] [.Constant .none j p] pos) (tOf (e1 notND f)) := PT.imp (pt_cmp (pc_notN ha) rfl) fun σ H Q z => by
  obtain ⟨env, O, rs, q⟩ := tOf_D σ H Q z
  refine fin1 rs q fun x v H1 _ s1 rx rs1 q1 => ?_
  rw [rx.non]
  exact q1.val (by simp [RepD])
theorem dt_of (ha : DE X W true a f) (he : ∀ whole, isTrue a X.env whole = (do let v ← whole; standAt a.pos; holding [v] (truthy v)) := by intro _; rfl) : DT X W a (tOf f) := PT.imp (pt_val ha he) fun σ H Q ⟨env, O, rs, q⟩ => by
  refine fin1T rs q fun x v H1 _ s1 rx rs1 q1 => ?_
  unfold asB at q1
  split at q1
  · rw [repBl] at rx; subst rx
    exact ⟨_, rfl, q1 _ (Same.refl _)⟩
  · exact q1.elim
theorem dt_cmp {op : CmpOp} {r : R2} {k : D → D → R D} (hr : OpR X (compareOp op) r) (ho : Op2 X.K r k) (nx : ∀ x y c n, k x y ≠ .exc c n) (hm : behindInMarks op b = false) (ha : DE X W true a f) (hb : DE X W true b g) : DT X W (.Compare a [op] [b] pos) (tOf (e2 k f g)) :=
  PT.imp (pt_cmpR hr ha hb hm) fun σ H Q ⟨env, O, rs, q⟩ => by
    unfold tOf e2 at q
    cases e1 : f env with
    | exc c n => rw [e1] at q; exact ⟨env, O, rs, by rw [e1]; exact q⟩
    | no => rw [e1] at q; exact q.elim
    | ok x =>
      refine ⟨env, O, rs, ?_⟩
      rw [e1] at q ⊢
      intro v H1 s1 rx
      have rs1 := rs.same s1
      have q1 := FinT.same s1 q
      rw [R.bind_ok] at q1
      refine ⟨env, O, rs1, ?_⟩
      cases e2 : g env with
      | exc c n => rw [e2] at q1; exact q1
      | no => rw [e2] at q1; exact q1.elim
      | ok y =>
        rw [e2] at q1
        intro w H2 s2 ry
        have q2 := FinT.same s2 q1
        rw [R.bind_ok] at q2
        refine ho X.mg O true σ env H2 _ x y v w (rs1.same s2) (rx.same s2) ry ?_
        cases e : k x y with
        | exc c n => exact absurd e (nx x y c n)
        | no => rw [e] at q2; exact q2.elim
        | ok z =>
          rw [e] at q2
          intro zv H3 s3 rz
          cases z with
          | bl t =>
            rw [repBl] at rz
            exact ⟨t, rz, q2 H3 s3⟩
          | _ => exact q2.elim
def tNot' (t : Env → R Bool) : Env → R Bool := fun s => (t s).bind fun b => .ok (!b)
theorem dt_not (ha : DT X W a t) : DT X W (.UnaryOp .Not a pos) (tNot' t) := PT.imp (pt_not ha) fun σ H Q ⟨env, O, rs, q⟩ => by
  refine finTT rs q fun x H1 _ s1 rs1 q1 => ?_
  exact q1 _ (Same.refl _)
def tAnd' (t u : Env → R Bool) : Env → R Bool := fun s => (t s).bind fun b => if b = true then u s else .ok false
def tOr' (t u : Env → R Bool) : Env → R Bool := fun s => (t s).bind fun b => if b = true then .ok true else u s
def DW (X : Cx) (W : WX) (e : Expr) (f : Env → R Bool) : Prop := PW X e (tT X.K X.mg W f)
theorem PW.imp {X : Cx} {e : Expr} {t t' : TT} (h : PW X e t) (i : ∀ σ H Q, t' σ H Q → t σ H Q) : PW X e t' :=
  ⟨fun wh pins s σ H Q I q => h.run wh pins s σ H Q I (i σ H Q q)⟩
theorem DW.dt (h : DW X W a t) : DT X W a t := PW.pt h
theorem dw_and1 (ha : DT X W a t) : DW X W (.BoolOp .And [a] pos) t := pw_and1 ha
theorem dw_or1 (ha : DT X W a t) : DW X W (.BoolOp .Or [a] pos) t := pw_or1 ha
theorem dw_and {rest : List Expr} (ha : DT X W a t) (hb : DW X W (.BoolOp .And (b :: rest) pos) u) : DW X W (.BoolOp .And (a :: b :: rest) pos) (tAnd' t u) := PW.imp (pw_and ha hb) fun σ H Q ⟨env, O, rs, q⟩ => by
  refine finTT rs q fun x H1 _ s1 rs1 q1 => ?_
  cases x with
  | true => rw [if_pos rfl] at q1 ⊢; exact ⟨env, O, rs1, q1⟩
  | false => rw [if_neg Bool.false_ne_true] at q1 ⊢; exact q1 _ (Same.refl _)
theorem dw_or {rest : List Expr} (ha : DT X W a t) (hb : DW X W (.BoolOp .Or (b :: rest) pos) u) : DW X W (.BoolOp .Or (a :: b :: rest) pos) (tOr' t u) := PW.imp (pw_or ha hb) fun σ H Q ⟨env, O, rs, q⟩ => by
  refine finTT rs q fun x H1 _ s1 rs1 q1 => ?_
  cases x with
  | true => rw [if_pos rfl] at q1 ⊢; exact q1 _ (Same.refl _)
  | false => rw [if_neg Bool.false_ne_true] at q1 ⊢; exact ⟨env, O, rs1, q1⟩
/-- .. as values, by truth values -/
def eAndV (f g : Env → R D) : Env → R D := fun s => (f s).bind fun x => match x with
  | .bl true => g s
  | .bl false => .ok (.bl false)
  | _ => .no
def eOrV (f g : Env → R D) : Env → R D := fun s => (f s).bind fun x => match x with
  | .bl true => .ok (.bl true)
  | .bl false => g s
  | _ => .no
def notD : D → R D
  | .bl b => .ok (.bl (!b))
  | _ => .no
theorem de_one {op : BoolOp} (ha : DE X W m a f) : DE X W m (.BoolOp op [a] pos) f := pe_one ha
theorem de_and {rest : List Expr} (ha : DE X W true a f) (hb : DE X W m (.BoolOp .And (b :: rest) pos) g) : DE X W m (.BoolOp .And (a :: b :: rest) pos) (eAndV f g) := PE.imp (pe_and ha hb) fun σ H Q ⟨env, O, rs, q⟩ => by
  refine fin1 rs q fun x v H1 _ s1 rx rs1 q1 => ?_
  split at q1
  · rw [repBl] at rx; exact ⟨true, rx, by rw [if_pos rfl]; exact ⟨env, O, rs1, q1⟩⟩
  · rw [repBl] at rx; exact ⟨false, rx, by rw [if_neg Bool.false_ne_true]; exact q1.val (by simp [RepD])⟩
  · exact q1.elim
theorem de_or {rest : List Expr} (ha : DE X W true a f) (hb : DE X W m (.BoolOp .Or (b :: rest) pos) g) : DE X W m (.BoolOp .Or (a :: b :: rest) pos) (eOrV f g) := PE.imp (pe_or ha hb) fun σ H Q ⟨env, O, rs, q⟩ => by
  refine fin1 rs q fun x v H1 _ s1 rx rs1 q1 => ?_
  split at q1
  · rw [repBl] at rx; exact ⟨true, rx, by rw [if_pos rfl]; exact q1.val (by simp [RepD])⟩
  · rw [repBl] at rx; exact ⟨false, rx, by rw [if_neg Bool.false_ne_true]; exact ⟨env, O, rs1, q1⟩⟩
  · exact q1.elim
theorem de_not (ha : DE X W true a f) : DE X W m (.UnaryOp .Not a pos) (e1 notD f) := PE.imp (pe_not ha) fun σ H Q ⟨env, O, rs, q⟩ => by
  refine fin1 rs q fun x v H1 _ s1 rx rs1 q1 => ?_
  unfold notD at q1
  split at q1
  · rw [repBl] at rx; exact ⟨_, rx, q1.val (by simp [RepD])⟩
  · exact q1.elim
def eIf (t : Env → R Bool) (f g : Env → R D) : Env → R D := fun s => (t s).bind fun b => if b = true then f s else g s
theorem de_if (hc : DT X W c t) (ha : DE X W m a f) (hb : DE X W m b g) : DE X W m (.IfExp c a b pos) (eIf t f g) := PE.imp (pe_ifExp hc ha hb) fun σ H Q ⟨env, O, rs, q⟩ => by
  refine finT1 rs q fun x H1 _ s1 rs1 q1 => ?_
  cases x with
  | true => rw [if_pos rfl] at q1 ⊢; exact ⟨env, O, rs1, q1⟩
  | false => rw [if_neg Bool.false_ne_true] at q1 ⊢; exact ⟨env, O, rs1, q1⟩
end
end DV

namespace DV
open PySem L2

/-! ### lists of arguments -/
def RepMs (K : PySem.W.Frag) (O : Addr → Prop) (H : Hp) (m : Bool) : List D → List V → Prop
  | [], vs => vs = []
  | d :: ds, vs => ∃ v r, vs = v :: r ∧ RepM K O H m d v ∧ RepMs K O H m ds r
def FinA (K : PySem.W.Frag) (mg : Str → Option Value) (W : WX) (O : Addr → Prop) (m : Bool) (σ : L2.St) (H : Hp) (Q : List V → Hp → Prop) : R (List D) → Prop
  | .ok ds => ∀ vs H', Same H H' → RepMs K O H' m ds vs → Q vs H'
  | .exc c n => ∀ C dx H', mg c = some (.ref C) → Same H H' → H' dx = some (.xd [(("at" : Str), .int n)]) → W (.ref C) (some dx) σ H'
  | .no => False
def tAr (K : PySem.W.Frag) (mg : Str → Option Value) (W : WX) (m : Bool) (f : Env → R (List D)) : TA := fun σ H Q => ∃ env O, RepS K O H σ env ∧ FinA K mg W O m σ H Q (f env)
def DA (X : Cx) (W : WX) (m : Bool) (es : List Expr) (f : Env → R (List D)) : Prop := PA X es (tAr X.K X.mg W m f)
def aNil : Env → R (List D) := fun _ => .ok []
def aCons (f : Env → R D) (g : Env → R (List D)) : Env → R (List D) := fun s => (f s).bind fun x => (g s).bind fun xs => .ok (x :: xs)
section
variable {K : PySem.W.Frag} {mg : Str → Option Value} {W : WX} {O : Addr → Prop} {H H' : Hp} {σ : L2.St} {env : Env} {m : Bool}
theorem FinA.same {Q : List V → Hp → Prop} {r : R (List D)} (s : Same H H') (q : FinA K mg W O m σ H Q r) : FinA K mg W O m σ H' Q r := by
  cases r with
  | ok d => exact fun v H2 s2 r => q v H2 (s.trans s2) r
  | exc c n => exact fun C dx H2 e s2 a => q C dx H2 e (s.trans s2) a
  | no => exact q
theorem RepMs.same (s : Same H H') : ∀ {ds : List D} {vs : List V}, RepMs K O H m ds vs → RepMs K O H' m ds vs
  | [], _, h => h
  | d :: ds, vs, ⟨v, r, e, h1, h2⟩ => ⟨v, r, e, h1.same s, RepMs.same s h2⟩
theorem RepMs.ds : ∀ {ds : List D} {vs : List V}, RepMs K O H false ds vs → RepDs K O H ds vs
  | [], _, h => by simp only [RepDs]; exact h
  | d :: ds, vs, ⟨v, r, e, h1, h2⟩ => by simp only [RepDs]; exact ⟨v, r, e, h1, RepMs.ds h2⟩
theorem RepMs.of : ∀ {ds : List D} {vs : List V}, RepDs K O H ds vs → RepMs K O H m ds vs
  | [], _, h => by simp only [RepDs] at h; exact h
  | d :: ds, vs, h => by
    simp only [RepDs] at h
    obtain ⟨v, r, e, h1, h2⟩ := h
    exact ⟨v, r, e, .ofD h1, RepMs.of h2⟩
end
section
variable {X : Cx} {W : WX} {m : Bool} {e : Expr} {es : List Expr} {f : Env → R D} {g : Env → R (List D)} {pos : Pos} {K : PySem.W.Frag} {mg : Str → Option Value} {O : Addr → Prop} {H : Hp} {σ : L2.St} {env : Env}
theorem da_nil : DA X W m [] aNil := PA.imp pa_nil fun σ H Q ⟨env, O, rs, q⟩ => q [] H (Same.refl _) rfl
theorem da_cons (he : DE X W m e f) (hr : DA X W m es g) (hs : starEach (e :: es) X.env = (false, eval e X.env) :: starEach es X.env := by rfl) : DA X W m (e :: es) (aCons f g) := PA.imp (pa_cons he hr hs) fun σ H Q ⟨env, O, rs, q⟩ => by
  unfold aCons at q
  refine ⟨env, O, rs, ?_⟩
  revert q
  cases f env with
  | exc c n => exact fun q => q
  | no => exact fun q => q
  | ok d =>
    intro q v H1 s1 r1
    have rs1 := rs.same s1
    have q1 := FinA.same s1 q
    rw [R.bind_ok] at q1
    refine ⟨env, O, rs1, ?_⟩
    revert q1
    cases g env with
    | exc c n => exact fun q => q
    | no => exact fun q => q
    | ok ds => exact fun q1 vs H2 s2 r2 => q1 _ H2 s2 ⟨v, vs, rfl, r1.same s2, r2⟩
/-- from arguments on -/
theorem finA {Q : VK} {k : List D → R D} {m1 : Bool} (r : RepS K O H σ env) (q : Fin K mg W O m σ H Q ((g env).bind k)) {Q1 : List V → Hp → Prop}
    (hk : ∀ ds vs H1, g env = .ok ds → Same H H1 → RepMs K O H1 m1 ds vs → RepS K O H1 σ env → Fin K mg W O m σ H1 Q (k ds) → Q1 vs H1) : tAr K mg W m1 g σ H Q1 := by
  refine ⟨env, O, r, ?_⟩
  revert q hk
  cases g env with
  | ok d => exact fun q hk v H1 s z => hk d v H1 rfl s z (r.same s) (Fin.same s q)
  | exc c n => exact fun q hk => q
  | no => exact fun q hk => q

/-! ### what makes a new list -/
def FinN (K : PySem.W.Frag) (mg : Str → Option Value) (W : WX) (O : Addr → Prop) (σ : L2.St) (H : Hp) (Q : VK) : R (List D) → Prop
  | .ok xs => ∀ p vs H', Same H H' → H p = none → H' p = some (.lst vs) → RepDs K (fun a => O a ∨ a = p) H' xs vs → Q (.ref p) H'
  | .exc c n => ∀ C dx H', mg c = some (.ref C) → Same H H' → H' dx = some (.xd [(("at" : Str), .int n)]) → W (.ref C) (some dx) σ H'
  | .no => False
def tN (K : PySem.W.Frag) (mg : Str → Option Value) (W : WX) (f : Env → R (List D)) : TE := fun σ H Q => ∃ env O, RepS K O H σ env ∧ FinN K mg W O σ H Q (f env)
def DN (X : Cx) (W : WX) (e : Expr) (f : Env → R (List D)) : Prop := PE X e (tN X.K X.mg W f)
def eL (f : Env → R (List D)) : Env → R D := fun s => (f s).bind fun xs => .ok (.lst xs)
theorem Same.back {H H' : Hp} (s : Same H H') {p : Addr} (n : H' p = none) : H p = none := by
  cases e : H p with
  | none => rfl
  | some o => rw [s p o e] at n; cases n
theorem FinN.same {Q : VK} {H' : Hp} {r : R (List D)} (s : Same H H') (q : FinN K mg W O σ H Q r) : FinN K mg W O σ H' Q r := by
  cases r with
  | ok d => exact fun p v H2 s2 n => q p v H2 (s.trans s2) (Same.back s n)
  | exc c n => exact fun C dx H2 e s2 a => q C dx H2 e (s.trans s2) a
  | no => exact q
theorem RepDs.of_new {p : Addr} {xs : List D} {vs : List V} (h : RepDs K (fun a => O a ∨ a = p) H xs vs) : RepDs K O H xs vs := RepDs.keep Keep.refl (fun _ z => .inl z) _ _ h
theorem tN_of {f : Env → R (List D)} (σ : L2.St) (H : Hp) (Q : VK) (h : tD K mg W m (eL f) σ H Q) : tN K mg W f σ H Q := by
  obtain ⟨env, O, rs, q⟩ := h
  refine ⟨env, O, rs, ?_⟩
  unfold eL at q
  revert q
  cases f env with
  | exc c n => exact fun q => q
  | no => exact fun q => q
  | ok xs =>
    intro q p vs H' s n hp r
    refine q _ H' s (.ofD ?_)
    simp only [RepD]
    exact ⟨p, vs, rfl, rs.nfree n, hp, r.of_new⟩
theorem DN.de {f : Env → R (List D)} (h : DN X W e f) : DE X W m e (eL f) := PE.imp h tN_of
theorem FinN.put {Q : VK} {xs : List D} {vs : List V} (q : FinN K mg W O σ H Q (.ok xs)) (r : RepDs K O H xs vs) {p : Addr} (n : H p = none) : Q (.ref p) (upd H p (.lst vs)) :=
  q p vs _ (Same.new' n) n upd_same ((r.avoid n).same (Same.new' n))
def nLst (g : Env → R (List D)) : Env → R (List D) := fun s => (g s).bind fun xs => if xs.length ≤ 1000000 then .ok xs else .no
theorem dn_lst (h : DA X W false es g) : DN X W (.List es pos) (nLst g) := PE.imp (pe_lst h) fun σ H Q ⟨env, O, rs, q⟩ => by
  unfold nLst at q
  refine ⟨env, O, rs, ?_⟩
  revert q
  cases g env with
  | exc c n => exact fun q => q
  | no => exact fun q => q
  | ok ds =>
    intro q vs H1 s1 r1
    have q1 := FinN.same s1 q
    rw [R.bind_ok] at q1
    have r2 := RepMs.ds r1
    split at q1
    · rename_i hz
      exact ⟨by rw [← r2.length]; exact lim_le hz, fun p n => q1.put r2 n⟩
    · exact q1.elim
def eTup (g : Env → R (List D)) : Env → R D := fun s => (g s).bind fun xs => if xs.length ≤ 1000000 then .ok (.tup xs) else .no
theorem de_tup {x1 : Nat} (h : DA X W false es g) : DE X W m (.Tuple es x1 pos) (eTup g) := PE.imp (pe_tup h) fun σ H Q ⟨env, O, rs, q⟩ => by
  refine finA (m1 := false) rs q fun ds vs H1 _ s1 r1 rs1 q1 => ?_
  have r2 := RepMs.ds r1
  split at q1
  · rename_i hz
    exact ⟨by rw [← r2.length]; exact lim_le hz, fun p n => q1.valN n (.newT n r2)⟩
  · exact q1.elim
end

/-! ### built-ins -/
/-- a built-in on data -/
def OpN (K : PySem.W.Frag) (r : List V → Hp → VK → Prop) (k : List D → R D) : Prop := ∀ (mg : Str → Option Value) (O : Addr → Prop) (m : Bool) (σ : L2.St) (env : Env) (H : Hp) (Q : VK) (ds : List D) (vs : List V),
  RepS K O H σ env → RepMs K O H true ds vs → Fin K mg W0 O m σ H Q (k ds) → r vs H Q
def NX {α : Type} (k : α → R D) : Prop := ∀ x c n, k x ≠ .exc c n
def eB (k : List D → R D) (g : Env → R (List D)) : Env → R D := fun s => (g s).bind k
section
variable {X : Cx} {W : WX} {m : Bool} {e : Expr} {es : List Expr} {g : Env → R (List D)} {pos p : Pos} {x : Str} {id T : String} {r : List V → Hp → VK → Prop} {k : List D → R D}
theorem de_callB (hc : CallR X (.builtin id) r) (hk : OpN X.K r k) (nx : NX k) (hg : Gl X x) (hm : X.mg x = none) (hv : bootBuiltins x = some (.builtin id)) (ha : DA X W true (e :: es) g) (hn : x ≠ "__name__" := by decide) (hdb : (x == ("__debug__" : Str)) = false := by decide)
    (he : starEach (e :: es) X.env = (false, eval e X.env) :: starEach es X.env := by rfl) (hpl : (backTo pos (starEach es X.env)).any (·.1) = false := by rfl) : DE X W m (.Call (.Name x p) (e :: es) [] pos) (eB k g) :=
  PE.imp (pe_callB hc hg hm hv ha hn hdb he hpl) fun σ H Q ⟨env, O, rs, q⟩ => finA rs q fun ds vs H1 _ s1 r1 rs1 q1 => hk X.mg O m σ env H1 Q ds vs rs1 r1 (q1.w0 (nx ds))
theorem de_callTy (hc : CallR X (.type T) r) (hk : OpN X.K r k) (nx : NX k) (hg : Gl X x) (hm : X.mg x = none) (hv : bootBuiltins x = some (.type T)) (ha : DA X W true (e :: es) g) (hn : x ≠ "__name__" := by decide) (hdb : (x == ("__debug__" : Str)) = false := by decide)
    (he : starEach (e :: es) X.env = (false, eval e X.env) :: starEach es X.env := by rfl) (hpl : (backTo pos (starEach es X.env)).any (·.1) = false := by rfl) : DE X W m (.Call (.Name x p) (e :: es) [] pos) (eB k g) :=
  PE.imp (pe_callTy hc hg hm hv ha hn hdb he hpl) fun σ H Q ⟨env, O, rs, q⟩ => finA rs q fun ds vs H1 _ s1 r1 rs1 q1 => hk X.mg O m σ env H1 Q ds vs rs1 r1 (q1.w0 (nx ds))
end
def ints? : List D → Option (List Int)
  | [] => some []
  | .int i :: r => (ints? r).map (i :: ·)
  | _ :: _ => none
def bls? : List D → Option (List Bool)
  | [] => some []
  | .bl i :: r => (bls? r).map (i :: ·)
  | _ :: _ => none
theorem ints?_eq : ∀ {ds : List D} {ns : List Int}, ints? ds = some ns → ds = ns.map D.int
  | [], ns, h => by simp only [ints?, Option.some.injEq] at h; subst h; rfl
  | .int i :: r, ns, h => by
    simp only [ints?, Option.map_eq_some_iff] at h
    obtain ⟨l, e, rfl⟩ := h
    rw [ints?_eq e]; rfl
  | .non :: _, _, h | .bl _ :: _, _, h | .str _ :: _, _, h | .lst _ :: _, _, h | .tup _ :: _, _, h | .dct _ :: _, _, h | .scr _ :: _, _, h => by simp [ints?] at h
theorem bls?_eq : ∀ {ds : List D} {ns : List Bool}, bls? ds = some ns → ds = ns.map D.bl
  | [], ns, h => by simp only [bls?, Option.some.injEq] at h; subst h; rfl
  | .bl i :: r, ns, h => by
    simp only [bls?, Option.map_eq_some_iff] at h
    obtain ⟨l, e, rfl⟩ := h
    rw [bls?_eq e]; rfl
  | .non :: _, _, h | .int _ :: _, _, h | .str _ :: _, _, h | .lst _ :: _, _, h | .tup _ :: _, _, h | .dct _ :: _, _, h | .scr _ :: _, _, h => by simp [bls?] at h
@[simp] theorem ints?_map (ns : List Int) : ints? (ns.map D.int) = some ns := by
  induction ns with
  | nil => rfl
  | cons a r ih => simp [ints?, ih]
@[simp] theorem bls?_map (ns : List Bool) : bls? (ns.map D.bl) = some ns := by
  induction ns with
  | nil => rfl
  | cons a r ih => simp [bls?, ih]
section
variable {K : PySem.W.Frag} {O : Addr → Prop} {H : Hp}
theorem repInts : ∀ {ns : List Int} {vs : List V}, RepDs K O H (ns.map D.int) vs → vs = ns.map V.int
  | [], vs, h => by simpa [RepDs] using h
  | n :: ns, vs, h => by
    simp only [List.map_cons, RepDs, RepD] at h
    obtain ⟨v, r, e, h1, h2⟩ := h
    subst e h1
    rw [repInts h2]; rfl
theorem repBls : ∀ {ns : List Bool} {vs : List V}, RepDs K O H (ns.map D.bl) vs → vs = ns.map V.bl
  | [], vs, h => by simpa [RepDs] using h
  | n :: ns, vs, h => by
    simp only [List.map_cons, RepDs, RepD] at h
    obtain ⟨v, r, e, h1, h2⟩ := h
    subst e h1
    rw [repBls h2]; rfl
theorem RepDs.ofInts : ∀ (ns : List Int), RepDs K O H (ns.map D.int) (ns.map V.int)
  | [] => by simp [RepDs]
  | n :: ns => by
    simp only [List.map_cons, RepDs, RepD]
    exact ⟨_, _, rfl, rfl, RepDs.ofInts ns⟩
theorem repMs1 {d : D} {vs : List V} {m : Bool} (h : RepMs K O H m [d] vs) : ∃ v, vs = [v] ∧ RepM K O H m d v := by
  obtain ⟨v, r, e, h1, h2⟩ := h
  have h2 : r = [] := h2
  subst h2
  exact ⟨v, e, h1⟩
theorem repMs2 {d d2 : D} {vs : List V} {m : Bool} (h : RepMs K O H m [d, d2] vs) : ∃ v v2, vs = [v, v2] ∧ RepM K O H m d v ∧ RepM K O H m d2 v2 := by
  obtain ⟨v, r, e, h1, v2, r2, e2, h2, h3⟩ := h
  have h3 : r2 = [] := h3
  subst h3 e2
  exact ⟨v, v2, e, h1, h2⟩
end
/-- len -/
def lenD : List D → R D
  | [.lst xs] => .ok (.int xs.length)
  | [.tup xs] => .ok (.int xs.length)
  | [.scr ns] => .ok (.int ns.length)
  | [.str x] => if x.length ≤ 1000000 then .ok (.int x.length) else .no
  | _ => .no
def sumD : List D → R D
  | [.lst xs] => match ints? xs with
    | some ns => .ok (.int ns.sum)
    | none => .no
  | _ => .no
def allD : List D → R D
  | [.lst xs] => match bls? xs with
    | some ns => .ok (.bl (ns.all id))
    | none => .no
  | _ => .no
def anyD : List D → R D
  | [.lst xs] => match bls? xs with
    | some ns => .ok (.bl (ns.any id))
    | none => .no
  | _ => .no
def absD : List D → R D
  | [.int i] => .ok (.int (if i < 0 then -i else i))
  | _ => .no
def max2D : List D → R D
  | [.int i, .int j] => .ok (.int (if j > i then j else i))
  | _ => .no
def min2D : List D → R D
  | [.int i, .int j] => .ok (.int (if j < i then j else i))
  | _ => .no
def intD : List D → R D
  | [.int i] => .ok (.int i)
  | [.bl k] => .ok (.int (if k then 1 else 0))
  | _ => .no
theorem lenD_nx : NX lenD := fun x c n => by unfold lenD; split <;> (try split) <;> simp
theorem sumD_nx : NX sumD := fun x c n => by unfold sumD; split <;> (try split) <;> simp
theorem allD_nx : NX allD := fun x c n => by unfold allD; split <;> (try split) <;> simp
theorem anyD_nx : NX anyD := fun x c n => by unfold anyD; split <;> (try split) <;> simp
theorem absD_nx : NX absD := fun x c n => by unfold absD; split <;> simp
theorem max2D_nx : NX max2D := fun x c n => by unfold max2D; split <;> simp
theorem min2D_nx : NX min2D := fun x c n => by unfold min2D; split <;> simp
theorem intD_nx : NX intD := fun x c n => by unfold intD; split <;> simp
section
variable {K : PySem.W.Frag}
theorem on_len : OpN K (fun xs H Q => ∃ x n, xs = [x] ∧ LenV K x H n ∧ Q (.int n) H) lenD := fun mg O m σ env H Q ds vs r hx q => by
  unfold lenD at q
  split at q
  · obtain ⟨v, e, h⟩ := repMs1 hx
    obtain ⟨a, us, e2, h1, h2⟩ := repLst h
    subst e2
    exact ⟨_, _, e, .inl ⟨us, .of h1, rfl⟩, by rw [← h2.length]; exact q.val (by simp [RepD])⟩
  · obtain ⟨v, e, h⟩ := repMs1 hx
    rw [repTup] at h
    obtain ⟨a, us, e2, h1, h2⟩ := h
    subst e2
    exact ⟨_, _, e, .inr ⟨us, h1, rfl⟩, by rw [← h2.length]; exact q.val (by simp [RepD])⟩
  · rename_i ns
    obtain ⟨v, e, h⟩ := repMs1 hx
    rw [repScr] at h
    obtain ⟨a, e2, h1⟩ := h
    subst e2
    exact ⟨_, ns.length, e, .inl ⟨_, h1.sq, by simp⟩, q.val (by simp [RepD])⟩
  · obtain ⟨v, e, h⟩ := repMs1 hx
    rw [repStr] at h
    subst h
    split at q
    · rename_i hz
      exact ⟨_, _, e, ⟨lim_le hz, rfl⟩, q.val (by simp [RepD])⟩
    · exact q.elim
  · exact q.elim
theorem on_sum : OpN K (rSum K) sumD := fun mg O m σ env H Q ds vs r hx q => by
  unfold sumD at q
  split at q
  · obtain ⟨v, e, h⟩ := repMs1 hx
    split at q
    · rename_i ns en
      rw [ints?_eq en] at h
      obtain ⟨a, us, e2, h1, h2⟩ := repLst h
      have := repInts h2
      subst this e2
      exact ⟨a, ns, e, .of h1, q.val (by simp [RepD])⟩
    · exact q.elim
  · exact q.elim
theorem on_all : OpN K (rAll K) allD := fun mg O m σ env H Q ds vs r hx q => by
  unfold allD at q
  split at q
  · obtain ⟨v, e, h⟩ := repMs1 hx
    split at q
    · rename_i ns en
      rw [bls?_eq en] at h
      obtain ⟨a, us, e2, h1, h2⟩ := repLst h
      have := repBls h2
      subst this e2
      exact ⟨a, ns, e, .of h1, q.val (by simp [RepD])⟩
    · exact q.elim
  · exact q.elim
theorem on_any : OpN K (rAny K) anyD := fun mg O m σ env H Q ds vs r hx q => by
  unfold anyD at q
  split at q
  · obtain ⟨v, e, h⟩ := repMs1 hx
    split at q
    · rename_i ns en
      rw [bls?_eq en] at h
      obtain ⟨a, us, e2, h1, h2⟩ := repLst h
      have := repBls h2
      subst this e2
      exact ⟨a, ns, e, .of h1, q.val (by simp [RepD])⟩
    · exact q.elim
  · exact q.elim
theorem on_abs : OpN K (fun xs H Q => ∃ i, xs = [.int i] ∧ Q (.int (if i < 0 then -i else i)) H) absD := fun mg O m σ env H Q ds vs r hx q => by
  unfold absD at q
  split at q
  · obtain ⟨v, e, h⟩ := repMs1 hx
    rw [repInt] at h; subst h
    exact ⟨_, e, q.val (by simp [RepD])⟩
  · exact q.elim
theorem on_max2 : OpN K (fun xs H Q => ∃ i j, xs = [.int i, .int j] ∧ Q (.int (if j > i then j else i)) H) max2D := fun mg O m σ env H Q ds vs r hx q => by
  unfold max2D at q
  split at q
  · obtain ⟨v, w, e, h, h'⟩ := repMs2 hx
    rw [repInt] at h h'; subst h; subst h'
    exact ⟨_, _, e, q.val (by simp [RepD])⟩
  · exact q.elim
theorem on_min2 : OpN K (fun xs H Q => ∃ i j, xs = [.int i, .int j] ∧ Q (.int (if j < i then j else i)) H) min2D := fun mg O m σ env H Q ds vs r hx q => by
  unfold min2D at q
  split at q
  · obtain ⟨v, w, e, h, h'⟩ := repMs2 hx
    rw [repInt] at h h'; subst h; subst h'
    exact ⟨_, _, e, q.val (by simp [RepD])⟩
  · exact q.elim
theorem on_int : OpN K (fun xs H Q => (∃ i, xs = [.int i] ∧ Q (.int i) H) ∨ ∃ k, xs = [.bl k] ∧ Q (.int (if k then 1 else 0)) H) intD := fun mg O m σ env H Q ds vs r hx q => by
  unfold intD at q
  split at q
  · obtain ⟨v, e, h⟩ := repMs1 hx
    rw [repInt] at h; subst h
    exact .inl ⟨_, e, q.val (by simp [RepD])⟩
  · obtain ⟨v, e, h⟩ := repMs1 hx
    rw [repBl] at h; subst h
    exact .inr ⟨_, e, q.val (by simp [RepD])⟩
  · exact q.elim
end
section
variable {X : Cx} {W : WX} {m : Bool} {e e' : Expr} {g : Env → R (List D)} {pos p : Pos}
theorem de_len (hm : X.mg "len" = none) (ha : DA X W true [e] g) (hg : Gl X "len" := by rfl) (he : starEach [e] X.env = (false, eval e X.env) :: starEach [] X.env := by rfl) : DE X W m (.Call (.Name "len" p) [e] [] pos) (eB lenD g) :=
  de_callB call_len on_len lenD_nx hg hm (by decide +kernel) ha (by decide) (by decide) he rfl
theorem de_sum (hm : X.mg "sum" = none) (hc : X.calm = true) (ha : DA X W true [e] g) (hg : Gl X "sum" := by rfl) (he : starEach [e] X.env = (false, eval e X.env) :: starEach [] X.env := by rfl) : DE X W m (.Call (.Name "sum" p) [e] [] pos) (eB sumD g) :=
  de_callB (cr_sum hc) on_sum sumD_nx hg hm (by decide +kernel) ha (by decide) (by decide) he rfl
theorem de_all (hm : X.mg "all" = none) (hc : X.calm = true) (ha : DA X W true [e] g) (hg : Gl X "all" := by rfl) (he : starEach [e] X.env = (false, eval e X.env) :: starEach [] X.env := by rfl) : DE X W m (.Call (.Name "all" p) [e] [] pos) (eB allD g) :=
  de_callB (cr_all hc) on_all allD_nx hg hm (by decide +kernel) ha (by decide) (by decide) he rfl
theorem de_any (hm : X.mg "any" = none) (hc : X.calm = true) (ha : DA X W true [e] g) (hg : Gl X "any" := by rfl) (he : starEach [e] X.env = (false, eval e X.env) :: starEach [] X.env := by rfl) : DE X W m (.Call (.Name "any" p) [e] [] pos) (eB anyD g) :=
  de_callB (cr_any hc) on_any anyD_nx hg hm (by decide +kernel) ha (by decide) (by decide) he rfl
theorem de_abs (hm : X.mg "abs" = none) (ha : DA X W true [e] g) (hg : Gl X "abs" := by rfl) (he : starEach [e] X.env = (false, eval e X.env) :: starEach [] X.env := by rfl) : DE X W m (.Call (.Name "abs" p) [e] [] pos) (eB absD g) :=
  de_callB call_abs on_abs absD_nx hg hm (by decide +kernel) ha (by decide) (by decide) he rfl
theorem de_int1 (hm : X.mg "int" = none) (ha : DA X W true [e] g) (hg : Gl X "int" := by rfl) (he : starEach [e] X.env = (false, eval e X.env) :: starEach [] X.env := by rfl) : DE X W m (.Call (.Name "int" p) [e] [] pos) (eB intD g) :=
  de_callTy call_int1 on_int intD_nx hg hm (by decide +kernel) ha (by decide) (by decide) he rfl
theorem de_max2 (hm : X.mg "max" = none) (hc : X.calm = true) (ha : DA X W true [e, e'] g) (hg : Gl X "max" := by rfl) (he : starEach [e, e'] X.env = (false, eval e X.env) :: starEach [e'] X.env := by rfl) (hpl : (backTo pos (starEach [e'] X.env)).any (·.1) = false := by rfl) : DE X W m (.Call (.Name "max" p) [e, e'] [] pos) (eB max2D g) :=
  de_callB (call_max2 hc) on_max2 max2D_nx hg hm (by decide +kernel) ha (by decide) (by decide) he hpl
theorem de_min2 (hm : X.mg "min" = none) (hc : X.calm = true) (ha : DA X W true [e, e'] g) (hg : Gl X "min" := by rfl) (he : starEach [e, e'] X.env = (false, eval e X.env) :: starEach [e'] X.env := by rfl) (hpl : (backTo pos (starEach [e'] X.env)).any (·.1) = false := by rfl) : DE X W m (.Call (.Name "min" p) [e, e'] [] pos) (eB min2D g) :=
  de_callB (call_min2 hc) on_min2 min2D_nx hg hm (by decide +kernel) ha (by decide) (by decide) he hpl
end
end DV

namespace DV
open PySem L2

/-! ### subscripts, slices -/
def ixD : D → D → R D
  | .lst xs, .int i => match atI xs i with
    | some d => .ok d
    | none => .no
  | .tup xs, .int i => match atI xs i with
    | some d => .ok d
    | none => .no
  | .scr ns, .int i => match atI ns i with
    | some d => .ok (.int d)
    | none => .no
  | .str z, .int i => if z.length ≤ 1000000 then (match atI z.cps.toList i with
    | some c => .ok (.str ⟨#[c]⟩)
    | none => .no) else .no
  | _, _ => .no
theorem ixD_nx : ∀ x y c n, ixD x y ≠ .exc c n := fun x y c n => by unfold ixD; split <;> (try split) <;> (try split) <;> simp
theorem RepDs.at {K : PySem.W.Frag} {O : Addr → Prop} {H : Hp} {ds : List D} {vs : List V} {i : Int} {d : D} (h : RepDs K O H ds vs) (e : atI ds i = some d) : ∃ v, atI vs i = some v ∧ RepD K O H d v := by
  unfold atI at e ⊢
  rw [h.length] at e
  cases q : ixN vs.length i with
  | none => rw [q] at e; cases e
  | some j => rw [q] at e; exact h.get e
def rIxA (K : PySem.W.Frag) : R2 := fun x y H Q => rIxL K x y H Q ∨ rIxT K x y H Q ∨ rIxS x y H Q
theorem atI_map {α β : Type} (f : α → β) (xs : List α) (i : Int) : atI (xs.map f) i = (atI xs i).map f := by
  unfold atI
  rw [List.length_map]
  cases ixN xs.length i with
  | none => rfl
  | some j => simp
theorem o2_ix {K : PySem.W.Frag} : Op2 K (rIxA K) ixD := fun mg O m σ env H Q x y v w r hx hy q => by
  unfold ixD at q
  split at q
  · obtain ⟨a, vs, e, h1, h2⟩ := repLst hx
    rw [repInt] at hy; subst hy
    split at q
    · rename_i d ed
      obtain ⟨u, e1, r1⟩ := h2.at ed
      exact .inl ⟨a, vs, _, u, e, rfl, .of h1, e1, q.val r1⟩
    · exact q.elim
  · rw [repTup] at hx
    obtain ⟨a, vs, e, h1, h2⟩ := hx
    rw [repInt] at hy; subst hy
    split at q
    · rename_i d ed
      obtain ⟨u, e1, r1⟩ := h2.at ed
      exact .inr (.inl ⟨a, vs, _, u, e, rfl, h1, e1, q.val r1⟩)
    · exact q.elim
  · rw [repScr] at hx
    obtain ⟨a, e, h1⟩ := hx
    rw [repInt] at hy; subst hy
    split at q
    · rename_i d ed
      exact .inl ⟨a, _, _, .int d, e, rfl, h1.sq, by rw [atI_map, ed]; rfl, q.val (by simp [RepD])⟩
    · exact q.elim
  · rw [repStr] at hx; subst hx
    rw [repInt] at hy; subst hy
    split at q
    · rename_i hz
      split at q
      · rename_i c ec
        exact .inr (.inr ⟨_, _, c, rfl, rfl, lim_le hz, ec, q.val (by simp [RepD])⟩)
      · exact q.elim
    · exact q.elim
  · exact q.elim
section
variable {X : Cx} {W : WX} {m : Bool} {a b : Expr} {f g : Env → R D} {pos : Pos}
theorem de_ix (ha : DE X W true a f) (hb : DE X W true b g) (hs : PlainIx b := by intro _ _; rfl) : DE X W m (.Subscript a b pos) (e2 ixD f g) :=
  PE.imp (pe_ix (ix_list.or (ix_tup.or ix_str)) ha hb hs) (t2_of o2_ix ixD_nx)
end
/-- a slice's bounds -/
def cutG {α : Type} (xs : List α) (lo hi : Option Int) : List α := (xs.drop (HT.sIx xs.length 0 lo)).take (HT.sIx xs.length xs.length hi - HT.sIx xs.length 0 lo)
theorem RepDs.cut {K : PySem.W.Frag} {O : Addr → Prop} {H : Hp} {ds : List D} {vs : List V} (lo hi : Option Int) (h : RepDs K O H ds vs) : RepDs K O H (cutG ds lo hi) (cutV vs lo hi) := by
  unfold cutG cutV
  rw [h.length]
  exact (h.drop _).take _
def asI : D → R Int
  | .int i => .ok i
  | _ => .no
def FinO (mg : Str → Option Value) (W : WX) (σ : L2.St) (H : Hp) (Q : Option Int → Hp → Prop) : R (Option Int) → Prop
  | .ok b => ∀ H', Same H H' → Q b H'
  | .exc c n => ∀ C dx H', mg c = some (.ref C) → Same H H' → H' dx = some (.xd [(("at" : Str), .int n)]) → W (.ref C) (some dx) σ H'
  | .no => False
def tOp' (K : PySem.W.Frag) (mg : Str → Option Value) (W : WX) (f : Env → R (Option Int)) : TO := fun σ H Q => ∃ env O, RepS K O H σ env ∧ FinO mg W σ H Q (f env)
def DO (X : Cx) (W : WX) (e : Option Expr) (f : Env → R (Option Int)) : Prop := PO X e (tOp' X.K X.mg W f)
theorem PO.imp {X : Cx} {e : Option Expr} {t t' : TO} (h : PO X e t) (i : ∀ σ H Q, t' σ H Q → t σ H Q) : PO X e t' :=
  ⟨fun pins s σ H Q I q => h.run pins s σ H Q I (i σ H Q q)⟩
theorem FinO.same {mg : Str → Option Value} {W : WX} {H H' : Hp} {σ : L2.St} {Q : Option Int → Hp → Prop} {r : R (Option Int)} (s : Same H H') (q : FinO mg W σ H Q r) : FinO mg W σ H' Q r := by
  cases r with
  | ok d => exact fun H2 s2 => q H2 (s.trans s2)
  | exc c n => exact fun C dx H2 e s2 a => q C dx H2 e (s.trans s2) a
  | no => exact q
def oNone : Env → R (Option Int) := fun _ => .ok none
def oSome (f : Env → R D) : Env → R (Option Int) := fun s => (f s).bind fun d => (asI d).bind fun i => .ok (some i)
section
variable {X : Cx} {W : WX} {m : Bool} {a b : Expr} {lo hi : Option Expr} {f g : Env → R D} {l u : Env → R (Option Int)} {pos p1 p2 p3 : Pos}
theorem do_none : DO X W none oNone := PO.imp po_none fun σ H Q ⟨env, O, rs, q⟩ => q H (Same.refl _)
theorem do_some (ha : DE X W true a f) : DO X W (some a) (oSome f) := PO.imp (po_some ha) fun σ H Q ⟨env, O, rs, q⟩ => by
  unfold oSome at q
  refine ⟨env, O, rs, ?_⟩
  revert q
  cases f env with
  | exc c n => exact fun q => q
  | no => exact fun q => q
  | ok d =>
    intro q v H1 s1 r1
    have q1 := FinO.same s1 q
    rw [R.bind_ok] at q1
    cases d with
    | int i => rw [repInt] at r1; exact ⟨i, r1, q1 _ (Same.refl _)⟩
    | _ => exact q1.elim
def nCut (f : Env → R D) (l u : Env → R (Option Int)) : Env → R (List D) := fun s => (f s).bind fun x => (l s).bind fun lo => (u s).bind fun hi => match x with
  | .lst xs => .ok (cutG xs lo hi)
  | _ => .no
/-- a list's slice -/
theorem dn_slice (he : DE X W true a f) (hl : DO X W lo l) (hu : DO X W hi u) : DN X W (.Subscript a (.Slice lo hi none p2) pos) (nCut f l u) := PE.imp (pe_slice sl_list he hl hu) fun σ H Q ⟨env, O, rs, q⟩ => by
  unfold nCut at q
  refine ⟨env, O, rs, ?_⟩
  revert q
  cases f env with
  | exc c n => exact fun q => q
  | no => exact fun q => q
  | ok x =>
    intro q v H1 s1 r1
    have rs1 := rs.same s1
    have q1 := FinN.same s1 q
    rw [R.bind_ok] at q1
    refine ⟨env, O, rs1, ?_⟩
    revert q1
    cases l env with
    | exc c n => exact fun q => q
    | no => exact fun q => q
    | ok lv =>
      intro q1 H2 s2
      have rs2 := rs1.same s2
      have q2 := FinN.same s2 q1
      rw [R.bind_ok] at q2
      refine ⟨env, O, rs2, ?_⟩
      revert q2
      cases u env with
      | exc c n => exact fun q => q
      | no => exact fun q => q
      | ok uv =>
        intro q2 H3 s3
        have q3 := FinN.same s3 q2
        rw [R.bind_ok] at q3
        split at q3
        · obtain ⟨p, vs, e, h1, h2⟩ := repLst (r1.same (s2.trans s3))
          exact ⟨p, vs, e, .of h1, fun t n => q3.put (h2.cut lv uv) n⟩
        · exact q3.elim
def nRev (f : Env → R D) : Env → R (List D) := fun s => (f s).bind fun x => match x with
  | .lst xs => .ok xs.reverse
  | _ => .no
theorem dn_rev {k : Nat} (he : DE X W true a f) : DN X W (.Subscript a (.Slice none none (some (.UnaryOp .USub (.Constant (.int 1) k p1) p2)) p3) pos) (nRev f) := PE.imp (pe_revL he) fun σ H Q ⟨env, O, rs, q⟩ => by
  unfold nRev at q
  refine ⟨env, O, rs, ?_⟩
  revert q
  cases f env with
  | exc c n => exact fun q => q
  | no => exact fun q => q
  | ok x =>
    intro q v H1 s1 r1
    have q1 := FinN.same s1 q
    rw [R.bind_ok] at q1
    split at q1
    · obtain ⟨p, vs, e, h1, h2⟩ := repLst r1
      exact ⟨p, vs, e, .of h1, fun t n => q1.put h2.reverse n⟩
    · exact q1.elim
end

/-! ### targets -/
/-- the slots that a target stores to; nothing else changes; no new own list -/
def Kept (ts : List Nat) (σ σ' : L2.St) (env env' : Env) : Prop :=
  σ'.length = σ.length ∧ (∀ j, j ∉ ts → σ'[j]? = σ[j]?) ∧ ∀ (i : Nat) sv, env'[i]? = some (some sv) → sv.own = true → env[i]? = some (some sv) ∧ σ'[i]? = σ[i]?
theorem Kept.refl {ts : List Nat} {σ : L2.St} {env : Env} : Kept ts σ σ env env := ⟨rfl, fun _ _ => rfl, fun _ _ e _ => ⟨e, rfl⟩⟩
theorem Kept.trans {ts us : List Nat} {σ σ1 σ2 : L2.St} {env env1 env2 : Env} (a : Kept ts σ σ1 env env1) (b : Kept us σ1 σ2 env1 env2) : Kept (ts ++ us) σ σ2 env env2 :=
  ⟨b.1.trans a.1, fun j hj => (b.2.1 j fun z => hj (List.mem_append_right _ z)).trans (a.2.1 j fun z => hj (List.mem_append_left _ z)), fun i sv e o =>
    let ⟨e1, h1⟩ := b.2.2 i sv e o
    let ⟨e2, h2⟩ := a.2.2 i sv e1 o
    ⟨e2, h1.trans h2⟩⟩
def tG (K : PySem.W.Frag) (ts : List Nat) (g : D → Env → R Env) : TG := fun v σ H Q => ∃ env O d, RepS K O H σ env ∧ RepD K O H d v ∧ match g d env with
  | .ok env' => ∀ σ', RepS K O H σ' env' → Kept ts σ σ' env env' → Q σ' H
  | _ => False
def DG (X : Cx) (tg : Expr) (ts : List Nat) (g : D → Env → R Env) : Prop := PG X tg (tG X.K ts g)
theorem PG.imp {X : Cx} {e : Expr} {t t' : TG} (h : PG X e t) (i : ∀ v σ H Q, t' v σ H Q → t v σ H Q) : PG X e t' :=
  ⟨fun pins s σ H v u Q I r q => h.run pins s σ H v u Q I r (i v σ H Q q)⟩
theorem PGs.imp {X : Cx} {e : List Expr} {t t' : TGs} (h : PGs X e t) (i : ∀ v σ H Q, t' v σ H Q → t v σ H Q) : PGs X e t' :=
  ⟨fun pins s σ H v u Q I r q => h.run pins s σ H v u Q I r (i v σ H Q q)⟩
def gSet (i : Nat) : D → Env → R Env := fun d s => if i < s.length then .ok (s.set i (some (.d d))) else .no
section
variable {K : PySem.W.Frag} {O : Addr → Prop} {H : Hp} {σ : L2.St} {env : Env}
/-- a slot gets a datum -/
theorem RepS.put {i : Nat} {d : D} {v : V} (r : RepS K O H σ env) (h : RepD K O H d v) (hi : i < env.length) : RepS K O H (σ.set i (some v)) (env.set i (some (.d d))) := by
  have hs : i < σ.length := by rw [r.len]; exact hi
  refine ⟨by simp [r.len], fun j sv e => ?_, fun j k a su sv e1 e2 o1 o2 h1 h2 => ?_, r.trk⟩
  · by_cases hj : i = j
    · subst hj
      rw [List.getElem?_set_self hi] at e
      cases e
      exact ⟨v, List.getElem?_set_self hs, h⟩
    · rw [List.getElem?_set_ne hj] at e
      obtain ⟨w, e1, r1⟩ := r.get j sv e
      exact ⟨w, by rw [List.getElem?_set_ne hj]; exact e1, r1⟩
  · have nj : i ≠ j := fun z => by
      subst z
      rw [List.getElem?_set_self hi] at e1
      cases e1
      cases o1
    have nk : i ≠ k := fun z => by
      subst z
      rw [List.getElem?_set_self hi] at e2
      cases e2
      cases o2
    rw [List.getElem?_set_ne nj] at e1 h1
    rw [List.getElem?_set_ne nk] at e2 h2
    exact r.inj j k a su sv e1 e2 o1 o2 h1 h2
theorem Kept.put {i : Nat} {d : D} {v : V} (hi : i < env.length) : Kept [i] σ (σ.set i (some v)) env (env.set i (some (.d d))) := by
  refine ⟨by simp, fun j hj => List.getElem?_set_ne (fun z => hj (by simp [z])), fun j sv e o => ?_⟩
  have nj : i ≠ j := fun z => by
    subst z
    rw [List.getElem?_set_self hi] at e
    cases e
    cases o
  rw [List.getElem?_set_ne nj] at e ⊢
  exact ⟨e, rfl⟩
end
def tGs (K : PySem.W.Frag) (ts : List Nat) (g : List D → Env → R Env) : TGs := fun vs σ H Q => ∃ env O ds, RepS K O H σ env ∧ RepDs K O H ds vs ∧ match g ds env with
  | .ok env' => ∀ σ', RepS K O H σ' env' → Kept ts σ σ' env env' → Q σ' H
  | _ => False
def DGs (X : Cx) (tg : List Expr) (ts : List Nat) (g : List D → Env → R Env) : Prop := PGs X tg (tGs X.K ts g)
def gsNil : List D → Env → R Env
  | [], s => .ok s
  | _ :: _, _ => .no
def gsCons (g : D → Env → R Env) (h : List D → Env → R Env) : List D → Env → R Env
  | d :: r, s => (g d s).bind fun s' => h r s'
  | [], _ => .no
def gTupD (n : Nat) (g : List D → Env → R Env) : D → Env → R Env
  | .tup xs, s => if xs.length = n then g xs s else .no
  | _, _ => .no
section
variable {X : Cx} {pos : Pos} {x : Str} {e : Expr} {es : List Expr} {ts us : List Nat} {g : D → Env → R Env} {h : List D → Env → R Env}
theorem dg_name {i : Nat} (hp : PG X (.Name x pos) (gName i)) : DG X (.Name x pos) [i] (gSet i) := PG.imp hp fun v σ H Q ⟨env, O, d, rs, rd, q⟩ => by
  unfold gSet at q
  split at q
  · rename_i env' e
    split at e
    · rename_i hi
      cases e
      exact q _ (rs.put rd hi) (Kept.put hi)
    · cases e
  · exact q.elim
theorem dgs_nil : DGs X [] [] gsNil := PGs.imp pgs_nil fun vs σ H Q ⟨env, O, ds, rs, rd, q⟩ => by
  cases ds with
  | nil =>
    simp only [RepDs] at rd
    exact ⟨rd, q σ rs Kept.refl⟩
  | cons d r => exact q.elim
theorem dgs_cons (h1 : DG X e ts g) (h2 : DGs X es us h) (hs : (assignEach (e :: es) X.env).map (·.2) = assign e X.env :: (assignEach es X.env).map (·.2) := by rfl) : DGs X (e :: es) (ts ++ us) (gsCons g h) := PGs.imp (pgs_cons h1 h2 hs) fun vs σ H Q ⟨env, O, ds, rs, rd, q⟩ => by
  cases ds with
  | nil => exact q.elim
  | cons d r =>
    simp only [RepDs] at rd
    obtain ⟨v, vr, e1, r1, r2⟩ := rd
    refine ⟨v, vr, e1, env, O, d, rs, r1, ?_⟩
    simp only [gsCons] at q
    cases e2 : g d env with
    | exc c n => rw [e2] at q; exact q.elim
    | no => rw [e2] at q; exact q.elim
    | ok env1 =>
      intro σ1 rs1 k1
      rw [e2, R.bind_ok] at q
      refine ⟨env1, O, r, rs1, r2, ?_⟩
      revert q
      cases h r env1 with
      | exc c n => exact fun q => q
      | no => exact fun q => q
      | ok env2 => exact fun q σ2 rs2 k2 => q σ2 rs2 (k1.trans k2)
theorem dg_tup {k n : Nat} (hc : X.calm = true) (hg : DGs X es ts h) (hn : (assignEach es X.env).length = n := by rfl) (hst : (assignEach es X.env).findIdx? (·.1) = none := by rfl) : DG X (.Tuple es k pos) ts (gTupD n h) := PG.imp (pg_tup hc hg hn hst) fun v σ H Q ⟨env, O, d, rs, rd, q⟩ => by
  cases d with
  | tup xs =>
    simp only [RepD] at rd
    obtain ⟨a, vs, e, hq, r1⟩ := rd
    simp only [gTupD] at q
    by_cases hl : xs.length = n
    · rw [if_pos hl] at q
      exact ⟨a, vs, e, hq, r1.length.symm.trans hl, env, O, xs, rs, r1, q⟩
    · rw [if_neg hl] at q; exact q.elim
  | _ => exact q.elim
end

/-! ### what is walked -/
def IterD (K : PySem.W.Frag) (m : Bool) (J : It) (G : List (V × D)) (xs : List D) : Prop := ∀ (O : Addr → Prop) (H : Hp), (∀ a, O a → H a ≠ none) → (∀ p ∈ G, RepM K O H m p.2 p.1) → ∀ i : Nat,
  (∀ x, xs[i]? = some x → J.go i H ∧ ∀ v H', J.yld i H v H' → Same H H' ∧ RepD K O H' x v) ∧ (xs.length ≤ i → J.stop i H)
def FinI (K : PySem.W.Frag) (mg : Str → Option Value) (W : WX) (O : Addr → Prop) (m : Bool) (σ : L2.St) (H : Hp) (Q : It → Hp → Prop) : R (List D) → Prop
  | .ok xs => ∀ J G H', Same H H' → (∀ p ∈ G, RepM K O H' m p.2 p.1) → IterD K m J G xs → Q J H'
  | .exc c n => ∀ C dx H', mg c = some (.ref C) → Same H H' → H' dx = some (.xd [(("at" : Str), .int n)]) → W (.ref C) (some dx) σ H'
  | .no => False
def tI (K : PySem.W.Frag) (mg : Str → Option Value) (W : WX) (m : Bool) (f : Env → R (List D)) : TI := fun σ H Q => ∃ env O, RepS K O H σ env ∧ FinI K mg W O m σ H Q (f env)
def DI (X : Cx) (W : WX) (m : Bool) (tg e : Expr) (f : Env → R (List D)) : Prop := PI X tg e (tI X.K X.mg W m f)
theorem PI.imp {X : Cx} {tg e : Expr} {t t' : TI} (h : PI X tg e t) (i : ∀ σ H Q, t' σ H Q → t σ H Q) : PI X tg e t' :=
  ⟨fun pins s σ H Q I q => h.run pins s σ H Q I (i σ H Q q)⟩
theorem FinI.same {K : PySem.W.Frag} {mg : Str → Option Value} {W : WX} {O : Addr → Prop} {m : Bool} {H H' : Hp} {σ : L2.St} {Q : It → Hp → Prop} {r : R (List D)} (s : Same H H') (q : FinI K mg W O m σ H Q r) : FinI K mg W O m σ H' Q r := by
  cases r with
  | ok d => exact fun J G H2 s2 => q J G H2 (s.trans s2)
  | exc c n => exact fun C dx H2 e s2 a => q C dx H2 e (s.trans s2) a
  | no => exact q
def itD : D → R (List D)
  | .lst xs => .ok xs
  | .tup xs => .ok xs
  | _ => .no
def iOf (f : Env → R D) : Env → R (List D) := fun s => (f s).bind itD
def iLst (f : Env → R D) : Env → R (List D) := fun s => (f s).bind fun d => match d with
  | .lst xs => .ok xs
  | _ => .no
def iTupl (f : Env → R D) : Env → R (List D) := fun s => (f s).bind fun d => match d with
  | .tup xs => .ok xs
  | _ => .no
section
variable {K : PySem.W.Frag} {m : Bool}
theorem iter_list {a : Addr} {xs : List D} : IterD K m (Itl K a) [(.ref a, .lst xs)] xs := fun O H tr hG i => by
  obtain ⟨a', vs, e, h1, h2⟩ := repLst (hG _ List.mem_cons_self)
  cases e
  refine ⟨fun x e => ?_, fun hl => ⟨vs, .of h1, by rw [← h2.length]; exact hl⟩⟩
  obtain ⟨v, ev, rv⟩ := h2.get e
  refine ⟨⟨vs, v, .of h1, ev⟩, fun w H' y => ?_⟩
  obtain ⟨e1, y⟩ := y
  subst e1
  have := y vs (.of h1)
  rw [ev] at this
  cases this
  exact ⟨Same.refl _, rv⟩
theorem sqT_fun {H : Hp} {a : Addr} {xs ys : List V} (h : ∀ zs, SqT K H a zs → zs = xs) : True := trivial
end
section
variable {X : Cx} {W : WX} {m : Bool} {tg a b : Expr} {f g : Env → R D} {ga : Env → R (List D)} {pos p : Pos}
theorem di_list (h : DE X W m a f) : DI X W m tg a (iLst f) := PI.imp (pi_list h) fun σ H R ⟨env, O, rs, q⟩ => by
  unfold iLst at q
  refine ⟨env, O, rs, ?_⟩
  revert q
  cases f env with
  | exc c n => exact fun q => q
  | no => exact fun q => q
  | ok x =>
    intro q v H1 s1 r1
    have q1 := FinI.same s1 q
    rw [DV.R.bind_ok] at q1
    split at q1
    · obtain ⟨p, vs, e, h1, h2⟩ := repLst r1
      subst e
      exact ⟨p, rfl, ⟨vs, .of h1⟩, q1 _ _ H1 (Same.refl _) (fun z hz => by rw [List.mem_singleton.mp hz]; exact r1) iter_list⟩
    · exact q1.elim
/-- 0, 1, .. below n -/
def rngD (lo : Int) (n : Nat) : List D := (List.range n).map fun (i : Nat) => D.int (lo + (i : Int))
theorem iter_rng {K : PySem.W.Frag} {m : Bool} {lo : Int} {n : Nat} : IterD K m (Itr lo n) [] (rngD lo n) := fun O H tr hG i => by
  refine ⟨fun x e => ?_, fun hl => (by simpa [rngD] using hl : n ≤ i)⟩
  unfold rngD at e
  rw [List.getElem?_map, Option.map_eq_some_iff] at e
  obtain ⟨j, ej, rfl⟩ := e
  obtain ⟨hj, ej⟩ := List.getElem?_eq_some_iff.mp ej
  simp at hj ej
  subst ej
  refine ⟨hj, fun v H' y => ?_⟩
  obtain ⟨e1, e2⟩ := y
  subst e1 e2
  exact ⟨Same.refl _, by simp [RepD]⟩
def iRange1 (ga : Env → R (List D)) : Env → R (List D) := fun s => (ga s).bind fun ds => match ds with
  | [.int n] => if n < 4611686018427387904 ∧ -4611686018427387904 ≤ n then .ok (rngD 0 n.toNat) else .no
  | _ => .no
def iRange2 (ga : Env → R (List D)) : Env → R (List D) := fun s => (ga s).bind fun ds => match ds with
  | [.int a, .int n] => if a < 4611686018427387904 ∧ -4611686018427387904 ≤ a ∧ n < 4611686018427387904 ∧ -4611686018427387904 ≤ n then .ok (rngD a (n - a).toNat) else .no
  | _ => .no
theorem finAI {K : PySem.W.Frag} {mg : Str → Option Value} {O : Addr → Prop} {H : Hp} {σ : L2.St} {env : Env} {Q : It → Hp → Prop} {k : List D → R (List D)} {m1 : Bool} (r : RepS K O H σ env) (q : FinI K mg W O m σ H Q ((ga env).bind k)) {Q1 : List V → Hp → Prop}
    (hk : ∀ ds vs H1, ga env = .ok ds → Same H H1 → RepMs K O H1 m1 ds vs → RepS K O H1 σ env → FinI K mg W O m σ H1 Q (k ds) → Q1 vs H1) : tAr K mg W m1 ga σ H Q1 := by
  refine ⟨env, O, r, ?_⟩
  revert q hk
  cases ga env with
  | ok d => exact fun q hk v H1 s z => hk d v H1 rfl s z (r.same s) (FinI.same s q)
  | exc c n => exact fun q hk => q
  | no => exact fun q hk => q
theorem di_range1 (hm : X.mg "range" = none) (ha : DA X W true [a] ga) (hg : Gl X "range" := by rfl) (hs : starEach [a] X.env = [(false, eval a X.env)] := by rfl) : DI X W m tg (.Call (.Name "range" p) [a] [] pos) (iRange1 ga) := PI.imp (pi_range1 hg hm ha hs) fun σ H R ⟨env, O, rs, q⟩ => by
  refine finAI rs q fun ds vs H1 _ s1 r1 rs1 q1 => ?_
  split at q1
  · rename_i n _
    obtain ⟨v, e, h⟩ := repMs1 r1
    rw [repInt] at h; subst h
    split at q1
    · rename_i hn
      rw [show (-(2 ^ 62) : Int) = -4611686018427387904 by decide, show ((2 : Int) ^ 62) = 4611686018427387904 by decide]
      exact ⟨n, e, hn.2, hn.1, q1 _ [] H1 (Same.refl _) (fun z hz => by cases hz) iter_rng⟩
    · exact q1.elim
  · exact q1.elim
theorem di_range2 (hm : X.mg "range" = none) (ha : DA X W true [a, b] ga) (hg : Gl X "range" := by rfl) (hs : starEach [a, b] X.env = [(false, eval a X.env), (false, eval b X.env)] := by rfl) (hs2 : starEach [b] X.env = [(false, eval b X.env)] := by rfl) : DI X W m tg (.Call (.Name "range" p) [a, b] [] pos) (iRange2 ga) := PI.imp (pi_range2 hg hm ha hs hs2) fun σ H R ⟨env, O, rs, q⟩ => by
  refine finAI rs q fun ds vs H1 _ s1 r1 rs1 q1 => ?_
  split at q1
  · rename_i a n _
    obtain ⟨v, w, e, h, h'⟩ := repMs2 r1
    rw [repInt] at h h'; subst h; subst h'
    split at q1
    · rename_i hn
      rw [show (-(2 ^ 62) : Int) = -4611686018427387904 by decide, show ((2 : Int) ^ 62) = 4611686018427387904 by decide]
      exact ⟨a, n, e, ⟨hn.2.1, hn.1, hn.2.2.2, hn.2.2.1⟩, q1 _ [] H1 (Same.refl _) (fun z hz => by cases hz) iter_rng⟩
    · exact q1.elim
  · exact q1.elim
/-- (0, x0), (1, x1), .. -/
def enumD (xs : List D) : List D := xs.mapIdx fun i x => D.tup [.int i, x]
theorem iter_enum {K : PySem.W.Frag} {m : Bool} {a : Addr} {xs : List D} : IterD K m (Ite K a) [(.ref a, .lst xs)] (enumD xs) := fun O H tr hG i => by
  obtain ⟨a', vs, e, h1, h2⟩ := repLst (hG _ List.mem_cons_self)
  cases e
  refine ⟨fun x e => ?_, fun hl => ⟨vs, .of h1, by rw [← h2.length]; simpa [enumD] using hl⟩⟩
  unfold enumD at e
  rw [List.getElem?_mapIdx, Option.map_eq_some_iff] at e
  obtain ⟨d, ed, rfl⟩ := e
  obtain ⟨v, ev, rv⟩ := h2.get ed
  refine ⟨⟨vs, v, .of h1, ev⟩, fun w H' y => ?_⟩
  obtain ⟨T, x, e1, nT, eH, y⟩ := y
  have := y vs (.of h1)
  rw [ev] at this
  cases this
  subst e1 eH
  refine ⟨Same.new' nT, ?_⟩
  exact .newT nT (.cons (by simp [RepD]) (.cons rv .nil))
def iEnumD (ga : Env → R (List D)) : Env → R (List D) := fun s => (ga s).bind fun ds => match ds with
  | [.lst xs] => .ok (enumD xs)
  | _ => .no
theorem repMsM {K : PySem.W.Frag} {O : Addr → Prop} {H : Hp} {d : D} {v : V} (h : RepM K O H m d v) : RepM K O H true d v := by
  cases m
  · exact RepD.top h
  · exact h
theorem di_enum {elts : List Expr} {kk : Nat} {tpos : Pos} (hm : X.mg "enumerate" = none) (ha : DA X W m [a] ga) (hg : Gl X "enumerate" := by rfl) (hs : starEach [a] X.env = [(false, eval a X.env)] := by rfl) : DI X W m (.Tuple elts kk tpos) (.Call (.Name "enumerate" p) [a] [] pos) (iEnumD ga) := PI.imp (pi_enum hg hm ha hs) fun σ H R ⟨env, O, rs, q⟩ => by
  refine finAI rs q fun ds vs H1 _ s1 r1 rs1 q1 => ?_
  split at q1
  · obtain ⟨v, e, h⟩ := repMs1 r1
    obtain ⟨p, us, e2, h1, h2⟩ := repLst h
    subst e2
    exact ⟨p, us, e, .of h1, q1 _ _ H1 (Same.refl _) (fun z hz => by rw [List.mem_singleton.mp hz]; exact h) iter_enum⟩
  · exact q1.elim
def zipD (xs ys : List D) : List D := List.zipWith (fun x y => D.tup [x, y]) xs ys
theorem iter_zip {K : PySem.W.Frag} {m : Bool} {a b : Addr} {xs ys : List D} : IterD K m (Itz K a b) [(.ref a, .lst xs), (.ref b, .lst ys)] (zipD xs ys) := fun O H tr hG i => by
  obtain ⟨a', vs, e, h1, h2⟩ := repLst (hG _ List.mem_cons_self)
  cases e
  obtain ⟨b', us, e, g1, g2⟩ := repLst (hG _ (List.mem_cons_of_mem _ List.mem_cons_self))
  cases e
  refine ⟨fun x e => ?_, fun hl => ⟨vs, us, .of h1, .of g1, by rw [← h2.length, ← g2.length]; simp only [zipD, List.length_zipWith] at hl; omega⟩⟩
  unfold zipD at e
  rw [List.getElem?_zipWith] at e
  cases ex : xs[i]? with
  | none => rw [ex] at e; simp at e
  | some x' =>
    cases ey : ys[i]? with
    | none => rw [ex, ey] at e; simp at e
    | some y' =>
      rw [ex, ey] at e
      simp at e
      subst e
      obtain ⟨v, ev, rv⟩ := h2.get ex
      obtain ⟨u, eu, ru⟩ := g2.get ey
      refine ⟨⟨vs, us, v, u, .of h1, .of g1, ev, eu⟩, fun w H' y => ?_⟩
      obtain ⟨T, x2, y2, e1, nT, eH, y, z⟩ := y
      have q1 := y vs (.of h1)
      have q2 := z us (.of g1)
      rw [ev] at q1
      rw [eu] at q2
      cases q1; cases q2
      subst e1 eH
      exact ⟨Same.new' nT, .newT nT (.cons rv (.cons ru .nil))⟩
def iZipD (ga : Env → R (List D)) : Env → R (List D) := fun s => (ga s).bind fun ds => match ds with
  | [.lst xs, .lst ys] => .ok (zipD xs ys)
  | _ => .no
theorem di_zip {elts : List Expr} {kk : Nat} {tpos : Pos} (hm : X.mg "zip" = none) (ha : DA X W m [a, b] ga) (hg : Gl X "zip" := by rfl) (hs : starEach [a, b] X.env = (false, eval a X.env) :: starEach [b] X.env := by rfl) (hs2 : (backTo pos (starEach [b] X.env)).any (·.1) = false := by rfl) :
    DI X W m (.Tuple elts kk tpos) (.Call (.Name "zip" p) [a, b] [] pos) (iZipD ga) := PI.imp (pi_zip hg hm ha hs hs2) fun σ H R ⟨env, O, rs, q⟩ => by
  refine finAI rs q fun ds vs H1 _ s1 r1 rs1 q1 => ?_
  split at q1
  · obtain ⟨v, w, e, h, h'⟩ := repMs2 r1
    obtain ⟨p, us, e2, h1, h2⟩ := repLst h
    obtain ⟨p', us', e2', h1', h2'⟩ := repLst h'
    subst e2 e2'
    exact ⟨p, p', us, us', e, .of h1, .of h1', q1 _ _ H1 (Same.refl _) (fun z hz => by
      rcases List.mem_cons.mp hz with hz | hz
      · subst hz; exact h
      · rw [List.mem_singleton.mp hz]; exact h') iter_zip⟩
  · exact q1.elim
end
end DV

namespace DV
open PySem L2

/-! ### list comprehensions -/
def wipeE (s : Env) : List Nat → Env
  | [] => s
  | v :: vs => (wipeE s vs).set v none
theorem wipeE_length (s : Env) : ∀ vs : List Nat, (wipeE s vs).length = s.length
  | [] => rfl
  | v :: vs => by simp [wipeE, wipeE_length s vs]
theorem wipeE_some {s : Env} {i : Nat} {sv : SV} : ∀ {vs : List Nat}, (wipeE s vs)[i]? = some (some sv) → s[i]? = some (some sv) ∧ i ∉ vs
  | [], h => ⟨h, by simp⟩
  | v :: vs, h => by
    simp only [wipeE] at h
    by_cases hi : v = i
    · subst hi
      by_cases hv : v < (wipeE s vs).length
      · rw [List.getElem?_set_self hv] at h; cases h
      · rw [List.getElem?_eq_none (by simpa using hv)] at h; cases h
    · rw [List.getElem?_set_ne hi] at h
      obtain ⟨h1, h2⟩ := wipeE_some h
      exact ⟨h1, by simp only [List.mem_cons, not_or]; exact ⟨fun e => hi e.symm, h2⟩⟩
theorem wipe_get {σ : L2.St} {i : Nat} : ∀ {vs : List Nat}, i ∉ vs → (wipe σ vs)[i]? = σ[i]?
  | [], _ => rfl
  | v :: vs, h => by
    simp only [List.mem_cons, not_or] at h
    unfold wipe
    rw [List.getElem?_set_ne (Ne.symm h.1)]
    exact wipe_get h.2
theorem wipe_at {σ : L2.St} {i : Nat} : ∀ {vs : List Nat}, i ∈ vs → i < σ.length → (wipe σ vs)[i]? = some none
  | v :: vs, h, hl => by
    unfold wipe
    by_cases hi : v = i
    · subst hi
      rw [List.getElem?_set_self (by rw [wipe_length]; exact hl)]
    · rw [List.getElem?_set_ne hi]
      rcases List.mem_cons.mp h with z | z
      · exact absurd z.symm hi
      · exact wipe_at z hl
section
variable {K : PySem.W.Frag} {O : Addr → Prop} {H : Hp} {σ : L2.St} {env : Env}
theorem RepS.wipe (r : RepS K O H σ env) (vs : List Nat) : RepS K O H (L2.wipe σ vs) (wipeE env vs) := by
  refine ⟨by rw [wipe_length, wipeE_length, r.len], fun i sv e => ?_, fun i j a su sv e1 e2 o1 o2 h1 h2 => ?_, r.trk⟩
  · obtain ⟨e1, e2⟩ := wipeE_some e
    obtain ⟨v, h1, h2⟩ := r.get i sv e1
    exact ⟨v, by rw [wipe_get e2]; exact h1, h2⟩
  · obtain ⟨e1, n1⟩ := wipeE_some e1
    obtain ⟨e2, n2⟩ := wipeE_some e2
    rw [wipe_get n1] at h1
    rw [wipe_get n2] at h2
    exact r.inj i j a su sv e1 e2 o1 o2 h1 h2
/-- fewer slots are told of -/
theorem RepS.forget (r : RepS K O H σ env) (vs : List Nat) : RepS K O H σ (wipeE env vs) := by
  refine ⟨by rw [wipeE_length, r.len], fun i sv e => r.get i sv (wipeE_some e).1, fun i j a su sv e1 e2 o1 o2 h1 h2 => r.inj i j a su sv (wipeE_some e1).1 (wipeE_some e2).1 o1 o2 h1 h2, r.trk⟩
theorem RepV.avoid {p : Addr} {sv : SV} {v : V} (n : H p = none) (h : RepV K O H sv v) : RepV K (fun a => O a ∨ a = p) H sv v := by
  cases sv with
  | d x => exact RepD.avoid n x v h
  | ol xs =>
    obtain ⟨a, vs, e, ho, h1, h2⟩ := h
    exact ⟨a, vs, e, .inl ho, h1, h2.avoid n⟩
  | od xs =>
    obtain ⟨a, vs, e, ho, h1, h2⟩ := h
    exact ⟨a, vs, e, .inl ho, h1, h2.avoid n⟩
theorem RepTop.avoid {p : Addr} {d : D} {v : V} (n : H p = none) (h : RepTop K O H d v) : RepTop K (fun a => O a ∨ a = p) H d v := by
  cases d <;> simp only [RepTop] at h ⊢ <;> try exact RepD.avoid n _ v h
  · obtain ⟨a, vs, e, h1, h2⟩ := h
    exact ⟨a, vs, e, h1, h2.avoid n⟩
  · obtain ⟨a, vs, e, h1, h2⟩ := h
    exact ⟨a, vs, e, h1, h2.avoid n⟩
theorem RepM.avoid {p : Addr} {m : Bool} {d : D} {v : V} (n : H p = none) (h : RepM K O H m d v) : RepM K (fun a => O a ∨ a = p) H m d v := by
  unfold RepM at h ⊢
  cases m
  · exact RepD.avoid n d v h
  · exact RepTop.avoid n h
/-- a new object that one minds -/
theorem RepS.mind {p : Addr} {o : HO} (r : RepS K O H σ env) (n : H p = none) : RepS K (fun a => O a ∨ a = p) (upd H p o) σ env := by
  refine ⟨r.len, fun i sv e => ?_, r.inj, fun a h => ?_⟩
  · obtain ⟨v, e1, h1⟩ := r.get i sv e
    exact ⟨v, e1, (h1.avoid n).same (Same.new' n)⟩
  · by_cases ha : a = p
    · subst ha; rw [upd_same]; simp
    · rw [upd_ne ha]
      exact r.trk a (h.resolve_right ha)
end
/-- nothing is raised here -/
def nx {α : Type} : R α → R α
  | .ok a => .ok a
  | _ => .no
@[simp] theorem nx_ok {α : Type} (a : α) : nx (.ok a) = .ok a := Eq.trans rfl rfl
@[simp] theorem nx_no {α : Type} : nx (.no : R α) = .no := Eq.trans rfl rfl
def lcGo (g : D → Env → R Env) (t : Env → R Bool) (elt : Env → R D) (s : Env) : List D → R (List D)
  | [] => .ok []
  | x :: xs => (nx (g x s)).bind fun s1 => (nx (t s1)).bind fun b => if b = true then (nx (elt s1)).bind fun y => (lcGo g t elt s xs).bind fun ys => .ok (y :: ys) else lcGo g t elt s xs
def nLc (it : Env → R (List D)) (g : D → Env → R Env) (t : Env → R Bool) (elt : Env → R D) (own : List Nat) : Env → R (List D) := fun s => (it s).bind fun xs => if xs.length ≤ 1000000 then lcGo g t elt (wipeE s own) xs else .no
def tYes' : Env → R Bool := fun _ => .ok true
/-- the tests of a comprehension -/
def DTs (X : Cx) (W : WX) (es : List Expr) (f : Env → R Bool) : Prop := PTs X es (tT X.K X.mg W f)
theorem PTs.imp {X : Cx} {e : List Expr} {t t' : TT} (h : PTs X e t) (i : ∀ σ H Q, t' σ H Q → t σ H Q) : PTs X e t' :=
  ⟨fun pins s σ H Q I q => h.run pins s σ H Q I (i σ H Q q)⟩
theorem dts_nil {X : Cx} {W : WX} : DTs X W [] tYes' := PTs.imp pts_nil fun σ H Q ⟨env, O, rs, q⟩ => q H (Same.refl _)
theorem dts_one {X : Cx} {W : WX} {c : Expr} {f : Env → R Bool} (h : DT X W c f) : DTs X W [c] f := pts_one h
section
variable {K : PySem.W.Frag} {mg : Str → Option Value} {W : WX} {m : Bool} {it : Env → R (List D)} {g : D → Env → R Env} {t : Env → R Bool} {elt : Env → R D} {own ts : List Nat}
theorem kept_wipe {σ σ2 : L2.St} {env env2 : Env} {ts own : List Nat} (k : Kept ts (wipe σ own) σ2 env env2) (h : ∀ j ∈ ts, j ∈ own) : wipe σ2 own = wipe σ own := by
  apply List.ext_getElem?
  intro j
  have hl : σ2.length = σ.length := k.1.trans (wipe_length _ _)
  by_cases hj : j ∈ own
  · by_cases h1 : j < σ.length
    · rw [wipe_at hj h1, wipe_at hj (by rw [hl]; exact h1)]
    · rw [List.getElem?_eq_none (by rw [wipe_length, hl]; omega), List.getElem?_eq_none (by rw [wipe_length]; omega)]
  · rw [wipe_get hj]
    exact k.2.1 j fun z => hj (h j z)
theorem Same.put {H1 H : Hp} {p : Addr} {o : HO} (s : Same H1 H) (n : H1 p = none) : Same H1 (upd H p o) := fun a u e => by
  rw [upd_ne (ne_of_none e n)]; exact s a u e
/-- the reading of a comprehension -/
theorem lc_tN (hto : ∀ j ∈ ts, j ∈ own) (σ : L2.St) (H : Hp) (Q : VK) (h : tN K mg W (nLc it g t elt own) σ H Q) :
    tLc (tI K mg W m it) (tG K ts g) (tT K mg W0 t) (tD K mg W0 false elt) own σ H Q := by
  obtain ⟨env, O, rs, q⟩ := h
  unfold nLc at q
  refine ⟨env, O, rs, ?_⟩
  revert q
  cases it env with
  | exc c n => exact fun q => q
  | no => exact fun q => q
  | ok xs =>
    intro q J G H1 s1 hG hJ D hD
    have rs1 := rs.same s1
    have q1 := FinN.same s1 q
    rw [R.bind_ok] at q1
    by_cases hz : xs.length ≤ 1000000
    · rw [if_pos hz] at q1
      cases er : lcGo g t elt (wipeE env own) xs with
      | exc c n =>
        -- never
        exfalso
        have : ∀ ys : List DV.D, lcGo g t elt (wipeE env own) ys ≠ .exc c n := by
          intro ys
          induction ys with
          | nil => intro e; cases e
          | cons y ys ih =>
            intro e
            simp only [lcGo] at e
            cases e1 : nx (g y (wipeE env own)) with
            | exc c' n' => revert e1; cases g y (wipeE env own) <;> simp [nx]
            | no => rw [e1] at e; cases e
            | ok s' =>
              rw [e1, R.bind_ok] at e
              cases e2 : nx (t s') with
              | exc c' n' => revert e2; cases t s' <;> simp [nx]
              | no => rw [e2] at e; cases e
              | ok b =>
                rw [e2, R.bind_ok] at e
                cases b with
                | false => simp only [Bool.false_eq_true, if_false] at e; exact ih e
                | true =>
                  simp only [if_true] at e
                  cases e3 : nx (elt s') with
                  | exc c' n' => revert e3; cases elt s' <;> simp [nx]
                  | no => rw [e3] at e; cases e
                  | ok z =>
                    rw [e3, R.bind_ok] at e
                    cases e4 : lcGo g t elt (wipeE env own) ys with
                    | exc c' n' => rw [e4] at e; simp only [R.bind_exc, R.exc.injEq] at e; exact ih (by rw [e4, e.1, e.2])
                    | no => rw [e4] at e; cases e
                    | ok zs => rw [e4] at e; cases e
        exact this xs er
      | no => rw [er] at q1; exact q1.elim
      | ok ys =>
        rw [er] at q1
        have rs2 : RepS K (fun a => O a ∨ a = D) (upd H1 D (.lst [])) σ env := rs1.mind hD
        refine ⟨fun i m' H => m' = xs.length - i ∧ i ≤ xs.length ∧ Same H1 H ∧ ∃ acc accv zs, H D = some (.lst accv) ∧ RepDs K (fun a => O a ∨ a = D) H acc accv ∧ acc.length ≤ i ∧ lcGo g t elt (wipeE env own) (xs.drop i) = .ok zs ∧ ys = acc ++ zs,
          ⟨xs.length, by simp, Nat.zero_le _, Same.new' hD, [], [], ys, upd_same, .nil, Nat.le_refl _, by simpa using er, by simp⟩, ?_⟩
        rintro i m' H2 ⟨rfl, hi, s2, acc, accv, zs, hDv, ra, hal, eg, ey⟩
        have tr2 : ∀ a, (O a ∨ a = D) → H2 a ≠ none := fun a ha z => by
          rcases ha with ha | ha
          · cases e : H1 a with
            | none => exact rs1.trk a ha e
            | some o => rw [s2 a o e] at z; cases z
          · subst ha; rw [hDv] at z; cases z
        have hG2 : ∀ p ∈ G, RepM K (fun a => O a ∨ a = D) H2 m p.2 p.1 := fun p hp => ((hG p hp).avoid hD).same s2
        have rsH : RepS K (fun a => O a ∨ a = D) H2 σ env := ⟨rs1.len, fun j sv e => let ⟨v, e1, h1⟩ := rs1.get j sv e; ⟨v, e1, (h1.avoid hD).same s2⟩, rs1.inj, tr2⟩
        by_cases hlt : i < xs.length
        · refine .inr ⟨((hJ _ H2 tr2 hG2 i).1 xs[i] (List.getElem?_eq_getElem hlt)).1, fun H' => ∃ m', m' < xs.length - i ∧ (m' = xs.length - (i + 1) ∧ i + 1 ≤ xs.length ∧ Same H1 H' ∧ ∃ acc accv zs, H' D = some (.lst accv) ∧ RepDs K (fun a => O a ∨ a = D) H' acc accv ∧ acc.length ≤ i + 1 ∧ lcGo g t elt (wipeE env own) (xs.drop (i + 1)) = .ok zs ∧ ys = acc ++ zs), fun _ z => z, fun v H3 y => ?_⟩
          obtain ⟨s3, rv⟩ := ((hJ _ H2 tr2 hG2 i).1 xs[i] (List.getElem?_eq_getElem hlt)).2 v H3 y
          have ed : xs.drop i = xs[i] :: xs.drop (i + 1) := List.drop_eq_getElem_cons hlt
          rw [ed] at eg
          simp only [lcGo] at eg
          refine ⟨wipeE env own, fun a => O a ∨ a = D, xs[i], (rsH.same s3).wipe own, rv, ?_⟩
          cases e1 : g xs[i] (wipeE env own) with
          | exc c n => rw [e1] at eg; cases eg
          | no => rw [e1] at eg; cases eg
          | ok env1 =>
            intro σ2 rs4 kk
            rw [e1, nx_ok, R.bind_ok] at eg
            refine ⟨kept_wipe kk hto, env1, fun a => O a ∨ a = D, rs4, ?_⟩
            cases e2 : t env1 with
            | exc c n => rw [e2] at eg; cases eg
            | no => rw [e2] at eg; cases eg
            | ok b =>
              intro H4 s4
              rw [e2, nx_ok, R.bind_ok] at eg
              have s24 : Same H2 H4 := s3.trans s4
              cases b with
              | false =>
                simp only [Bool.false_eq_true, if_false] at eg ⊢
                exact ⟨_, by omega, rfl, hlt, s2.trans s24, acc, accv, zs, s24 _ _ hDv, ra.same s24, by omega, eg, ey⟩
              | true =>
                simp only [if_true] at eg ⊢
                refine ⟨env1, fun a => O a ∨ a = D, rs4.same s4, ?_⟩
                cases e3 : elt env1 with
                | exc c n => rw [e3] at eg; cases eg
                | no => rw [e3] at eg; cases eg
                | ok y =>
                  intro yv H5 s5 ry
                  rw [e3, nx_ok, R.bind_ok] at eg
                  have s25 : Same H2 H5 := s24.trans s5
                  have ry : RepD K (fun a => O a ∨ a = D) H5 y yv := ry
                  cases e4 : lcGo g t elt (wipeE env own) (xs.drop (i + 1)) with
                  | exc c n => rw [e4] at eg; cases eg
                  | no => rw [e4] at eg; cases eg
                  | ok ws =>
                    rw [e4, R.bind_ok] at eg
                    cases eg
                    have hD5 : H5 D = some (.lst accv) := s25 _ _ hDv
                    have ra5 := ra.same s25
                    refine ⟨accv, hD5, by rw [← ra5.length]; exact lim_lt (by omega), _, by omega, rfl, hlt, DV.Same.put (s2.trans s25) hD, acc ++ [y], accv ++ [yv], ws, upd_same, ?_, by simp; omega, rfl, by rw [ey]; simp⟩
                    exact RepDs.keep (Keep.upd (.inr rfl) (by rw [hD5]; exact True.intro)) (fun _ z => z) _ _ (ra5.append (.cons ry .nil))
        · have ei : i = xs.length := by omega
          subst ei
          rw [List.drop_length] at eg
          cases eg
          rw [List.append_nil] at ey
          subst ey
          exact .inl ⟨(hJ _ H2 tr2 hG2 _).2 (Nat.le_refl _), q1 D accv H2 s2 hD hDv ra⟩
    · rw [if_neg hz] at q1; exact q1.elim
end
section
variable {X : Cx} {W : WX} {m : Bool} {el tg iter : Expr} {ifs : List Expr} {scope : Scope} {own : List (Str × Nat)} {pos : Pos} {it : Env → R (List D)} {g : D → Env → R Env} {t : Env → R Bool} {elt : Env → R D} {ts : List Nat}
/-- [elt for tg in iter if ..] -/
theorem dn_lc (hc : X.calm = true) (hN : X.N.Nodup) (hi : DI X W m tg iter it) (ok : BlkOk X.N X.env.scope scope own)
    (hg : ∀ (s : Shared) (H : Hp) (C : Addr) (cl : List (Str × Addr)) (fp : List Addr), DG (X.blk s H scope (compEnvC scope cl C X.env) fp) tg ts g) (ht : ∀ (s : Shared) (H : Hp) (C : Addr) (cl : List (Str × Addr)) (fp : List Addr), DTs (X.blk s H scope (compEnvC scope cl C X.env) fp) W0 ifs t)
    (he : ∀ (s : Shared) (H : Hp) (C : Addr) (cl : List (Str × Addr)) (fp : List Addr), DE (X.blk s H scope (compEnvC scope cl C X.env) fp) W0 false el elt) (hto : ∀ j ∈ ts, j ∈ own.map (·.2)) (hs : ∀ x, foldedSetIterable iter X.env x = pure x := by intro _; rfl) {os : List Nat} (hos : own.map (·.2) = os := by rfl) :
    DN X W (.ListComp el [⟨tg, iter, ifs, 0⟩] scope pos) (nLc it g t elt os) := hos ▸
  PE.imp (pe_lc (wi := tI X.K X.mg W m it) (g := tG X.K ts g) (tt := tT X.K X.mg W0 t) (te := tD X.K X.mg W0 false elt) hc hN hi ok hg ht he hs) (lc_tN hto)
end
end DV

namespace DV
open PySem L2

/-! ### statements -/
inductive Out where
  | nx (e : Env) | rt (d : D) | ro (xs : List D) | rk (kvs : List (Key × D)) | bk (e : Env) | ct (e : Env) | exc (c : Str) (n : Int) (e : Env) | no
/-- the state between statements: H0, O0 the entry's; G what else stands -/
def SOK (K : PySem.W.Frag) (H0 : Hp) (O0 : Addr → Prop) (G : List (V × D)) (env : Env) (σ : L2.St) (H : Hp) : Prop :=
  ∃ O, RepS K O H σ env ∧ (∀ a, O0 a → O a) ∧ Same H0 H ∧ (∀ p ∈ G, RepD K O H p.2 p.1) ∧ ∀ (i : Nat) sv a, env[i]? = some (some sv) → sv.own = true → σ[i]? = some (some (.ref a)) → H0 a = none
def FinS (K : PySem.W.Frag) (mg : Str → Option Value) (W : WX) (H0 : Hp) (O0 : Addr → Prop) (G : List (V × D)) (Dd : Ends) : Out → Prop
  | .nx e => ∀ σ' H', SOK K H0 O0 G e σ' H' → Dd.nx σ' H'
  | .bk e => ∀ σ' H', SOK K H0 O0 G e σ' H' → Dd.bk σ' H'
  | .ct e => ∀ σ' H', SOK K H0 O0 G e σ' H' → Dd.ct σ' H'
  | .rt d => ∀ v H', Same H0 H' → RepD K O0 H' d v → Dd.rt v H'
  | .ro xs => ∀ p vs H', Same H0 H' → H0 p = none → H' p = some (.lst vs) → RepDs K (fun a => O0 a ∨ a = p) H' xs vs → Dd.rt (.ref p) H'
  | .rk xs => ∀ p vs H', Same H0 H' → H0 p = none → H' p = some (.dK vs) → RepKs K (fun a => O0 a ∨ a = p) H' xs vs → Dd.rt (.ref p) H'
  | .exc c n e => ∀ C dx σ' H', mg c = some (.ref C) → SOK K H0 O0 G e σ' H' → H' dx = some (.xd [(("at" : Str), .int n)]) → W (.ref C) (some dx) σ' H'
  | .no => False
def tS (K : PySem.W.Frag) (mg : Str → Option Value) (W : WX) (H0 : Hp) (O0 : Addr → Prop) (G : List (V × D)) (F : Env → Out) : TS := fun Dd σ H => ∃ env, SOK K H0 O0 G env σ H ∧ FinS K mg W H0 O0 G Dd (F env)
structure Ent where
  H0 : Hp
  O0 : Addr → Prop
  tr : ∀ a, O0 a → H0 a ≠ none
def DS (X : Cx) (W : WX) (B : Ent) (st : Stmt) (F : Env → Out) : Prop := ∀ G, PS X st (tS X.K X.mg W B.H0 B.O0 G F)
def DSs (X : Cx) (W : WX) (B : Ent) (st : List Stmt) (F : Env → Out) : Prop := ∀ G, PSs X st (tS X.K X.mg W B.H0 B.O0 G F)

def Out.seq : Out → (Env → Out) → Out
  | .nx e, g => g e
  | o, _ => o
@[simp] theorem Out.seq_nx (e : Env) (g : Env → Out) : (Out.nx e).seq g = g e := Eq.trans rfl rfl
@[simp] theorem Out.seq_rt (d : D) (g : Env → Out) : (Out.rt d).seq g = .rt d := Eq.trans rfl rfl
@[simp] theorem Out.seq_ro (d : List D) (g : Env → Out) : (Out.ro d).seq g = .ro d := Eq.trans rfl rfl
@[simp] theorem Out.seq_no (g : Env → Out) : (Out.no).seq g = .no := Eq.trans rfl rfl
@[simp] theorem Out.seq_bk (e : Env) (g : Env → Out) : (Out.bk e).seq g = .bk e := Eq.trans rfl rfl
@[simp] theorem Out.seq_ct (e : Env) (g : Env → Out) : (Out.ct e).seq g = .ct e := Eq.trans rfl rfl
@[simp] theorem Out.seq_exc (c : Str) (n : Int) (e : Env) (g : Env → Out) : (Out.exc c n e).seq g = .exc c n e := Eq.trans rfl rfl
def sNext : Env → Out := fun s => .nx s
def sSeq (F G : Env → Out) : Env → Out := fun s => (F s).seq G
section
variable {K : PySem.W.Frag} {H0 : Hp} {O0 : Addr → Prop} {G : List (V × D)} {env : Env} {σ : L2.St} {H H' : Hp} {mg : Str → Option Value} {W : WX} {B : Ent}
theorem SOK.same (s : Same H H') (h : SOK K H0 O0 G env σ H) : SOK K H0 O0 G env σ H' := by
  obtain ⟨O, r, z, s0, g, n⟩ := h
  exact ⟨O, r.same s, z, s0.trans s, fun p hp => (g p hp).same s, n⟩
/-- from an expression's end to a statement's -/
theorem sE {m : Bool} {f : Env → R D} {k : D → Out} {Dd : Ends} (h : SOK K H0 O0 G env σ H) (q : FinS K mg W H0 O0 G Dd (match f env with | .ok d => k d | .exc c n => .exc c n env | .no => .no)) {Q1 : VK}
    (hk : ∀ d v H1 O, f env = .ok d → Same H H1 → RepM K O H1 m d v → RepS K O H1 σ env → (∀ a, O0 a → O a) → Same H0 H1 → (∀ p ∈ G, RepD K O H1 p.2 p.1) → (∀ (i : Nat) sv a, env[i]? = some (some sv) → sv.own = true → σ[i]? = some (some (.ref a)) → H0 a = none) → FinS K mg W H0 O0 G Dd (k d) → Q1 v H1) :
    tD K mg W m f σ H Q1 := by
  obtain ⟨O, r, z, s0, g, n⟩ := h
  refine ⟨env, O, r, ?_⟩
  cases e : f env with
  | ok d =>
    rw [e] at q
    exact fun v H1 s1 rv => hk d v H1 O e s1 rv (r.same s1) z (s0.trans s1) (fun p hp => (g p hp).same s1) n q
  | exc c n' =>
    rw [e] at q
    exact fun C dx H1 e1 s1 a => q C dx σ H1 e1 ⟨O, r.same s1, z, s0.trans s1, fun p hp => (g p hp).same s1, n⟩ a
  | no => rw [e] at q; exact q.elim
end
section
variable {X : Cx} {W : WX} {B : Ent} {st : Stmt} {rest : List Stmt} {F F' : Env → Out} {e : Expr} {f : Env → R D} {pos : Pos}
theorem DS.eq {F F' : Env → Out} (h : DS X W B st F) (i : ∀ s, F' s = F s) : DS X W B st F' := by
  have : F' = F := funext i
  rw [this]; exact h
theorem dss_nil : DSs X W B [] sNext := fun G => PSs.imp pss_nil fun Dd σ H ⟨env, h, q⟩ => q σ H h
theorem fin_seq {K : PySem.W.Frag} {mg : Str → Option Value} {H0 : Hp} {O0 : Addr → Prop} {G : List (V × D)} {Dd : Ends} {o : Out} {F' : Env → Out} (q : FinS K mg W H0 O0 G Dd (o.seq F')) :
    FinS K mg W H0 O0 G { Dd with nx := tS K mg W H0 O0 G F' Dd } o := by
  cases o with
  | nx e => exact fun σ' H' h => ⟨e, h, q⟩
  | _ => exact q
theorem dss_cons (h1 : DS X W B st F) (h2 : DSs X W B rest F') : DSs X W B (st :: rest) (sSeq F F') := fun G => PSs.imp (pss_cons (h1 G) (h2 G)) fun Dd σ H ⟨env, h, q⟩ => ⟨env, h, fin_seq q⟩
theorem dss_one (h1 : DS X W B st F) : DSs X W B [st] F := fun G => pss_one (h1 G)
theorem ds_pass : DS X W B (.Pass pos) sNext := fun G => PS.imp ps_pass fun Dd σ H ⟨env, h, q⟩ => q σ H h
theorem ds_break : DS X W B (.Break pos) (fun s => .bk s) := fun G => PS.imp ps_break fun Dd σ H ⟨env, h, q⟩ => q σ H h
theorem ds_continue : DS X W B (.Continue pos) (fun s => .ct s) := fun G => PS.imp ps_continue fun Dd σ H ⟨env, h, q⟩ => q σ H h
/-- never reached -/
theorem ds_never : DS X W B st (fun _ => .no) := fun G => PS.imp ps_never fun Dd σ H ⟨env, h, q⟩ => q
theorem dss_never {sts : List Stmt} : DSs X W B sts (fun _ => .no) := fun G => PSs.imp pss_never fun Dd σ H ⟨env, h, q⟩ => q
/-- a slot's own list, given away from here on -/
def frz (i : Nat) : Env → Env := fun s => match s[i]? with
  | some (some (.ol xs)) => s.set i (some (.d (.lst xs)))
  | some (some (.od xs)) => s.set i (some (.d (.dct xs)))
  | _ => s
theorem SOK.frz {K : PySem.W.Frag} {H0 : Hp} {O0 : Addr → Prop} {G : List (V × D)} {env : Env} {σ : L2.St} {H : Hp} (tr : ∀ a, O0 a → H0 a ≠ none) (i : Nat) (h : SOK K H0 O0 G env σ H) : SOK K H0 O0 G (DV.frz i env) σ H := by
  have key : ∀ (a : Addr) (d : D) (sv0 : SV), env[i]? = some (some sv0) → sv0.own = true → σ[i]? = some (some (.ref a)) → (∀ O, RepS K O H σ env → RepD K (fun b => O b ∧ b ≠ a) H d (.ref a)) → SOK K H0 O0 G (env.set i (some (.d d))) σ H := by
    intro a d sv0 ei own0 eσ hd
    obtain ⟨O, r, z, s0, g, n⟩ := h
    have hi : i < env.length := (List.getElem?_eq_some_iff.mp ei).1
    have na : H0 a = none := n i _ a ei own0 eσ
    refine ⟨fun b => O b ∧ b ≠ a, ⟨by simp [r.len], fun j sv e => ?_, fun j k b su sv e1 e2 o1 o2 h1 h2 => ?_, fun b hb => r.trk b hb.1⟩, fun b hb => ⟨z b hb, fun e => ?_⟩, s0, fun p hp => RepD.keep Keep.refl (fun _ z => z.1) _ _ (g p hp), fun j sv b e o1 h1 => ?_⟩
    · by_cases hj : i = j
      · subst hj
        rw [List.getElem?_set_self hi] at e
        cases e
        exact ⟨_, eσ, hd O r⟩
      · rw [List.getElem?_set_ne hj] at e
        obtain ⟨v, e1, rv⟩ := r.get j sv e
        refine ⟨v, e1, ?_⟩
        cases sv with
        | d x => exact RepD.keep Keep.refl (fun _ z => z.1) _ _ rv
        | ol xs =>
          obtain ⟨b, vs, eb, ho, h1, h2⟩ := rv
          refine ⟨b, vs, eb, ⟨ho, fun q => ?_⟩, h1, RepDs.keep Keep.refl (fun _ z => z.1) _ _ h2⟩
          subst q
          subst eb
          exact hj (r.inj i j b _ _ ei e own0 rfl eσ e1)
        | od xs =>
          obtain ⟨b, vs, eb, ho, h1, h2⟩ := rv
          refine ⟨b, vs, eb, ⟨ho, fun q => ?_⟩, h1, RepKs.keep Keep.refl (fun _ z => z.1) _ _ h2⟩
          subst q
          subst eb
          exact hj (r.inj i j b _ _ ei e own0 rfl eσ e1)
    · have nj : i ≠ j := fun q => by
        subst q
        rw [List.getElem?_set_self hi] at e1
        cases e1; cases o1
      have nk : i ≠ k := fun q => by
        subst q
        rw [List.getElem?_set_self hi] at e2
        cases e2; cases o2
      rw [List.getElem?_set_ne nj] at e1
      rw [List.getElem?_set_ne nk] at e2
      exact r.inj j k b su sv e1 e2 o1 o2 h1 h2
    · subst e
      exact tr b hb na
    · have nj : i ≠ j := fun q => by
        subst q
        rw [List.getElem?_set_self hi] at e
        cases e; cases o1
      rw [List.getElem?_set_ne nj] at e
      exact n j sv b e o1 h1
  unfold DV.frz
  split
  · rename_i xs ei
    have h' := h
    obtain ⟨O, r, _⟩ := h'
    obtain ⟨v, eσ, a, vs, ev, ho, h1, h2⟩ := r.get i _ ei
    subst ev
    refine key a (.lst xs) _ ei rfl eσ fun O' r' => ?_
    obtain ⟨v', eσ', a', vs', ev', ho', h1', h2'⟩ := r'.get i _ ei
    rw [eσ] at eσ'
    cases eσ'
    cases ev'
    simp only [RepD]
    exact ⟨a, vs', rfl, fun z => z.2 rfl, h1', RepDs.keep Keep.refl (fun _ z => z.1) _ _ h2'⟩
  · rename_i xs ei
    have h' := h
    obtain ⟨O, r, _⟩ := h'
    obtain ⟨v, eσ, a, vs, ev, ho, h1, h2⟩ := r.get i _ ei
    subst ev
    refine key a (.dct xs) _ ei rfl eσ fun O' r' => ?_
    obtain ⟨v', eσ', a', vs', ev', ho', h1', h2'⟩ := r'.get i _ ei
    rw [eσ] at eσ'
    cases eσ'
    cases ev'
    simp only [RepD]
    exact ⟨a, vs', rfl, fun z => z.2 rfl, .inl h1', RepKs.keep Keep.refl (fun _ z => z.1) _ _ h2'⟩
  · exact h
/-- the statement behind a gift -/
theorem ds_frz (i : Nat) (h : DS X W B st F) : DS X W B st (fun s => F (frz i s)) := fun G => PS.imp (h G) fun Dd σ H ⟨env, hs, q⟩ => ⟨frz i env, hs.frz B.tr i, q⟩
theorem ds_wipe (vs : List Nat) (h : DS X W B st F) : DS X W B st (fun s => F (wipeE s vs)) := fun G => PS.imp (h G) fun Dd σ H ⟨env, ⟨O, r, z, s0, g, n⟩, q⟩ =>
  ⟨wipeE env vs, ⟨O, r.forget vs, z, s0, g, fun i sv a e o1 h1 => n i sv a (wipeE_some e).1 o1 h1⟩, q⟩

/-! return, assignment -/
def sRet (f : Env → R D) : Env → Out := fun s => match f s with
  | .ok d => .rt d
  | .exc c n => .exc c n s
  | .no => .no
theorem ds_ret (he : DE X W false e f) : DS X W B (.Return (some e) pos) (sRet f) := fun G => PS.imp (ps_ret he) fun Dd σ H ⟨env, h, q⟩ => by
  refine sE (k := fun d => .rt d) h q fun d v H1 O _ s1 rv rs z s0 g n q1 => ?_
  exact q1 v H1 s0 (RepD.keep Keep.refl z _ _ rv)
theorem ds_retN : DS X W B (.Return none pos) (fun _ => .rt .non) := fun G => PS.imp ps_retN fun Dd σ H ⟨env, ⟨O, r, z, s0, g, n⟩, q⟩ => q _ _ s0 (by simp [RepD])
/-- return of a slot's own list -/
def sRetO (i : Nat) : Env → Out := fun s => match s[i]? with
  | some (some (.ol xs)) => .ro xs
  | some (some (.od xs)) => .rk xs
  | some (some (.d d)) => .rt d
  | _ => .no
theorem ds_retO {i : Nat} {x : Str} {p : Pos} (hv : PE X (.Name x p) (tVar i)) : DS X W B (.Return (some (.Name x p)) pos) (sRetO i) := fun G => PS.imp (ps_ret hv) fun Dd σ H ⟨env, ⟨O, r, z, s0, g, n⟩, q⟩ => by
  unfold sRetO at q
  split at q
  · rename_i xs ei
    obtain ⟨v, eσ, a, vs, ev, ho, h1, h2⟩ := r.get i _ ei
    subst ev
    refine ⟨_, eσ, q a vs H s0 (n i _ a ei rfl eσ) h1 (RepDs.keep Keep.refl (fun b hb => ?_) _ _ h2)⟩
    rcases hb with hb | hb
    · exact z b hb
    · subst hb; exact ho
  · rename_i xs ei
    obtain ⟨v, eσ, a, vs, ev, ho, h1, h2⟩ := r.get i _ ei
    subst ev
    refine ⟨_, eσ, q a vs H s0 (n i _ a ei rfl eσ) h1 (RepKs.keep Keep.refl (fun b hb => ?_) _ _ h2)⟩
    rcases hb with hb | hb
    · exact z b hb
    · subst hb; exact ho
  · rename_i d ei
    obtain ⟨v, eσ, rv⟩ := r.get i _ ei
    exact ⟨v, eσ, q v H s0 (RepD.keep Keep.refl z _ _ rv)⟩
  · exact q.elim
/-- a statement's end from a target's -/
theorem SOK.put {K : PySem.W.Frag} {H0 : Hp} {O0 : Addr → Prop} {G : List (V × D)} {env env' : Env} {σ σ' : L2.St} {H : Hp} {O : Addr → Prop} {ts : List Nat} (rs : RepS K O H σ' env') (k : Kept ts σ σ' env env') (z : ∀ a, O0 a → O a) (s0 : Same H0 H) (g : ∀ p ∈ G, RepD K O H p.2 p.1)
    (n : ∀ (i : Nat) sv a, env[i]? = some (some sv) → sv.own = true → σ[i]? = some (some (.ref a)) → H0 a = none) : SOK K H0 O0 G env' σ' H :=
  ⟨O, rs, z, s0, g, fun i sv a e o1 h1 => by
    obtain ⟨e1, e2⟩ := k.2.2 i sv e o1
    exact n i sv a e1 o1 (by rw [← e2]; exact h1)⟩
def sSet (i : Nat) (f : Env → R D) : Env → Out := fun s => match f s with
  | .ok d => if i < s.length then .nx (s.set i (some (.d d))) else .no
  | .exc c n => .exc c n s
  | .no => .no
theorem t_set {K : PySem.W.Frag} {mg : Str → Option Value} {H0 : Hp} {O0 : Addr → Prop} {G : List (V × D)} {i : Nat} {f : Env → R D} (Dd : Ends) (σ : L2.St) (H : Hp) (h : tS K mg W H0 O0 G (sSet i f) Dd σ H) : tAsg (tD K mg W false f) (gName i) Dd σ H := by
  obtain ⟨env, h, q⟩ := h
  refine sE (k := fun d => if i < env.length then .nx (env.set i (some (.d d))) else .no) h q fun d v H1 O _ s1 rv rs z s0 g n q1 => ?_
  split at q1
  · rename_i hi
    exact q1 _ _ (SOK.put (rs.put rv hi) (Kept.put (d := d) (v := v) hi) z s0 g n)
  · exact q1.elim
theorem ds_set {i : Nat} {x : Str} {p : Pos} (hp : ∀ t, PE X e t → PS X (.Assign [.Name x p] e pos) (tAsg t (gName i))) (he : DE X W false e f) : DS X W B (.Assign [.Name x p] e pos) (sSet i f) := fun G => PS.imp (hp _ he) t_set
/-- name = a new list, its own -/
def sNew (i : Nat) (f : Env → R (List D)) : Env → Out := fun s => match f s with
  | .ok xs => if i < s.length then .nx (s.set i (some (.ol xs))) else .no
  | .exc c n => .exc c n s
  | .no => .no
theorem RepS.own {K : PySem.W.Frag} {O : Addr → Prop} {H : Hp} {σ : L2.St} {env : Env} {i : Nat} {p : Addr} {xs : List D} {vs : List V} {H' : Hp} (r : RepS K O H σ env) (s : Same H H') (n : H p = none) (hp : H' p = some (.lst vs)) (h : RepDs K (fun a => O a ∨ a = p) H' xs vs) (hi : i < env.length) :
    RepS K (fun a => O a ∨ a = p) H' (σ.set i (some (.ref p))) (env.set i (some (.ol xs))) := by
  have hs : i < σ.length := by rw [r.len]; exact hi
  have fresh : ∀ (j : Nat) sv, env[j]? = some (some sv) → sv.own = true → σ[j]? ≠ some (some (.ref p)) := fun j sv e o1 z => by
    obtain ⟨v, e1, rv⟩ := r.get j sv e
    rw [z] at e1; cases e1
    cases sv with
    | d x => cases o1
    | ol ys =>
      obtain ⟨b, us, eb, ho, h1, h2⟩ := rv
      cases eb
      rw [n] at h1; cases h1
    | od ys =>
      obtain ⟨b, us, eb, ho, h1, h2⟩ := rv
      cases eb
      rw [n] at h1; cases h1
  refine ⟨by simp [r.len], fun j sv e => ?_, fun j k a su sv e1 e2 o1 o2 h1 h2 => ?_, fun a ha => ?_⟩
  · by_cases hj : i = j
    · subst hj
      rw [List.getElem?_set_self hi] at e
      cases e
      exact ⟨_, List.getElem?_set_self hs, p, vs, rfl, .inr rfl, hp, h⟩
    · rw [List.getElem?_set_ne hj] at e
      obtain ⟨w, e1, r1⟩ := r.get j sv e
      exact ⟨w, by rw [List.getElem?_set_ne hj]; exact e1, (r1.avoid n).same s⟩
  · by_cases hj : i = j
    · by_cases hk : i = k
      · exact hj.symm.trans hk
      · exfalso
        subst hj
        rw [List.getElem?_set_self hs] at h1
        cases h1
        rw [List.getElem?_set_ne hk] at e2 h2
        exact fresh k sv e2 o2 h2
    · by_cases hk : i = k
      · exfalso
        subst hk
        rw [List.getElem?_set_self hs] at h2
        cases h2
        rw [List.getElem?_set_ne hj] at e1 h1
        exact fresh j su e1 o1 h1
      · rw [List.getElem?_set_ne hj] at e1 h1
        rw [List.getElem?_set_ne hk] at e2 h2
        exact r.inj j k a su sv e1 e2 o1 o2 h1 h2
  · rcases ha with ha | ha
    · cases e : H a with
      | none => exact absurd e (r.trk a ha)
      | some o => rw [s a o e]; simp
    · subst ha; rw [hp]; simp
theorem t_new {K : PySem.W.Frag} {mg : Str → Option Value} {H0 : Hp} {O0 : Addr → Prop} {G : List (V × D)} {i : Nat} {f : Env → R (List D)} (Dd : Ends) (σ : L2.St) (H : Hp) (h : tS K mg W H0 O0 G (sNew i f) Dd σ H) : tAsg (tN K mg W f) (gName i) Dd σ H := by
  obtain ⟨env, ⟨O, r, z, s0, g, n⟩, q⟩ := h
  refine ⟨env, O, r, ?_⟩
  unfold sNew at q
  cases e : f env with
  | exc c n' =>
    rw [e] at q
    exact fun C dx H1 e1 s1 a => q C dx σ H1 e1 ⟨O, r.same s1, z, s0.trans s1, fun p hp => (g p hp).same s1, n⟩ a
  | no => rw [e] at q; exact q.elim
  | ok xs =>
    rw [e] at q
    intro p vs H1 s1 np hp rd
    dsimp only at q
    split at q
    · rename_i hi
      have hs : i < σ.length := by rw [r.len]; exact hi
      refine q _ _ ⟨fun a => O a ∨ a = p, r.own s1 np hp rd hi, fun a ha => .inl (z a ha), s0.trans s1, fun t ht => ((RepD.avoid np _ _ (g t ht))).same s1, fun j sv a e o1 h1 => ?_⟩
      by_cases hj : i = j
      · subst hj
        rw [List.getElem?_set_self hs] at h1
        cases h1
        exact Same.back s0 np
      · rw [List.getElem?_set_ne hj] at e h1
        exact n j sv a e o1 h1
    · exact q.elim
theorem ds_new {i : Nat} {x : Str} {p : Pos} {f : Env → R (List D)} (hp : ∀ t, PE X e t → PS X (.Assign [.Name x p] e pos) (tAsg t (gName i))) (he : DN X W e f) : DS X W B (.Assign [.Name x p] e pos) (sNew i f) := fun G => PS.imp (hp _ he) t_new
/-- targets = value -/
def sAsg (g : D → Env → R Env) (f : Env → R D) : Env → Out := fun s => match f s with
  | .ok d => (match g d s with
    | .ok s' => .nx s'
    | _ => .no)
  | .exc c n => .exc c n s
  | .no => .no
theorem ds_asg {tg : Expr} {ts : List Nat} {g : D → Env → R Env} (hp : ∀ t u, PE X e t → PG X tg u → PS X (.Assign [tg] e pos) (tAsg t u)) (he : DE X W false e f) (hg : DG X tg ts g) : DS X W B (.Assign [tg] e pos) (sAsg g f) := fun G => PS.imp (hp _ _ he hg) fun Dd σ H ⟨env, h, q⟩ => by
  refine sE (k := fun d => match g d env with | .ok s' => .nx s' | _ => .no) h q fun d v H1 O _ s1 rv rs z s0 gg n q1 => ?_
  refine ⟨env, O, d, rs, rv, ?_⟩
  revert q1
  cases g d env with
  | exc c n => exact fun q => q.elim
  | no => exact fun q => q.elim
  | ok env' => exact fun q1 σ' rs' k => q1 _ _ (SOK.put rs' k z s0 gg n)
def sDrop (f : Env → R D) : Env → Out := fun s => match f s with
  | .ok _ => .nx s
  | .exc c n => .exc c n s
  | .no => .no
theorem ds_expr (hp : ∀ t, PE X e t → PS X (.Expr e pos) (tDrop t)) (he : DE X W false e f) : DS X W B (.Expr e pos) (sDrop f) := fun G => PS.imp (hp _ he) fun Dd σ H ⟨env, h, q⟩ => by
  refine sE (k := fun _ => .nx env) h q fun d v H1 O _ s1 rv rs z s0 g n q1 => ?_
  exact q1 σ H1 ⟨O, rs, z, s0, g, n⟩

/-! if, for, while -/
def sIf (t : Env → R Bool) (F F' : Env → Out) : Env → Out := fun s => match t s with
  | .ok b => if b = true then F s else F' s
  | .exc c n => .exc c n s
  | .no => .no
theorem sT {K : PySem.W.Frag} {mg : Str → Option Value} {H0 : Hp} {O0 : Addr → Prop} {G : List (V × D)} {env : Env} {σ : L2.St} {H : Hp} {t : Env → R Bool} {k : Bool → Out} {Dd : Ends} (h : SOK K H0 O0 G env σ H) (q : FinS K mg W H0 O0 G Dd (match t env with | .ok d => k d | .exc c n => .exc c n env | .no => .no)) {Q1 : Bool → Hp → Prop}
    (hk : ∀ d H1, t env = .ok d → SOK K H0 O0 G env σ H1 → FinS K mg W H0 O0 G Dd (k d) → Q1 d H1) : tT K mg W t σ H Q1 := by
  have h' := h
  obtain ⟨O, r, z, s0, g, n⟩ := h'
  refine ⟨env, O, r, ?_⟩
  cases e : t env with
  | ok d => rw [e] at q; exact fun H1 s1 => hk d H1 e (h.same s1) q
  | exc c n' => rw [e] at q; exact fun C dx H1 e1 s1 a => q C dx σ H1 e1 (h.same s1) a
  | no => rw [e] at q; exact q.elim
theorem ds_if {c : Expr} {a b : List Stmt} {t : Env → R Bool} (hc : DT X W c t) (ha : DSs X W B a F) (hb : DSs X W B b F') : DS X W B (.If c a b pos) (sIf t F F') := fun G => PS.imp (ps_if hc (ha G) (hb G)) fun Dd σ H ⟨env, h, q⟩ => by
  refine sT (k := fun b => if b = true then F env else F' env) h q fun d H1 _ h1 q1 => ?_
  cases d with
  | true => rw [if_pos rfl] at q1 ⊢; exact ⟨env, h1, q1⟩
  | false => rw [if_neg Bool.false_ne_true] at q1 ⊢; exact ⟨env, h1, q1⟩
/-- the turns of a for; wp: slots forgotten behind each turn -/
def forD (g : D → Env → R Env) (F : Env → Out) (wp : List Nat) : List D → Env → Out
  | [], s => .nx s
  | x :: xs, s => match g x s with
    | .ok s1 => (match F s1 with
      | .nx s2 => forD g F wp xs (wipeE s2 wp)
      | .ct s2 => forD g F wp xs (wipeE s2 wp)
      | .bk s2 => .nx s2
      | o => o)
    | _ => .no
def sFor (it : Env → R (List D)) (g : D → Env → R Env) (F : Env → Out) (wp : List Nat) : Env → Out := fun s => match it s with
  | .ok xs => forD g F wp xs (wipeE s wp)
  | .exc c n => .exc c n s
  | .no => .no
theorem SOK.forget {K : PySem.W.Frag} {H0 : Hp} {O0 : Addr → Prop} {G : List (V × D)} {env : Env} {σ : L2.St} {H : Hp} (h : SOK K H0 O0 G env σ H) (vs : List Nat) : SOK K H0 O0 G (wipeE env vs) σ H := by
  obtain ⟨O, r, z, s0, g, n⟩ := h
  exact ⟨O, r.forget vs, z, s0, g, fun i sv a e o1 h1 => n i sv a (wipeE_some e).1 o1 h1⟩
theorem SOK.less {K : PySem.W.Frag} {H0 : Hp} {O0 : Addr → Prop} {G G' : List (V × D)} {env : Env} {σ : L2.St} {H : Hp} (h : SOK K H0 O0 G env σ H) (w : ∀ p ∈ G', p ∈ G) : SOK K H0 O0 G' env σ H := by
  obtain ⟨O, r, z, s0, g, n⟩ := h
  exact ⟨O, r, z, s0, fun p hp => g p (w p hp), n⟩
theorem ds_for {tg iter : Expr} {body : List Stmt} {it : Env → R (List D)} {g : D → Env → R Env} {ts : List Nat} (wp : List Nat) (hp : PassesOwn (model X.prog X.w) X.A X.env X.xe) (hc : X.calm = true) (hi : DI X W false tg iter it) (hg : DG X tg ts g) (hb : DSs X W B body F)
    (hs : ∀ x, foldedSetIterable iter X.env x = pure x := by intro _; rfl) : DS X W B (.For tg iter body [] pos) (sFor it g F wp) := by
  intro G
  refine ⟨fun pins s σ H Dd I hw => ?_⟩
  -- the body under what the walk leans on: chosen behind the iterator
  obtain ⟨env, h, q⟩ := hw
  have main : ∀ (GI : List (V × D)) (xs : List D) (J : It), IterD X.K false J GI xs → ∀ (H1 : Hp) (h1 : SOK X.K B.H0 B.O0 (GI ++ G) (wipeE env wp) σ H1), FinS X.K X.mg W B.H0 B.O0 G Dd (forD g F wp xs (wipeE env wp)) →
      ∃ Wv : Nat → Nat → L2.St → Hp → Prop, (∃ m, Wv 0 m σ H1) ∧ ∀ i m σ H, Wv i m σ H → (J.stop i H ∧ Dd.nx σ H) ∨ (J.go i H ∧ ∃ N : L2.St → Hp → Prop, (∀ σ' H', N σ' H' → ∃ m', m' < m ∧ Wv (i + 1) m' σ' H') ∧ ∀ x H', J.yld i H x H' →
        tG X.K ts g x σ H' fun σ2 H2 => (fun D2 σ2 H2 => ∃ e2, SOK X.K B.H0 B.O0 (GI ++ G) e2 σ2 H2 ∧ FinS X.K X.mg W B.H0 B.O0 (GI ++ G) D2 (F e2)) { Dd with nx := N, ct := N, bk := Dd.nx } σ2 H2) := by
    intro GI xs J hJ H1 h1 q1
    refine ⟨fun i m σ H => m = xs.length - i ∧ i ≤ xs.length ∧ ∃ e, SOK X.K B.H0 B.O0 (GI ++ G) e σ H ∧ FinS X.K X.mg W B.H0 B.O0 G Dd (forD g F wp (xs.drop i) e), ⟨xs.length, by simp, Nat.zero_le _, _, h1, by simpa using q1⟩, ?_⟩
    rintro i m σ2 H2 ⟨rfl, hi, e, he, qe⟩
    have he' := he
    obtain ⟨O, r, z, s0, gg, n⟩ := he'
    have hJ2 := hJ O H2 r.trk (fun p hp => gg p (List.mem_append_left _ hp)) i
    by_cases hlt : i < xs.length
    · refine .inr ⟨(hJ2.1 _ (List.getElem?_eq_getElem hlt)).1, fun σ' H' => ∃ m', m' < xs.length - i ∧ (m' = xs.length - (i + 1) ∧ i + 1 ≤ xs.length ∧ ∃ e, SOK X.K B.H0 B.O0 (GI ++ G) e σ' H' ∧ FinS X.K X.mg W B.H0 B.O0 G Dd (forD g F wp (xs.drop (i + 1)) e)), fun _ _ z => z, fun v H3 y => ?_⟩
      obtain ⟨s3, rv⟩ := (hJ2.1 _ (List.getElem?_eq_getElem hlt)).2 v H3 y
      rw [List.drop_eq_getElem_cons hlt] at qe
      simp only [forD] at qe
      refine ⟨e, O, xs[i], r.same s3, rv, ?_⟩
      cases eg : g xs[i] e with
      | exc c n => rw [eg] at qe; exact qe.elim
      | no => rw [eg] at qe; exact qe.elim
      | ok e1 =>
        intro σ4 r4 k4
        rw [eg] at qe
        dsimp only at qe
        refine ⟨e1, SOK.put r4 k4 z (s0.trans s3) (fun p hp => (gg p hp).same s3) n, ?_⟩
        cases eF : F e1 with
        | nx e2 =>
          rw [eF] at qe
          exact fun σ5 H5 h5 => ⟨_, by omega, rfl, hlt, _, h5.forget wp, qe⟩
        | ct e2 =>
          rw [eF] at qe
          exact fun σ5 H5 h5 => ⟨_, by omega, rfl, hlt, _, h5.forget wp, qe⟩
        | bk e2 =>
          rw [eF] at qe
          exact fun σ5 H5 h5 => qe _ _ (h5.less fun p hp => List.mem_append_right _ hp)
        | rt d => rw [eF] at qe; exact qe
        | ro d => rw [eF] at qe; exact qe
        | rk d => rw [eF] at qe; exact qe
        | exc c n e2 =>
          rw [eF] at qe
          exact fun C dx σ5 H5 a h5 b => qe C dx σ5 H5 a (h5.less fun p hp => List.mem_append_right _ hp) b
        | no => rw [eF] at qe; exact qe
    · have ei : i = xs.length := by omega
      subst ei
      rw [List.drop_length] at qe
      exact .inl ⟨hJ2.2 (Nat.le_refl _), qe _ _ (he.less fun p hp => List.mem_append_right _ hp)⟩
  -- the body's rule for every GI at once
  have body : PSs X body (fun D2 σ2 H2 => ∃ (GI : List (V × D)) (e2 : Env), SOK X.K B.H0 B.O0 (GI ++ G) e2 σ2 H2 ∧ FinS X.K X.mg W B.H0 B.O0 (GI ++ G) D2 (F e2)) := ⟨fun pins s σ H D2 I ⟨GI, e2, hh, qq⟩ => (hb (GI ++ G)).run pins s σ H D2 I ⟨e2, hh, qq⟩⟩
  refine (ps_for hp hc hi hg body hs).run pins s σ H Dd I ?_
  have h' := h
  obtain ⟨O, r, z, s0, gg, n⟩ := h'
  refine ⟨env, O, r, ?_⟩
  unfold sFor at q
  cases ei : it env with
  | exc c n' =>
    rw [ei] at q
    exact fun C dx H1 e1 s1 a => q C dx σ H1 e1 (h.same s1) a
  | no => rw [ei] at q; exact q.elim
  | ok xs =>
    rw [ei] at q
    intro J GI H1 s1 hG hJ
    obtain ⟨Wv, w0, step⟩ := main GI xs J hJ H1 ⟨O, (r.same s1).forget wp, z, s0.trans s1, fun p hp => (List.mem_append.mp hp).elim (fun hp => hG p hp) fun hp => (gg p hp).same s1, fun i sv a e o1 h1 => n i sv a (wipeE_some e).1 o1 h1⟩ q
    refine ⟨Wv, w0, fun i m σ H w => ?_⟩
    rcases step i m σ H w with a | ⟨a, N, hN, b⟩
    · exact .inl a
    · refine .inr ⟨a, N, hN, fun x H' y => ?_⟩
      obtain ⟨e0, O0', d, r0, rd0, m0⟩ := b x H' y
      refine ⟨e0, O0', d, r0, rd0, ?_⟩
      revert m0
      cases g d e0 with
      | exc c n => exact fun z => z
      | no => exact fun z => z
      | ok e1 => exact fun m0 σ' r' k' => let ⟨e2, h2, q2⟩ := m0 σ' r' k'; ⟨GI, e2, h2, q2⟩
/-- the turns of a while, at most n -/
def whileD (t : Env → R Bool) (F : Env → Out) (wp : List Nat) : Nat → Env → Out
  | 0, _ => .no
  | n + 1, s => match t s with
    | .ok true => (match F s with
      | .nx s2 => whileD t F wp n (wipeE s2 wp)
      | .ct s2 => whileD t F wp n (wipeE s2 wp)
      | .bk s2 => .nx s2
      | o => o)
    | .ok false => .nx s
    | .exc c k => .exc c k s
    | .no => .no
def sWhile (t : Env → R Bool) (F : Env → Out) (wp : List Nat) (n : Nat) : Env → Out := fun s => whileD t F wp n s
theorem ds_while {c : Expr} {body : List Stmt} {t : Env → R Bool} (wp : List Nat) (fuel : Env → Nat) (hp : PassesOwn (model X.prog X.w) X.A X.env X.xe) (hc : DT X W c t) (hb : DSs X W B body F) : DS X W B (.While c body [] pos) (fun s => whileD t F wp (fuel s) s) := fun G => PS.imp (ps_while hp hc (hb G)) fun Dd σ H ⟨env, h, q⟩ => by
  refine ⟨fun m σ H => ∃ e, SOK X.K B.H0 B.O0 G e σ H ∧ FinS X.K X.mg W B.H0 B.O0 G Dd (whileD t F wp m e), ⟨fuel env, env, h, q⟩, fun m σ H ⟨e, he, qe⟩ => ?_⟩
  cases m with
  | zero => exact qe.elim
  | succ m =>
    simp only [whileD] at qe
    have he' := he
    obtain ⟨O, r, z, s0, gg, n⟩ := he'
    refine ⟨e, O, r, ?_⟩
    cases et : t e with
    | exc c' n' => rw [et] at qe; exact fun C dx H1 e1 s1 a => qe C dx σ H1 e1 (he.same s1) a
    | no => rw [et] at qe; exact qe.elim
    | ok b =>
      rw [et] at qe
      intro H1 s1
      cases b with
      | false => rw [if_neg Bool.false_ne_true]; exact qe _ _ (he.same s1)
      | true =>
        rw [if_pos rfl]
        refine ⟨fun σ' H' => ∃ m', m' < m + 1 ∧ ∃ e, SOK X.K B.H0 B.O0 G e σ' H' ∧ FinS X.K X.mg W B.H0 B.O0 G Dd (whileD t F wp m' e), fun _ _ z => z, e, he.same s1, ?_⟩
        dsimp only at qe
        cases eF : F e with
        | nx e2 => rw [eF] at qe; exact fun σ5 H5 h5 => ⟨m, Nat.lt_succ_self _, _, h5.forget wp, qe⟩
        | ct e2 => rw [eF] at qe; exact fun σ5 H5 h5 => ⟨m, Nat.lt_succ_self _, _, h5.forget wp, qe⟩
        | bk e2 => rw [eF] at qe; exact qe
        | rt d => rw [eF] at qe; exact qe
        | ro d => rw [eF] at qe; exact qe
        | rk d => rw [eF] at qe; exact qe
        | exc c n e2 => rw [eF] at qe; exact qe
        | no => rw [eF] at qe; exact qe
end
end DV

namespace DV
open PySem L2 PySem.Spec PyProof.Rows

/-! ### a def and its calls -/
inductive FR where
  | val (d : D) | ol (xs : List D) | od (kvs : List (Key × D)) | exc (c : Str) (n : Int) | no
def FR.R : FR → R D
  | .val d => .ok d
  | .ol xs => .ok (.lst xs)
  | .od xs => .ok (.dct xs)
  | .exc c n => .exc c n
  | .no => .no
def Out.fr : Out → FR
  | .nx _ => .val .non
  | .rt d => .val d
  | .ro xs => .ol xs
  | .rk xs => .od xs
  | .exc c n _ => .exc c n
  | _ => .no
@[simp] theorem FR.R_val (d : D) : (FR.val d).R = .ok d := Eq.trans rfl rfl
@[simp] theorem FR.R_ol (d : List D) : (FR.ol d).R = .ok (.lst d) := Eq.trans rfl rfl
@[simp] theorem FR.R_od (d : List (Key × D)) : (FR.od d).R = .ok (.dct d) := Eq.trans rfl rfl
@[simp] theorem FR.R_exc (c : Str) (n : Int) : (FR.exc c n).R = .exc c n := Eq.trans rfl rfl
def FinF (K : PySem.W.Frag) (mg : Str → Option Value) (O : Addr → Prop) (H : Hp) (Q : VK) (E : XK) : FR → Prop
  | .val d => ∀ v H', Same H H' → RepD K O H' d v → Q v H'
  | .ol xs => ∀ p vs H', Same H H' → H p = none → H' p = some (.lst vs) → RepDs K (fun a => O a ∨ a = p) H' xs vs → Q (.ref p) H'
  | .od xs => ∀ p vs H', Same H H' → H p = none → H' p = some (.dK vs) → RepKs K (fun a => O a ∨ a = p) H' xs vs → Q (.ref p) H'
  | .exc c n => ∀ C dx H', mg c = some (.ref C) → Same H H' → H' dx = some (.xd [(("at" : Str), .int n)]) → E (.ref C) (some dx) H'
  | .no => False
/-- the promise of a def that reckons F -/
def spD (K : PySem.W.Frag) (mg : Str → Option Value) (n : Nat) (F : List D → FR) : Sp := fun vs H Q E => vs.length = n ∧ ∃ O ds, (∀ a, O a → H a ≠ none) ∧ RepDs K O H ds vs ∧ FinF K mg O H Q E (F ds)
def argE (N : Nat) (ds : List D) : Env := ds.map (fun d => some (.d d)) ++ List.replicate (N - ds.length) none
def fnD (N n : Nat) (Fb : Env → Out) : List D → FR := fun ds => if ds.length = n then (Fb (argE N ds)).fr else .no
theorem start_get {N : List Str} {vs : List V} {i : Nat} {v : V} (h : vs[i]? = some v) : (L2.start N vs)[i]? = some (some v) := by
  unfold L2.start
  have hi : i < vs.length := (List.getElem?_eq_some_iff.mp h).1
  rw [List.getElem?_append_left (by simpa using hi), List.getElem?_map, h]; rfl
theorem argE_get {N : Nat} {ds : List D} {i : Nat} {sv : SV} (h : (argE N ds)[i]? = some (some sv)) : ∃ d, ds[i]? = some d ∧ sv = .d d := by
  unfold argE at h
  by_cases hi : i < ds.length
  · rw [List.getElem?_append_left (by simpa using hi), List.getElem?_map, Option.map_eq_some_iff] at h
    obtain ⟨d, e1, e2⟩ := h
    exact ⟨d, e1, by simpa using e2.symm⟩
  · rw [List.getElem?_append_right (by simpa using hi)] at h
    obtain ⟨_, h⟩ := List.getElem?_eq_some_iff.mp h
    simp at h
theorem SOK.start {K : PySem.W.Frag} {N : List Str} {O : Addr → Prop} {H : Hp} {ds : List D} {vs : List V} (tr : ∀ a, O a → H a ≠ none) (r : RepDs K O H ds vs) : SOK K H O [] (argE N.length ds) (L2.start N vs) H := by
  refine ⟨O, ⟨by simp [L2.start, argE, r.length], fun i sv e => ?_, fun i j a su sv e1 _ o1 _ _ _ => ?_, tr⟩, fun _ z => z, Same.refl _, (fun p hp => nomatch hp), fun i sv a e o1 _ => ?_⟩
  · obtain ⟨d, e1, rfl⟩ := argE_get e
    obtain ⟨v, e2, rv⟩ := r.get e1
    exact ⟨v, start_get e2, rv⟩
  · obtain ⟨d, _, rfl⟩ := argE_get e1
    cases o1
  · obtain ⟨d, _, rfl⟩ := argE_get e
    cases o1
section
variable {P : Program} {w : World} {K : PySem.W.Frag} {mg : Str → Option Value} {base : Heap}
/-- what a body's rule is asked for -/
def BodyOk (P : Program) (w : World) (K : PySem.W.Frag) (mg : Str → Option Value) (base : Heap) (N : List Str) (qual : Str) (st : Stmt) (f : Addr) (k : Nat) (gd : Prop) (Fb : Env → Out) : Prop :=
  ∀ (cdv : Value) (A : Around) (outer : List PySem.Env) (s : Shared) (H : Hp) (E : XK) (B : Ent), Room k (A.deeper (envOfC qual (defScope st) s.heap.objs.size f cdv)) → (gd → A.guards = some []) →
    DSs (cxOf (L2.CX P w) P w K mg base N qual (defScope st) f cdv A outer s H E) (fun cls d _ H => E cls d H) B (defBody st) Fb
theorem body_end {N ps : List Str} {qual : Str} {st : Stmt} {f : Addr} {k : Nat} {gd : Prop} {Fb : Env → Out} (hb : BodyOk P w K mg base N qual st f k gd Fb) (cdv : Value) (A : Around) (outer : List PySem.Env) (s : Shared) (H : Hp) (vs : List V) (Q : VK) (E : XK)
    (hr : Room k (A.deeper (envOfC qual (defScope st) s.heap.objs.size f cdv))) (hg : gd → A.guards = some []) (hs : spD K mg ps.length (fnD N.length ps.length Fb) vs H Q E) :
    ∃ t, PSs (cxOf (L2.CX P w) P w K mg base N qual (defScope st) f cdv A outer s H E) (defBody st) t ∧ t { nx := fun _ H' => Q .non H', rt := Q } (L2.start N vs) H := by
  obtain ⟨hl, O, ds, tr, r, q⟩ := hs
  refine ⟨_, hb cdv A outer s H E ⟨H, O, tr⟩ hr hg [], argE N.length ds, SOK.start tr r, ?_⟩
  unfold fnD at q
  rw [if_pos (r.length.trans hl)] at q
  show FinS K mg _ H O [] _ (Fb (argE N.length ds))
  revert q
  cases Fb (argE N.length ds) with
  | nx e =>
    intro q σ' H' h
    obtain ⟨O', _, _, s0, _⟩ := h
    exact q _ _ s0 (by simp [RepD])
  | rt d => exact fun q => q
  | ro d => exact fun q => q
  | rk d => exact fun q => q
  | bk e => exact fun q => q.elim
  | ct e => exact fun q => q.elim
  | exc c n e =>
    intro q C dx σ' H' a h b
    obtain ⟨O', _, _, s0, _⟩ := h
    exact q C dx H' a s0 b
  | no => exact fun q => q
theorem fn_ok {x qual : Str} {st : Stmt} {f : Addr} {fd : FuncData} {N ps : List Str} {k : Nat} {Fb : Env → Out} (F : Fun K x qual st f fd) (S : FnScope N ps (defScope st)) (hb : BodyOk P w K mg base N qual st f k False Fb) :
    FnOk P w K mg base (L2.CX P w) (k + 1) f fd ps (spD K mg ps.length (fnD N.length ps.length Fb)) :=
  F.okX S (fun vs H Q E h => h.1) fun cdv A outer s H vs Q E hr hs => body_end hb cdv A outer s H vs Q E hr (fun z => z.elim) hs
end
section
variable {X : Cx} {W : WX} {B : Ent} {m : Bool} {k n : Nat} {f : Addr} {fd : FuncData} {ps : List Str} {Fn : List D → FR} {x : Str} {p pos : Pos} {e : Expr} {es : List Expr} {ga : Env → R (List D)}
/-- what one knows of a def of the text, to call it -/
structure CallOk (P : Program) (w : World) (K : PySem.W.Frag) (mg : Str → Option Value) (base : Heap) (k n : Nat) (x : Str) (Fn : List D → FR) : Prop where
  ex : ∃ (f : Addr) (fd : FuncData) (ps : List Str), FnOk P w K mg base (L2.CX P w) k f fd ps (spD K mg n Fn) ∧ mg x = some (.ref f) ∧ PySem.W.keepIn K (.ref f) = true ∧ Binds K fd ps []
def eCall (Fn : List D → FR) (ga : Env → R (List D)) : Env → R D := fun s => (ga s).bind fun ds => (Fn ds).R
theorem pe_callD (C : CallOk X.prog X.w X.K X.mg X.base k n x Fn) (hr : Room k X.A) (tk : Takes X W) {t : TA} (ha : PA X (e :: es) t) (hg : Gl X x) (hdb : (x == ("__debug__" : Str)) = false := by decide) (he : starEach (e :: es) X.env = (false, eval e X.env) :: starEach es X.env := by rfl) (hpl : (backTo pos (starEach es X.env)).any (·.1) = false := by rfl) :
    PE X (.Call (.Name x p) (e :: es) [] pos) (tCallS (spD X.K X.mg n Fn) (WE W) t) := by
  obtain ⟨f, fd, ps, F, hm, hk, hb⟩ := C.ex
  exact pe_callS F hr hg hm hk hb (fun σ => passAt tk σ) ha hdb he hpl
theorem fn_len {n N : Nat} {Fb : Env → Out} {ds : List D} (h : fnD N n Fb ds ≠ .no) : ds.length = n := by
  unfold fnD at h
  split at h
  · assumption
  · exact absurd rfl h
/-- a function of n arguments -/
def Arity (n : Nat) (Fn : List D → FR) : Prop := ∀ ds, Fn ds ≠ .no → ds.length = n
theorem fnD_arity {n N : Nat} {Fb : Env → Out} : Arity n (fnD N n Fb) := fun ds h => fn_len h
theorem de_call (C : CallOk X.prog X.w X.K X.mg X.base k n x Fn) (ar : Arity n Fn) (hr : Room k X.A) (tk : Takes X W) (ha : DA X W false (e :: es) ga) (hg : Gl X x) (hdb : (x == ("__debug__" : Str)) = false := by decide) (he : starEach (e :: es) X.env = (false, eval e X.env) :: starEach es X.env := by rfl) (hpl : (backTo pos (starEach es X.env)).any (·.1) = false := by rfl) :
    DE X W m (.Call (.Name x p) (e :: es) [] pos) (eCall Fn ga) := PE.imp (pe_callD C hr tk ha hg hdb he hpl) fun σ H Q ⟨env, O, rs, q⟩ => by
  refine finA (m1 := false) rs q fun ds vs H1 _ s1 r1 rs1 q1 => ?_
  have r2 := RepMs.ds r1
  have hn : Fn ds ≠ .no := fun z => by rw [z] at q1; exact q1.elim
  refine ⟨r2.length.symm.trans (ar ds hn), O, ds, rs1.trk, r2, ?_⟩
  revert q1
  cases Fn ds with
  | val d => exact fun q1 v H' s r => q1 v H' s (.ofD r)
  | ol xs => exact fun q1 p vs H' s n hp r => q1 _ H' s (.ofD (by
      simp only [RepD]
      exact ⟨p, vs, rfl, rs1.nfree n, hp, r.of_new⟩))
  | od xs => exact fun q1 p vs H' s n hp r => q1 _ H' s (.ofD (by
      simp only [RepD]
      exact ⟨p, vs, rfl, rs1.nfree n, .inl hp, RepKs.keep Keep.refl (fun _ z => .inl z) _ _ r⟩))
  | exc c n => exact fun q1 C dx H' a s b => q1 C dx H' a s b
  | no => exact fun q1 => q1
/-- a call whose list is one's own from here on -/
def nCall (Fn : List D → FR) (ga : Env → R (List D)) : Env → R (List D) := fun s => (ga s).bind fun ds => match Fn ds with
  | .ol xs => .ok xs
  | .exc c n => .exc c n
  | _ => .no
theorem dn_call (C : CallOk X.prog X.w X.K X.mg X.base k n x Fn) (ar : Arity n Fn) (hr : Room k X.A) (tk : Takes X W) (ha : DA X W false (e :: es) ga) (hg : Gl X x) (hdb : (x == ("__debug__" : Str)) = false := by decide) (he : starEach (e :: es) X.env = (false, eval e X.env) :: starEach es X.env := by rfl) (hpl : (backTo pos (starEach es X.env)).any (·.1) = false := by rfl) :
    DN X W (.Call (.Name x p) (e :: es) [] pos) (nCall Fn ga) := PE.imp (pe_callD C hr tk ha hg hdb he hpl) fun σ H Q ⟨env, O, rs, q⟩ => by
  unfold nCall at q
  refine ⟨env, O, rs, ?_⟩
  revert q
  cases ga env with
  | exc c n => exact fun q => q
  | no => exact fun q => q
  | ok ds =>
    intro q vs H1 s1 r1
    have rs1 := rs.same s1
    have q1 := FinN.same s1 q
    rw [R.bind_ok] at q1
    have r2 := RepMs.ds r1
    have hn : Fn ds ≠ .no := fun z => by rw [z] at q1; exact q1.elim
    refine ⟨r2.length.symm.trans (ar ds hn), O, ds, rs1.trk, r2, ?_⟩
    revert q1
    cases Fn ds with
    | val d => exact fun q1 => q1.elim
    | ol xs => exact fun q1 => q1
    | od xs => exact fun q1 => q1.elim
    | exc c n => exact fun q1 C dx H' a s b => q1 C dx H' a s b
    | no => exact fun q1 => q1
/-- return f(..): what is the callee's own stays one's own -/
def sPar (i j : Nat) (ga : Env → R (List D)) : Env → Out := fun s => match ga s with
  | .ok [x, y] => if i < s.length ∧ j < s.length then .nx ((s.set i (some (.d x))).set j (some (.d y))) else .no
  | .ok _ => .no
  | .exc c n => .exc c n s
  | .no => .no
/-- a, b = e1, e2 -/
theorem ds_par {st : Stmt} {i j : Nat} {es : List Expr} (hp : ∀ t, PA X es t → PS X st (tPar i j t)) (ha : DA X W false es ga) : DS X W B st (sPar i j ga) := fun G => PS.imp (hp _ ha) fun Dd σ H ⟨env, h, q⟩ => by
  have h' := h
  obtain ⟨O, rs, z, s0, g, nn⟩ := h'
  unfold sPar at q
  refine ⟨env, O, rs, ?_⟩
  revert q
  cases ga env with
  | exc c n => exact fun q C dx H1 e1 s1 a => q C dx σ H1 e1 (h.same s1) a
  | no => exact fun q => q.elim
  | ok ds =>
    intro q vs H1 s1 r1
    have rs1 := rs.same s1
    have g1 : ∀ p ∈ G, RepD X.K O H1 p.2 p.1 := fun p hp => (g p hp).same s1
    match ds, q, r1 with
    | [x, y], q, r1 =>
      obtain ⟨v, w, e, rv, rw'⟩ := repMs2 r1
      subst e
      have q : FinS X.K X.mg W B.H0 B.O0 G Dd (if i < env.length ∧ j < env.length then .nx ((env.set i (some (.d x))).set j (some (.d y))) else .no) := q
      by_cases hij : i < env.length ∧ j < env.length
      · rw [if_pos hij] at q
        have rv : RepD X.K O H1 x v := rv
        have rw' : RepD X.K O H1 y w := rw'
        refine ⟨v, w, rfl, q _ _ (SOK.put ((rs1.put rv hij.1).put rw' (by simpa using hij.2)) ((Kept.put (d := x) (v := v) hij.1).trans (Kept.put (d := y) (v := w) (by simpa using hij.2))) z (s0.trans s1) g1 nn)⟩
      · rw [if_neg hij] at q; exact q.elim
    | [], q, _ => exact q.elim
    | [_], q, _ => exact q.elim
    | _ :: _ :: _ :: _, q, _ => exact q.elim
/-- return f(..): what is the callee's own stays one's own -/
def sRetC (Fn : List D → FR) (ga : Env → R (List D)) : Env → Out := fun s => match ga s with
  | .ok ds => (match Fn ds with
    | .val d => .rt d
    | .ol xs => .ro xs
    | .od xs => .rk xs
    | .exc c n => .exc c n s
    | .no => .no)
  | .exc c n => .exc c n s
  | .no => .no
theorem ds_retC {pos' : Pos} (C : CallOk X.prog X.w X.K X.mg X.base k n x Fn) (ar : Arity n Fn) (hr : Room k X.A) (tk : Takes X W) (ha : DA X W false (e :: es) ga) (hg : Gl X x) (hdb : (x == ("__debug__" : Str)) = false := by decide) (he : starEach (e :: es) X.env = (false, eval e X.env) :: starEach es X.env := by rfl) (hpl : (backTo pos (starEach es X.env)).any (·.1) = false := by rfl) :
    DS X W B (.Return (some (.Call (.Name x p) (e :: es) [] pos)) pos') (sRetC Fn ga) := fun G => PS.imp (ps_ret (pe_callD C hr tk ha hg hdb he hpl)) fun Dd σ H ⟨env, h, q⟩ => by
  have h' := h
  obtain ⟨O, rs, z, s0, g, nn⟩ := h'
  unfold sRetC at q
  refine ⟨env, O, rs, ?_⟩
  revert q
  cases ga env with
  | exc c n => exact fun q C dx H1 e1 s1 a => q C dx σ H1 e1 (h.same s1) a
  | no => exact fun q => q.elim
  | ok ds =>
    intro q vs H1 s1 r1
    have rs1 := rs.same s1
    have h1 := h.same s1
    dsimp only at q
    have r2 := RepMs.ds r1
    have hn : Fn ds ≠ .no := fun z => by rw [z] at q; exact q.elim
    refine ⟨r2.length.symm.trans (ar ds hn), O, ds, rs1.trk, r2, ?_⟩
    have s01 := s0.trans s1
    revert q
    cases Fn ds with
    | val d => exact fun q v H' s r => q v H' (s01.trans s) (RepD.keep Keep.refl z _ _ r)
    | ol xs => exact fun q p vs H' s n hp r => q p vs H' (s01.trans s) (Same.back s01 n) hp (RepDs.keep Keep.refl (fun b hb => hb.elim (fun hb => .inl (z b hb)) .inr) _ _ r)
    | od xs => exact fun q p vs H' s n hp r => q p vs H' (s01.trans s) (Same.back s01 n) hp (RepKs.keep Keep.refl (fun b hb => hb.elim (fun hb => .inl (z b hb)) .inr) _ _ r)
    | exc c n => exact fun q C dx H' a s b => q C dx σ H' a (h1.same s) b
    | no => exact fun q => q
end

/-! ### one's own list changes -/
theorem SOK.mut {K : PySem.W.Frag} {H0 : Hp} {O0 : Addr → Prop} {G : List (V × D)} {env : Env} {σ : L2.St} {H : Hp} {i : Nat} {xs xs' : List D} {O : Addr → Prop} (r : RepS K O H σ env) (z : ∀ a, O0 a → O a) (s0 : Same H0 H) (g : ∀ p ∈ G, RepD K O H p.2 p.1)
    (n : ∀ (i : Nat) sv a, env[i]? = some (some sv) → sv.own = true → σ[i]? = some (some (.ref a)) → H0 a = none) {a : Addr} {vs vs' : List V} (ei : env[i]? = some (some (.ol xs))) (eσ : σ[i]? = some (some (.ref a))) (ho : O a) (ha : H a = some (.lst vs)) (h' : RepDs K O H xs' vs') :
    SOK K H0 O0 G (env.set i (some (.ol xs'))) σ (upd H a (.lst vs')) := by
  have hi : i < env.length := (List.getElem?_eq_some_iff.mp ei).1
  have kp : Keep O H (upd H a (.lst vs')) := Keep.upd ho (by rw [ha]; exact True.intro)
  refine ⟨O, ⟨by simp [r.len], fun j sv e => ?_, fun j k b su sv e1 e2 o1 o2 h1 h2 => ?_, fun b hb => ?_⟩, z, DV.Same.put s0 (n i _ a ei rfl eσ), fun p hp => RepD.keep kp (fun _ z => z) _ _ (g p hp), fun j sv b e o1 h1 => ?_⟩
  · by_cases hj : i = j
    · subst hj
      rw [List.getElem?_set_self hi] at e
      cases e
      exact ⟨_, eσ, a, vs', rfl, ho, upd_same, RepDs.keep kp (fun _ z => z) _ _ h'⟩
    · rw [List.getElem?_set_ne hj] at e
      obtain ⟨v, e1, rv⟩ := r.get j sv e
      refine ⟨v, e1, ?_⟩
      cases sv with
      | d x => exact RepD.keep kp (fun _ z => z) _ _ rv
      | ol ys =>
        obtain ⟨b, us, eb, hb, h1, h2⟩ := rv
        subst eb
        have ne : b ≠ a := fun q => hj (r.inj i j a _ _ ei e rfl rfl eσ (by rw [e1, q]))
        exact ⟨b, us, rfl, hb, by rw [upd_ne ne]; exact h1, RepDs.keep kp (fun _ z => z) _ _ h2⟩
      | od ys =>
        obtain ⟨b, us, eb, hb, h1, h2⟩ := rv
        subst eb
        have ne : b ≠ a := fun q => hj (r.inj i j a _ _ ei e rfl rfl eσ (by rw [e1, q]))
        exact ⟨b, us, rfl, hb, by rw [upd_ne ne]; exact h1, RepKs.keep kp (fun _ z => z) _ _ h2⟩
  · have f : ∀ (j : Nat) sv, (env.set i (some (.ol xs')))[j]? = some (some sv) → sv.own = true → ∃ su, env[j]? = some (some su) ∧ su.own = true := fun j sv e o => by
      by_cases hj : i = j
      · subst hj; exact ⟨_, ei, rfl⟩
      · rw [List.getElem?_set_ne hj] at e; exact ⟨sv, e, o⟩
    obtain ⟨x1, e1', p1⟩ := f j su e1 o1
    obtain ⟨x2, e2', p2⟩ := f k sv e2 o2
    exact r.inj j k b x1 x2 e1' e2' p1 p2 h1 h2
  · by_cases hb' : b = a
    · subst hb'; rw [upd_same]; simp
    · rw [upd_ne hb']; exact r.trk b hb
  · by_cases hj : i = j
    · subst hj
      exact n i _ b ei rfl h1
    · rw [List.getElem?_set_ne hj] at e; exact n j sv b e o1 h1
def sApp (i : Nat) (f : Env → R D) : Env → Out := fun s => match s[i]? with
  | some (some (.ol xs)) => (match f s with
    | .ok d => if xs.length < 1000000 then .nx (s.set i (some (.ol (xs ++ [d])))) else .no
    | .exc c n => .exc c n s
    | .no => .no)
  | _ => .no
def sExt (i : Nat) (f : Env → R D) : Env → Out := fun s => match s[i]? with
  | some (some (.ol xs)) => (match f s with
    | .ok (.lst ys) => if xs.length + ys.length ≤ 1000000 then .nx (s.set i (some (.ol (xs ++ ys)))) else .no
    | .ok _ => .no
    | .exc c n => .exc c n s
    | .no => .no)
  | _ => .no
section
variable {X : Cx} {W : WX} {B : Ent} {i : Nat} {x : Str} {p apos cpos pos : Pos} {e : Expr} {f : Env → R D}
theorem ds_append (hp : ∀ t, PA X [e] t → PS X (.Expr (.Call (.Attribute (.Name x p) "append" apos) [e] [] cpos) pos) (tDrop (tBM X.K "list" rAppend (tVar i) t)))
    (he : DE X W false e f) (hs : starEach [e] X.env = (false, eval e X.env) :: starEach [] X.env := by rfl) :
    DS X W B (.Expr (.Call (.Attribute (.Name x p) "append" apos) [e] [] cpos) pos) (sApp i f) := fun G => PS.imp (hp _ (pa_cons he pa_nil hs)) fun Dd σ H ⟨env, h, q⟩ => by
  have h0 := h
  obtain ⟨O, r, z, s0, g, n⟩ := h
  unfold sApp at q
  split at q
  · rename_i xs ei
    obtain ⟨v, eσ, a, vs, ev, ho, ha, rx⟩ := r.get i _ ei
    subst ev
    refine ⟨_, eσ, .inl ⟨rfl, vs, .of ha⟩, ?_⟩
    refine sE (k := fun d => if xs.length < 1000000 then .nx (env.set i (some (.ol (xs ++ [d])))) else .no) h0 q fun d v H1 O1 _ s1 rv rs z1 s01 g1 n1 q1 => ?_
    obtain ⟨v2, eσ2, a2, vs2, ev2, ho2, ha2, rx2⟩ := rs.get i _ ei
    rw [eσ] at eσ2
    cases eσ2
    cases ev2
    split at q1
    · rename_i hz
      refine ⟨a, vs2, v, rfl, rfl, ha2, by rw [← rx2.length]; exact lim_lt hz, q1 _ _ (SOK.mut rs z1 s01 g1 n1 ei eσ ho2 ha2 (rx2.append (.cons rv .nil)))⟩
    · exact q1.elim
  · exact q.elim
theorem ds_extend (hp : ∀ t, PA X [e] t → PS X (.Expr (.Call (.Attribute (.Name x p) "extend" apos) [e] [] cpos) pos) (tDrop (tBM X.K "list" rExtend (tVar i) t)))
    (he : DE X W true e f) (hs : starEach [e] X.env = (false, eval e X.env) :: starEach [] X.env := by rfl) :
    DS X W B (.Expr (.Call (.Attribute (.Name x p) "extend" apos) [e] [] cpos) pos) (sExt i f) := fun G => PS.imp (hp _ (pa_cons he pa_nil hs)) fun Dd σ H ⟨env, h, q⟩ => by
  have h0 := h
  obtain ⟨O, r, z, s0, g, n⟩ := h
  unfold sExt at q
  split at q
  · rename_i xs ei
    obtain ⟨v, eσ, a, vs, ev, ho, ha, rx⟩ := r.get i _ ei
    subst ev
    refine ⟨_, eσ, .inl ⟨rfl, vs, .of ha⟩, ?_⟩
    refine sE (Dd := Dd) (k := fun d => match d with | .lst ys => if xs.length + ys.length ≤ 1000000 then .nx (env.set i (some (.ol (xs ++ ys)))) else .no | _ => .no) h0 ?_ fun d v H1 O1 _ s1 rv rs z1 s01 g1 n1 q1 => ?_
    · revert q
      cases f env with
      | ok d => cases d <;> exact fun q => q
      | exc c k => exact fun q => q
      | no => exact fun q => q
    obtain ⟨v2, eσ2, a2, vs2, ev2, ho2, ha2, rx2⟩ := rs.get i _ ei
    rw [eσ] at eσ2
    cases eσ2
    cases ev2
    split at q1
    · obtain ⟨b, us, eb, hb, rb⟩ := repLst rv
      subst eb
      split at q1
      · rename_i hz
        refine ⟨a, b, vs2, us, rfl, rfl, ha2, hb, by rw [← rx2.length, ← rb.length]; exact lim_le hz, q1 _ _ (SOK.mut rs z1 s01 g1 n1 ei eσ ho2 ha2 (rx2.append rb))⟩
      · exact q1.elim
    · exact q1.elim
  · exact q.elim
end
end DV

namespace DV
open PySem L2 PySem.Spec PyProof.Rows

/-! ### == and repr of data -/
mutual
def D.pd : D → PyData
  | .non => .none
  | .bl b => .bool b
  | .int i => .int i
  | .str x => .str x
  | .lst xs => .list (D.pds xs)
  | .tup xs => .tuple (D.pds xs)
  | .dct _ => .none
  | .scr _ => .none
def D.pds : List D → List PyData
  | [] => []
  | x :: xs => x.pd :: D.pds xs
end
mutual
/-- no dicts -/
def D.plain : D → Bool
  | .non | .bl _ | .int _ | .str _ => true
  | .lst xs => D.plains xs
  | .tup xs => D.plains xs
  | .dct _ => false
  | .scr _ => false
def D.plains : List D → Bool
  | [] => true
  | x :: xs => x.plain && D.plains xs
end
section
variable {K : PySem.W.Frag} {O : Addr → Prop} {H : Hp}
mutual
theorem RepD.dp : ∀ (d : D) (v : V), d.plain = true → RepD K O H d v → Dp K H v d.pd
  | .non, v, _, h => by simp only [RepD] at h; subst h; simp only [D.pd]; exact .non
  | .bl b, v, _, h => by simp only [RepD] at h; subst h; simp only [D.pd]; exact .bl b
  | .int i, v, _, h => by simp only [RepD] at h; subst h; simp only [D.pd]; exact .int i
  | .str x, v, _, h => by simp only [RepD] at h; subst h; simp only [D.pd]; exact .str x
  | .lst xs, v, hp, h => by
    simp only [RepD] at h
    obtain ⟨a, vs, e, _, hs, hr⟩ := h
    subst e
    simp only [D.pd]
    simp only [D.plain] at hp
    exact .lst (.of hs) (RepDs.dp xs vs hp hr)
  | .tup xs, v, hp, h => by
    simp only [RepD] at h
    obtain ⟨a, vs, e, hs, hr⟩ := h
    subst e
    simp only [D.pd]
    simp only [D.plain] at hp
    exact .tup hs (RepDs.dp xs vs hp hr)
  | .dct _, v, hp, h => by simp [D.plain] at hp
  | .scr _, v, hp, h => by simp [D.plain] at hp
theorem RepDs.dp : ∀ (ds : List D) (vs : List V), D.plains ds = true → RepDs K O H ds vs → DpAll K H vs (D.pds ds)
  | [], vs, _, h => by simp only [RepDs] at h; subst h; simp only [D.pds]; exact .nil
  | x :: xs, vs, hp, h => by
    simp only [RepDs] at h
    obtain ⟨v, r, e, h1, h2⟩ := h
    subst e
    simp only [D.plains, Bool.and_eq_true] at hp
    simp only [D.pds]
    exact .cons (RepD.dp x v hp.1 h1) (RepDs.dp xs r hp.2 h2)
end
theorem RepM.dp {m : Bool} {d : D} {v : V} (hp : d.plain = true) (h : RepM K O H m d v) : Dp K H v d.pd := by
  cases m
  · exact RepD.dp d v hp h
  · have h : RepTop K O H d v := h
    cases d <;> simp only [RepTop] at h <;> try exact RepD.dp _ v hp h
    · obtain ⟨a, vs, e, hs, hr⟩ := h
      subst e
      simp only [D.pd]
      simp only [D.plain] at hp
      exact .lst (.of hs) (RepDs.dp _ vs hp hr)
    · simp [D.plain] at hp
end
/-! == != in, not in: of data without dicts, any texts (KE.DataEq) -/
def eqvD (x y : D) : Bool := PyData.eqv x.pd y.pd
def eqOk (x y : D) : Prop := x.plain = true ∧ y.plain = true ∧ min x.pd.depth y.pd.depth ≤ 60
instance (x y : D) : Decidable (eqOk x y) := by unfold eqOk; infer_instance
def eqD (x y : D) : R D := if eqOk x y then .ok (.bl (eqvD x y)) else .no
def neD (x y : D) : R D := if eqOk x y then .ok (.bl (!eqvD x y)) else .no
def inOk (x : D) (ys : List D) : Prop := x.plain = true ∧ D.plains ys = true ∧ min (PyData.depthAll (D.pds ys)) x.pd.depth ≤ 60
instance (x : D) (ys : List D) : Decidable (inOk x ys) := by unfold inOk; infer_instance
def isIn (x : D) (ys : List D) : Bool := ys.any fun y => eqvD y x
def inD : D → D → R D
  | x, .lst ys => if inOk x ys then .ok (.bl (isIn x ys)) else .no
  | x, .tup ys => if inOk x ys then .ok (.bl (isIn x ys)) else .no
  | _, _ => .no
def ninD : D → D → R D
  | x, .lst ys => if inOk x ys then .ok (.bl (!isIn x ys)) else .no
  | x, .tup ys => if inOk x ys then .ok (.bl (!isIn x ys)) else .no
  | _, _ => .no
theorem eqD_nx : ∀ x y c n, eqD x y ≠ .exc c n := fun x y c n => by unfold eqD; split <;> simp
theorem neD_nx : ∀ x y c n, neD x y ≠ .exc c n := fun x y c n => by unfold neD; split <;> simp
theorem inD_nx : ∀ x y c n, inD x y ≠ .exc c n := fun x y c n => by cases y <;> simp only [inD] <;> (try split) <;> simp
theorem ninD_nx : ∀ x y c n, ninD x y ≠ .exc c n := fun x y c n => by cases y <;> simp only [ninD] <;> (try split) <;> simp
mutual
theorem D.pd_plain : ∀ d : D, d.plain = true → d.pd.plain = true
  | .non, _ => rfl
  | .bl _, _ => rfl
  | .int _, _ => rfl
  | .str _, _ => rfl
  | .lst xs, h => by simp only [D.pd, PyData.plain]; exact D.pds_plain xs (by simpa [D.plain] using h)
  | .tup xs, h => by simp only [D.pd, PyData.plain]; exact D.pds_plain xs (by simpa [D.plain] using h)
  | .dct _, h => by simp [D.plain] at h
  | .scr _, h => by simp [D.plain] at h
theorem D.pds_plain : ∀ d : List D, D.plains d = true → PyData.plainAll (D.pds d) = true
  | [], _ => rfl
  | x :: xs, h => by
    simp only [D.plains, Bool.and_eq_true] at h
    simp only [D.pds, PyData.plainAll, D.pd_plain x h.1, D.pds_plain xs h.2, Bool.and_self]
end
theorem D.pds_map : ∀ ys : List D, D.pds ys = ys.map D.pd
  | [] => rfl
  | x :: xs => by simp only [D.pds, List.map_cons, D.pds_map xs]
def rEqP (K : PySem.W.Frag) : R2 := fun x y H Q => ∃ d e, Dp K H x d ∧ Dp K H y e ∧ d.plain = true ∧ e.plain = true ∧ min d.depth e.depth ≤ 60 ∧ Q (.bl (PyData.eqv d e)) H
def rNeP (K : PySem.W.Frag) : R2 := fun x y H Q => ∃ d e, Dp K H x d ∧ Dp K H y e ∧ d.plain = true ∧ e.plain = true ∧ min d.depth e.depth ≤ 60 ∧ Q (.bl (!PyData.eqv d e)) H
def rInP (K : PySem.W.Frag) : R2 := fun x y H Q => ∃ d ys, Dp K H x d ∧ (Dp K H y (.list ys) ∨ Dp K H y (.tuple ys)) ∧ d.plain = true ∧ PyData.plainAll ys = true ∧ min (PyData.depthAll ys) d.depth ≤ 60 ∧ Q (.bl (ys.any fun e => PyData.eqv e d)) H
def rNinP (K : PySem.W.Frag) : R2 := fun x y H Q => ∃ d ys, Dp K H x d ∧ (Dp K H y (.list ys) ∨ Dp K H y (.tuple ys)) ∧ d.plain = true ∧ PyData.plainAll ys = true ∧ min (PyData.depthAll ys) d.depth ≤ 60 ∧ Q (.bl (!ys.any fun e => PyData.eqv e d)) H
section
variable {X : Cx}
theorem op_eqP (hu : X.A.units + 64 < cLine) : OpR X (compareOp .Eq) (rEqP X.K) := by
  intro pins s σ H x y v u Q I rx ry h
  obtain ⟨d, e, hd, he, sd, se, hm, q⟩ := h
  obtain ⟨as, r1⟩ := Dp.reads I d x v hd rx
  obtain ⟨bs, r2⟩ := Dp.reads I e y u he ry
  exact SeqAt.eq_plain r1 r2 sd se (by omega) ⟨.bl _, H, I, rfl, q⟩
theorem op_neP (hu : X.A.units + 64 < cLine) : OpR X (compareOp .NotEq) (rNeP X.K) := by
  intro pins s σ H x y v u Q I rx ry h
  obtain ⟨d, e, hd, he, sd, se, hm, q⟩ := h
  obtain ⟨as, r1⟩ := Dp.reads I d x v hd rx
  obtain ⟨bs, r2⟩ := Dp.reads I e y u he ry
  exact SeqAt.ne_plain r1 r2 sd se (by omega) ⟨.bl _, H, I, rfl, q⟩
theorem op_inP (hu : X.A.units + 64 < cLine) : OpR X (compareOp .In) (rInP X.K) := by
  intro pins s σ H x y v u Q I rx ry h
  obtain ⟨d, ys, hd, he, sd, se, hm, q⟩ := h
  obtain ⟨as, r1⟩ := Dp.reads I d x v hd rx
  rcases he with he | he
  · obtain ⟨bs, r2⟩ := Dp.reads I _ y u he ry
    exact SeqAt.in_list_data r2 r1 se sd (by omega) ⟨.bl _, H, I, rfl, q⟩
  · obtain ⟨bs, r2⟩ := Dp.reads I _ y u he ry
    exact SeqAt.in_tuple_data r2 r1 se sd (by omega) ⟨.bl _, H, I, rfl, q⟩
theorem op_ninP (hu : X.A.units + 64 < cLine) : OpR X (compareOp .NotIn) (rNinP X.K) := by
  intro pins s σ H x y v u Q I rx ry h
  obtain ⟨d, ys, hd, he, sd, se, hm, q⟩ := h
  obtain ⟨as, r1⟩ := Dp.reads I d x v hd rx
  rcases he with he | he
  · obtain ⟨bs, r2⟩ := Dp.reads I _ y u he ry
    exact SeqAt.notIn_list_data r2 r1 se sd (by omega) ⟨.bl _, H, I, rfl, q⟩
  · obtain ⟨bs, r2⟩ := Dp.reads I _ y u he ry
    exact SeqAt.notIn_tuple_data r2 r1 se sd (by omega) ⟨.bl _, H, I, rfl, q⟩
end
theorem o2_eq {K : PySem.W.Frag} : Op2 K (rEqP K) eqD := fun mg O m σ env H Q x y v w r hx hy q => by
  unfold eqD at q
  split at q
  · rename_i h
    exact ⟨_, _, hx.dp h.1, hy.dp h.2.1, D.pd_plain _ h.1, D.pd_plain _ h.2.1, h.2.2, q.val (by simp [RepD, eqvD])⟩
  · exact q.elim
theorem o2_ne {K : PySem.W.Frag} : Op2 K (rNeP K) neD := fun mg O m σ env H Q x y v w r hx hy q => by
  unfold neD at q
  split at q
  · rename_i h
    exact ⟨_, _, hx.dp h.1, hy.dp h.2.1, D.pd_plain _ h.1, D.pd_plain _ h.2.1, h.2.2, q.val (by simp [RepD, eqvD])⟩
  · exact q.elim
theorem isIn_pd (x : D) (ys : List D) : ((D.pds ys).any fun e => PyData.eqv e x.pd) = isIn x ys := by
  rw [D.pds_map, List.any_map]; rfl
theorem o2_in {K : PySem.W.Frag} : Op2 K (rInP K) inD := fun mg O m σ env H Q x y v w r hx hy q => by
  cases y <;> simp only [inD] at q <;> try exact q.elim
  · rename_i ys
    split at q
    · rename_i h
      exact ⟨_, D.pds ys, hx.dp h.1, .inl (hy.dp (d := .lst ys) (by simpa [D.plain] using h.2.1)), D.pd_plain _ h.1, D.pds_plain _ h.2.1, h.2.2, by rw [isIn_pd]; exact q.val (by simp [RepD, eqvD])⟩
    · exact q.elim
  · rename_i ys
    split at q
    · rename_i h
      exact ⟨_, D.pds ys, hx.dp h.1, .inr (hy.dp (d := .tup ys) (by simpa [D.plain] using h.2.1)), D.pd_plain _ h.1, D.pds_plain _ h.2.1, h.2.2, by rw [isIn_pd]; exact q.val (by simp [RepD, eqvD])⟩
    · exact q.elim
theorem o2_nin {K : PySem.W.Frag} : Op2 K (rNinP K) ninD := fun mg O m σ env H Q x y v w r hx hy q => by
  cases y <;> simp only [ninD] at q <;> try exact q.elim
  · rename_i ys
    split at q
    · rename_i h
      exact ⟨_, D.pds ys, hx.dp h.1, .inl (hy.dp (d := .lst ys) (by simpa [D.plain] using h.2.1)), D.pd_plain _ h.1, D.pds_plain _ h.2.1, h.2.2, by rw [isIn_pd]; exact q.val (by simp [RepD, eqvD])⟩
    · exact q.elim
  · rename_i ys
    split at q
    · rename_i h
      exact ⟨_, D.pds ys, hx.dp h.1, .inr (hy.dp (d := .tup ys) (by simpa [D.plain] using h.2.1)), D.pd_plain _ h.1, D.pds_plain _ h.2.1, h.2.2, by rw [isIn_pd]; exact q.val (by simp [RepD, eqvD])⟩
    · exact q.elim
section
variable {X : Cx} {W : WX} {m : Bool} {a b : Expr} {f g : Env → R D} {pos p : Pos} {k : Nat} {e : Expr} {ga : Env → R (List D)}
theorem de_eq (hr : Room k X.A) (ha : DE X W true a f) (hb : DE X W true b g) : DE X W m (.Compare a [.Eq] [b] pos) (e2 eqD f g) := de_cmp (op_eqP hr.units) o2_eq eqD_nx (nomark _) ha hb
theorem de_ne (hr : Room k X.A) (ha : DE X W true a f) (hb : DE X W true b g) : DE X W m (.Compare a [.NotEq] [b] pos) (e2 neD f g) := de_cmp (op_neP hr.units) o2_ne neD_nx (nomark _) ha hb
theorem de_in (hr : Room k X.A) (ha : DE X W true a f) (hb : DE X W true b g) (hm : behindInMarks .In b = false := by with_unfolding_all rfl) : DE X W m (.Compare a [.In] [b] pos) (e2 inD f g) := de_cmp (op_inP hr.units) o2_in inD_nx hm ha hb
theorem de_nin (hr : Room k X.A) (ha : DE X W true a f) (hb : DE X W true b g) (hm : behindInMarks .NotIn b = false := by with_unfolding_all rfl) : DE X W m (.Compare a [.NotIn] [b] pos) (e2 ninD f g) := de_cmp (op_ninP hr.units) o2_nin ninD_nx hm ha hb
/-- repr -/
def rRepr (K : PySem.W.Frag) : List V → Hp → VK → Prop := fun xs H Q => ∃ x d, xs = [x] ∧ Dp K H x d ∧ d.showable = true ∧ d.hasDict = false ∧ d.depth ≤ 60 ∧ d.shown.length ≤ sizeLine ∧ Q (.str d.shown) H
theorem call_repr (hr : Room k X.A) (hg : X.A.guards = some []) : CallR X (.builtin "repr") (rRepr X.K) := by
  intro pins s σ H xs us Q I r h
  obtain ⟨x, d, rfl, hd, hs, hn, hp, hz, q⟩ := h
  obtain ⟨u, rfl, ru⟩ := vals1 r
  have go : ∀ a : Addr, u = .ref a → wpAny (model X.prog X.w) X.A (call (.builtin "repr") [u]) (EP X pins σ Q) X.xe s := fun a e => by
    subst e
    obtain ⟨as, rd⟩ := Dp.reads I d x _ hd ru
    refine repr_of_reads' rd hs (PyData.noDict_hsm hn) hg (by have := hr.units; omega) (fun _ _ e => e) (fun h' u tk hk => ?_) hz
    exact ⟨.str d.shown, H, I.kept (t' := tk) hk, ⟨u, rfl⟩, q⟩
  cases hd with
  | non =>
    obtain rfl : u = Value.none := ru
    exact PySem.P.repr_of_none ⟨.str _, H, I.tok _, ⟨_, rfl⟩, q⟩
  | bl b =>
    obtain rfl : u = Value.bool b := ru
    exact PySem.P.repr_of_bool ⟨.str _, H, I.tok _, ⟨_, rfl⟩, q⟩
  | int i =>
    obtain ⟨t, rfl⟩ := ru
    exact PySem.P.repr_of_int (of_decide_eq_true hs) ⟨.str _, H, I.tok _, ⟨_, rfl⟩, q⟩
  | str z =>
    obtain ⟨t, rfl⟩ := ru
    exact PySem.P.repr_of_str ⟨.str _, H, I.tok _, ⟨_, rfl⟩, q⟩ hz
  | @lst a _ _ _ _ => exact go a ru
  | @tup a _ _ _ _ => exact go a ru
def reprD : List D → R D
  | [d] => if d.plain = true ∧ d.pd.showable = true ∧ d.pd.hasDict = false ∧ d.pd.depth ≤ 60 ∧ d.pd.shown.length ≤ 1000000 then .ok (.str d.pd.shown) else .no
  | _ => .no
theorem reprD_nx : NX reprD := fun x c n => by unfold reprD; split <;> (try split) <;> simp
theorem on_repr {K : PySem.W.Frag} : OpN K (rRepr K) reprD := fun mg O m σ env H Q ds vs r hx q => by
  unfold reprD at q
  split at q
  · obtain ⟨v, e, h⟩ := repMs1 hx
    split at q
    · rename_i hz
      exact ⟨v, _, e, h.dp hz.1, hz.2.1, hz.2.2.1, hz.2.2.2.1, lim_le hz.2.2.2.2, q.val (by simp [RepD, eqvD])⟩
    · exact q.elim
  · exact q.elim
theorem de_repr (hm : X.mg "repr" = none) (hr : Room k X.A) (hgd : X.A.guards = some []) (ha : DA X W true [e] ga) (hg : Gl X "repr" := by rfl) (he : starEach [e] X.env = (false, eval e X.env) :: starEach [] X.env := by rfl) : DE X W m (.Call (.Name "repr" p) [e] [] pos) (eB reprD ga) :=
  de_callB (call_repr hr hgd) on_repr reprD_nx hg hm (by decide +kernel) ha (by decide) (by decide) he rfl
end

/-! ### y = [ .. for .. ], as a statement of its own -/
section
variable {X : Cx} {W : WX} {B : Ent} {m : Bool} {el tg iter : Expr} {ifs : List Expr} {scope : Scope} {own : List (Str × Nat)} {pos spos py : Pos} {it : Env → R (List D)} {g : D → Env → R Env} {t : Env → R Bool} {elt : Env → R D} {ts : List Nat} {i : Nat} {y : Str}
theorem t_new' {K : PySem.W.Frag} {mg : Str → Option Value} {H0 : Hp} {O0 : Addr → Prop} {G : List (V × D)} {i : Nat} {f : Env → R (List D)} (Dd : Ends) (σ : L2.St) (H : Hp) (h : tS K mg W H0 O0 G (sSet i (eL f)) Dd σ H) : tAsg (tN K mg W f) (gName i) Dd σ H := tN_of (m := false) σ H _ (t_set Dd σ H h)
theorem ps_lcD (hc : X.calm = true) (hN : X.N.Nodup) (hy : X.N[i]? = some y) (hyl : X.env.scope.names.lookup y = some .local) (hsw : swapsWith (.ListComp el [⟨tg, iter, ifs, 0⟩] scope pos) (some (.Name y py)) spos.line X.env = pure true) (hi : DI X W m tg iter it) (ok : BlkOk X.N X.env.scope scope own)
    (hg : ∀ (s : Shared) (H : Hp) (C : Addr) (cl : List (Str × Addr)) (fp : List Addr), DG (X.blk s H scope (compEnvC scope cl C X.env) fp) tg ts g) (ht : ∀ (s : Shared) (H : Hp) (C : Addr) (cl : List (Str × Addr)) (fp : List Addr), DTs (X.blk s H scope (compEnvC scope cl C X.env) fp) W0 ifs t)
    (he : ∀ (s : Shared) (H : Hp) (C : Addr) (cl : List (Str × Addr)) (fp : List Addr), DE (X.blk s H scope (compEnvC scope cl C X.env) fp) W0 false el elt) (hto : ∀ j ∈ ts, j ∈ own.map (·.2)) (hs : ∀ x, foldedSetIterable iter X.env x = pure x := by intro _; rfl) {os : List Nat} (hos : own.map (·.2) = os := by rfl) :
    PS X (.Assign [.Name y py] (.ListComp el [⟨tg, iter, ifs, 0⟩] scope pos) spos) (tAsg (tN X.K X.mg W (nLc it g t elt os)) (gName i)) := hos ▸
  PS.imp (ps_setLc (wi := tI X.K X.mg W m it) (g := tG X.K ts g) (tt := tT X.K X.mg W0 t) (te := tD X.K X.mg W0 false elt) hc hN hy hyl hsw hi ok hg ht he hs) fun D σ H h => lc_tN hto σ H _ h
theorem ds_setLc {f : Env → R (List D)} {st : Stmt} (h : PS X st (tAsg (tN X.K X.mg W f) (gName i))) : DS X W B st (sSet i (eL f)) := fun G => PS.imp h t_new'
theorem ds_newLc {f : Env → R (List D)} {st : Stmt} (h : PS X st (tAsg (tN X.K X.mg W f) (gName i))) : DS X W B st (sNew i f) := fun G => PS.imp h t_new
end

/-! ### sorted, max, min of ints; list(..) -/
def sortI (ns : List Int) : List Int := ns.mergeSort fun a b => decide (a ≤ b)
theorem sortI_perm (ns : List Int) : (sortI ns).Perm ns := List.mergeSort_perm _ _
theorem sortI_sorted (ns : List Int) : (sortI ns).Pairwise (· ≤ ·) := by
  have h := List.pairwise_mergeSort (le := fun a b : Int => decide (a ≤ b)) (fun a b c => by simpa using Int.le_trans) (fun a b => by simpa using Int.le_total a b) ns
  exact h.imp (by simp)
theorem sortI_eq {ns l : List Int} (hp : l.Perm ns) (hs : l.Pairwise (· ≤ ·)) : l = sortI ns := PySem.W.ksm_same (hp.trans (sortI_perm ns).symm) hs (sortI_sorted ns)
def maxL : Int → List Int → Int := fun a l => l.foldl max a
def minL : Int → List Int → Int := fun a l => l.foldl min a
theorem maxL_mem : ∀ (l : List Int) (a : Int), maxL a l ∈ a :: l ∧ ∀ y ∈ a :: l, y ≤ maxL a l
  | [], a => by simp [maxL]
  | b :: l, a => by
    obtain ⟨h1, h2⟩ := maxL_mem l (max a b)
    have e : maxL a (b :: l) = maxL (max a b) l := rfl
    rw [e]
    refine ⟨?_, fun y hy => ?_⟩
    · rcases List.mem_cons.mp h1 with h | h
      · rw [h]
        by_cases c : a ≤ b
        · rw [Int.max_eq_right c]; simp
        · rw [Int.max_eq_left (by omega)]; simp
      · exact List.mem_cons_of_mem _ (List.mem_cons_of_mem _ h)
    · have h3 := h2 (max a b) List.mem_cons_self
      rcases List.mem_cons.mp hy with rfl | hy
      · omega
      · rcases List.mem_cons.mp hy with rfl | hy
        · omega
        · exact h2 y (List.mem_cons_of_mem _ hy)
theorem minL_mem : ∀ (l : List Int) (a : Int), minL a l ∈ a :: l ∧ ∀ y ∈ a :: l, minL a l ≤ y
  | [], a => by simp [minL]
  | b :: l, a => by
    obtain ⟨h1, h2⟩ := minL_mem l (min a b)
    have e : minL a (b :: l) = minL (min a b) l := rfl
    rw [e]
    refine ⟨?_, fun y hy => ?_⟩
    · rcases List.mem_cons.mp h1 with h | h
      · rw [h]
        by_cases c : a ≤ b
        · rw [Int.min_eq_left c]; simp
        · rw [Int.min_eq_right (by omega)]; simp
      · exact List.mem_cons_of_mem _ (List.mem_cons_of_mem _ h)
    · have h3 := h2 (min a b) List.mem_cons_self
      rcases List.mem_cons.mp hy with rfl | hy
      · omega
      · rcases List.mem_cons.mp hy with rfl | hy
        · omega
        · exact h2 y (List.mem_cons_of_mem _ hy)
def max1D : List D → R D
  | [.lst xs] => match ints? xs with
    | some (n :: ns) => .ok (.int (maxL n ns))
    | _ => .no
  | _ => .no
def min1D : List D → R D
  | [.lst xs] => match ints? xs with
    | some (n :: ns) => .ok (.int (minL n ns))
    | _ => .no
  | _ => .no
def sortD : List D → R (List D)
  | [.lst xs] => match ints? xs with
    | some ns => .ok ((sortI ns).map D.int)
    | none => .no
  | _ => .no
def listD : List D → R (List D)
  | [.lst xs] => .ok xs
  | [.tup xs] => .ok xs
  | _ => .no
theorem max1D_nx : NX max1D := fun x c n => by unfold max1D; split <;> (try split) <;> simp
theorem min1D_nx : NX min1D := fun x c n => by unfold min1D; split <;> (try split) <;> simp
/-- a built-in that makes a new list -/
def OpL (K : PySem.W.Frag) (r : List V → Hp → VK → Prop) (k : List D → R (List D)) : Prop := ∀ (mg : Str → Option Value) (O : Addr → Prop) (σ : L2.St) (env : Env) (H : Hp) (Q : VK) (ds : List D) (vs : List V),
  RepS K O H σ env → RepMs K O H true ds vs → FinN K mg W0 O σ H Q (k ds) → r vs H Q
def nB (k : List D → R (List D)) (g : Env → R (List D)) : Env → R (List D) := fun s => (g s).bind k
section
variable {K : PySem.W.Frag}
theorem on_max1 : OpN K (rMax K) max1D := fun mg O m σ env H Q ds vs r hx q => by
  unfold max1D at q
  split at q
  · obtain ⟨v, e, h⟩ := repMs1 hx
    split at q
    · rename_i n ns en
      rw [ints?_eq en] at h
      obtain ⟨a, us, e2, h1, h2⟩ := repLst h
      have := repInts h2
      subst this e2
      refine ⟨a, n :: ns, e, .of h1, by simp, fun k hk hy => ?_⟩
      obtain ⟨p1, p2⟩ := maxL_mem ns n
      have := hy _ p1
      have := p2 _ hk
      obtain rfl : k = maxL n ns := by omega
      exact q.val (by simp [RepD])
    · exact q.elim
  · exact q.elim
theorem on_min1 : OpN K (rMin K) min1D := fun mg O m σ env H Q ds vs r hx q => by
  unfold min1D at q
  split at q
  · obtain ⟨v, e, h⟩ := repMs1 hx
    split at q
    · rename_i n ns en
      rw [ints?_eq en] at h
      obtain ⟨a, us, e2, h1, h2⟩ := repLst h
      have := repInts h2
      subst this e2
      refine ⟨a, n :: ns, e, .of h1, by simp, fun k hk hy => ?_⟩
      obtain ⟨p1, p2⟩ := minL_mem ns n
      have := hy _ p1
      have := p2 _ hk
      obtain rfl : k = minL n ns := by omega
      exact q.val (by simp [RepD])
    · exact q.elim
  · exact q.elim
theorem ol_sort : OpL K (rSortedI K) sortD := fun mg O σ env H Q ds vs r hx q => by
  unfold sortD at q
  split at q
  · obtain ⟨v, e, h⟩ := repMs1 hx
    split at q
    · rename_i ns en
      rw [ints?_eq en] at h
      obtain ⟨a, us, e2, h1, h2⟩ := repLst h
      have := repInts h2
      subst this e2
      refine ⟨a, ns, e, .of h1, fun l p hp hs n => ?_⟩
      rw [sortI_eq hp hs]
      exact q.put (RepDs.ofInts _) n
    · exact q.elim
  · exact q.elim
theorem ol_list : OpL K (fun xs H Q => ∃ p ys, xs = [.ref p] ∧ (SqL K H p ys ∨ SqT K H p ys) ∧ ∀ l, H l = none → Q (.ref l) (upd H l (.lst ys))) listD := fun mg O σ env H Q ds vs r hx q => by
  unfold listD at q
  split at q
  · obtain ⟨v, e, h⟩ := repMs1 hx
    obtain ⟨a, us, e2, h1, h2⟩ := repLst h
    subst e2
    exact ⟨a, us, e, .inl (.of h1), fun l n => q.put h2 n⟩
  · obtain ⟨v, e, h⟩ := repMs1 hx
    rw [repTup] at h
    obtain ⟨a, us, e2, h1, h2⟩ := h
    subst e2
    exact ⟨a, us, e, .inr h1, fun l n => q.put h2 n⟩
  · exact q.elim
end
theorem sortD_nx : ∀ x c n, sortD x ≠ .exc c n := fun x c n => by unfold sortD; split <;> (try split) <;> simp
theorem listD_nx : ∀ x c n, listD x ≠ .exc c n := fun x c n => by unfold listD; split <;> simp
theorem FinN.w0 {K : PySem.W.Frag} {mg : Str → Option Value} {W : WX} {O : Addr → Prop} {σ : L2.St} {H : Hp} {Q : VK} {r : R (List D)} (h : ∀ c n, r ≠ .exc c n) (q : FinN K mg W O σ H Q r) : FinN K mg W0 O σ H Q r := by
  cases r with
  | ok d => exact q
  | exc c n => exact absurd rfl (h c n)
  | no => exact q
section
variable {X : Cx} {W : WX} {m : Bool} {e : Expr} {es : List Expr} {g : Env → R (List D)} {pos p : Pos} {x : Str} {id T : String} {r : List V → Hp → VK → Prop} {k : List D → R (List D)}
theorem finAN {K : PySem.W.Frag} {mg : Str → Option Value} {O : Addr → Prop} {H : Hp} {σ : L2.St} {env : Env} {Q : VK} {m1 : Bool} (r : RepS K O H σ env) (q : FinN K mg W O σ H Q ((g env).bind k)) {Q1 : List V → Hp → Prop}
    (hk : ∀ ds vs H1, g env = .ok ds → Same H H1 → RepMs K O H1 m1 ds vs → RepS K O H1 σ env → FinN K mg W O σ H1 Q (k ds) → Q1 vs H1) : tAr K mg W m1 g σ H Q1 := by
  refine ⟨env, O, r, ?_⟩
  revert q hk
  cases g env with
  | ok d => exact fun q hk v H1 s z => hk d v H1 rfl s z (r.same s) (FinN.same s q)
  | exc c n => exact fun q hk => q
  | no => exact fun q hk => q
theorem dn_callB (hc : CallR X (.builtin id) r) (hk : OpL X.K r k) (nx : ∀ x c n, k x ≠ .exc c n) (hg : Gl X x) (hm : X.mg x = none) (hv : bootBuiltins x = some (.builtin id)) (ha : DA X W true (e :: es) g) (hn : x ≠ "__name__" := by decide) (hdb : (x == ("__debug__" : Str)) = false := by decide)
    (he : starEach (e :: es) X.env = (false, eval e X.env) :: starEach es X.env := by rfl) (hpl : (backTo pos (starEach es X.env)).any (·.1) = false := by rfl) : DN X W (.Call (.Name x p) (e :: es) [] pos) (nB k g) :=
  PE.imp (pe_callB hc hg hm hv ha hn hdb he hpl) fun σ H Q ⟨env, O, rs, q⟩ => finAN rs q fun ds vs H1 _ s1 r1 rs1 q1 => hk X.mg O σ env H1 Q ds vs rs1 r1 (q1.w0 (nx ds))
theorem dn_callTy (hc : CallR X (.type T) r) (hk : OpL X.K r k) (nx : ∀ x c n, k x ≠ .exc c n) (hg : Gl X x) (hm : X.mg x = none) (hv : bootBuiltins x = some (.type T)) (ha : DA X W true (e :: es) g) (hn : x ≠ "__name__" := by decide) (hdb : (x == ("__debug__" : Str)) = false := by decide)
    (he : starEach (e :: es) X.env = (false, eval e X.env) :: starEach es X.env := by rfl) (hpl : (backTo pos (starEach es X.env)).any (·.1) = false := by rfl) : DN X W (.Call (.Name x p) (e :: es) [] pos) (nB k g) :=
  PE.imp (pe_callTy hc hg hm hv ha hn hdb he hpl) fun σ H Q ⟨env, O, rs, q⟩ => finAN rs q fun ds vs H1 _ s1 r1 rs1 q1 => hk X.mg O σ env H1 Q ds vs rs1 r1 (q1.w0 (nx ds))
theorem de_max1 (hm : X.mg "max" = none) (hc : X.calm = true) (ha : DA X W true [e] g) (hg : Gl X "max" := by rfl) (he : starEach [e] X.env = (false, eval e X.env) :: starEach [] X.env := by rfl) : DE X W m (.Call (.Name "max" p) [e] [] pos) (eB max1D g) :=
  de_callB (cr_max hc) on_max1 max1D_nx hg hm (by decide +kernel) ha (by decide) (by decide) he rfl
theorem de_min1 (hm : X.mg "min" = none) (hc : X.calm = true) (ha : DA X W true [e] g) (hg : Gl X "min" := by rfl) (he : starEach [e] X.env = (false, eval e X.env) :: starEach [] X.env := by rfl) : DE X W m (.Call (.Name "min" p) [e] [] pos) (eB min1D g) :=
  de_callB (cr_min hc) on_min1 min1D_nx hg hm (by decide +kernel) ha (by decide) (by decide) he rfl
theorem dn_sorted (hm : X.mg "sorted" = none) (ha : DA X W true [e] g) (hg : Gl X "sorted" := by rfl) (he : starEach [e] X.env = (false, eval e X.env) :: starEach [] X.env := by rfl) : DN X W (.Call (.Name "sorted" p) [e] [] pos) (nB sortD g) :=
  dn_callB cr_sortedI ol_sort sortD_nx hg hm (by decide +kernel) ha (by decide) (by decide) he rfl
theorem dn_list (hm : X.mg "list" = none) (ha : DA X W true [e] g) (hg : Gl X "list" := by rfl) (he : starEach [e] X.env = (false, eval e X.env) :: starEach [] X.env := by rfl) : DN X W (.Call (.Name "list" p) [e] [] pos) (nB listD g) :=
  dn_callTy call_list_of ol_list listD_nx hg hm (by decide +kernel) ha (by decide) (by decide) he rfl
end
end DV

namespace DV
open PySem L2 PySem.Spec PyProof.Rows

/-! ### the law's own def: called by the machine's caller, where no repr runs -/
section
variable {P : Program} {w : World} {K : PySem.W.Frag} {mg : Str → Option Value} {base : Heap}
/-- one run of a def -/
theorem run_once {x qual : Str} {st : Stmt} {f : Addr} {fd : FuncData} {N ps : List Str} {k : Nat} {Fb : Env → Out} (Fu : Fun K x qual st f fd) (S : FnScope N ps (defScope st)) (hb : BodyOk P w K mg base N qual st f k True Fb)
    {A : Around} {outer : List PySem.Env} {s : Shared} {H : Hp} {args : Args} {us : List Value} {vs : List V} {Q : VK} {E : XK} (hr : Room (k + 1) A) (hg : A.guards = some []) (e0 : Env0 P w K mg base A outer s H) (bd : BindsTo s fd args (ps.zip us)) (rv : Vals vs us)
    (hs : spD K mg ps.length (fnD N.length ps.length Fb) vs H Q E) : codeAny (model P w) A (.call (.ref f) args) (CR (L2.CX P w) outer P w H s Q E) s := by
  obtain ⟨oc, od, kV, doc, pm, an, cdv, ct, osl, rfl, lk, hcd⟩ := Fu.ex
  have hkeep : ∀ b o, base.get? b = some o → s.heap.get? b = some o := fun b o e => (e0.bs b o e).1
  have KX : K.In s.heap := e0.mod.kin.keeps hkeep
  have hkd : ∀ y ∈ ps.zip us, (defScope st).names.lookup y.1 = some .local ∨ ((defScope st).names.lookup y.1 = some .cell ∧ ((cellsFrom (s.heap.objs.size + 1) (defScope st).names []).lookup y.1).isSome = true) := by
    rintro ⟨n, v⟩ hy
    have hn : n ∈ ps := (List.of_mem_zip hy).1
    exact (S.par n hn).imp id fun q => ⟨q, PySem.W.cellsFrom_some _ _ _ (.inl q)⟩
  refine codeAny_call_function hr.depth (KX _ _ lk) rfl S.co S.gen rfl (PySem.W.codeRec_of KX hcd) (bd _ _ _ _ (wpAny_newFunctionEnv_cells S.kind hkd fun env he s1 ic => ?_))
  subst he
  refine ⟨(e0.mod.nolimit.keeps hkeep).keeps ic.toInCall.keep, codeAny_func ?_⟩
  obtain ⟨t, ht, hq⟩ := body_end hb cdv A outer s H vs Q E (hr.deeper _) (fun _ => hg) hs
  have J : Inv (cxOf (L2.CX P w) P w K mg base N qual (defScope st) f cdv A outer s H E) [] (L2.start N vs) H s1 := inv_start S hr.hd e0 hs.1 rv ic
  refine wpAny_mono (ht.run [] s1 (L2.start N vs) H _ J hq) (fun fl s' hsp => ?_) fun e s' he => he
  have last : ∀ {σ' : L2.St} {H' : Hp} {v : V} {u : Value}, Inv (cxOf (L2.CX P w) P w K mg base N qual (defScope st) f cdv A outer s H E) [] σ' H' s' → RelV v u → Q v H' → CE outer P w H s Q u s' :=
    fun J' ru q => ⟨_, _, J'.os, J'.bare, J'.base, J'.hok, ru, q⟩
  cases fl with
  | next => obtain ⟨σ', H', J', q⟩ := hsp; exact last (v := .non) (u := Value.none) J' rfl q
  | ret u => obtain ⟨v, σ', H', J', ru, q⟩ := hsp; exact last J' ru q
  | brk =>
    obtain ⟨_, _, _, z⟩ := hsp
    exact False.elim z
  | cont =>
    obtain ⟨_, _, _, z⟩ := hsp
    exact False.elim z

theorem ints_scr {ns : List Int} {vs : List Value} (h : IntsAre vs ns) : Vals (ns.map V.int) vs := L2.vals_ints h

/-- what the law's def reckons of a script: True -/
def Holds1 (N : Nat) (Fb : Env → Out) (n : Nat) : Prop := ∀ ns : List Int, ns.length ≤ n → ∃ F, fnD N 1 Fb [.scr ns] = F ∧ F.R = .ok (.bl true)

theorem law_run {x qual : Str} {st : Stmt} {f a : Addr} {fd : FuncData} {N : List Str} {y : Str} {k n : Nat} {Fb : Env → Out} {mb : Str → Option Value} {s : Shared} {vs : List Value} {ns : List Int} (Fu : Fun K x qual st f fd) (S : FnScope N [y] (defScope st)) (hr : Room (k + 1) callerA)
    (hb : ∀ base : Heap, K.In base → base.Ns mainGlobals mg → BodyOk P w K mg base N qual st f k True Fb) (hl : Holds1 N.length Fb n) (hn : n ≤ sizeLine) (bd : ∀ (s : Shared) (u : Value), BindsTo s fd ⟨[u], []⟩ [(y, u)])
    (KX : K.In s.heap) (g1 : s.heap.Ns mainGlobals mg) (g2 : s.heap.Ns builtinsNs mb) (g3 : ∀ x : Str, x ≠ "__name__" → mb x = bootBuiltins x) (g4 : s.heap.NoLimit) (g5 : s.gens = #[])
    (ha : s.heap.get? a = some { cls := .type "list", data := .seq vs.toArray }) (hi : IntsAre vs ns) (hz : ns.length ≤ n) :
    codeAny (model P w) callerA (.call (.ref f) ⟨[.ref a], []⟩) (fun r s' => r = .ok (.ret (.bool true)) ∧ OldK s.heap s'.heap ∧ s'.os = s.os ∧ AllBare s'.gens) s := by
  -- the abstract heap knows the script at most
  have go : ∀ H : Hp, ScrO K H a (ns.map V.int) → (∀ b u, H b = some u → b = a ∧ K.lookup a = none ∧ ∃ o xs, u = .frz o (.lst xs)) → HOk P w H s.heap →
      codeAny (model P w) callerA (.call (.ref f) ⟨[.ref a], []⟩) (fun r s' => r = .ok (.ret (.bool true)) ∧ OldK s.heap s'.heap ∧ s'.os = s.os ∧ AllBare s'.gens) s := by
    intro H hS hA hok
    have free_dict : ∀ {b : Addr} {o : Obj} {es : Array DictEntry} {ep : Nat}, s.heap.get? b = some o → o.data = .dict es ep → H b = none := by
      intro b o es ep e d
      cases q : H b with
      | none => rfl
      | some u =>
        obtain ⟨rfl, _⟩ := hA b u q
        rw [ha] at e
        cases e
        exact (nomatch d)
    have nsH : ∀ {b : Addr} {m : Str → Option Value}, s.heap.Ns b m → (hidT s.heap H).Ns b m := by
      rintro b m ⟨o, es, ep, e, d, r⟩
      exact ⟨o, es, ep, hidT_get e (free_dict e d), d, r⟩
    have kH : K.In (hidT s.heap H) := fun b o e => by
      refine hidT_get (KX b o e) ?_
      cases q : H b with
      | none => rfl
      | some u =>
        obtain ⟨rfl, hk, _⟩ := hA b u q
        rw [hk] at e
        cases e
    obtain ⟨mc, n1, n2⟩ := g4
    have modH : Mod K mg (hidT s.heap H) := ⟨kH, nsH g1, ⟨mb, nsH g2, g3⟩, ⟨mc, nsH n1, n2⟩⟩
    have e0 : Env0 P w K mg (hidT s.heap H) callerA [] s H :=
      { frames := rfl, mod := modH, bs := fun b o e => of_hidT e, bsz := Nat.le_of_eq (hidT_size _ _), funs := trivial, frf := fun b hb => (nomatch hb), hok := hok, bare := .of_eq g5 }
    obtain ⟨F, eF, eR⟩ := hl ns hz
    have spl : spD K mg 1 (fnD N.length 1 Fb) [.ref a] H (fun v _ => v = .bl true) fun _ _ _ => False := by
      refine ⟨rfl, fun _ => False, [.scr ns], fun _ z => z.elim, .cons (by simp only [RepD]; exact ⟨a, rfl, hS⟩) .nil, ?_⟩
      rw [eF]
      revert eR
      cases F with
      | val d =>
        intro eR v H' _ r
        cases eR
        simpa [RepD] using r
      | ol xs => intro eR; cases eR
      | od xs => intro eR; cases eR
      | exc c n => intro eR; cases eR
      | no => intro eR; cases eR
    refine codeAny_mono (run_once (us := [.ref a]) (vs := [.ref a]) (outer := []) Fu S (hb _ kH (nsH g1)) hr rfl e0 (bd s (.ref a)) (.cons rfl .nil) spl) fun r s' hq => ?_
    cases r with
    | error e =>
      obtain ⟨_, _, _, _, _, _, _, _, _, _, _, _, z⟩ := hq
      exact z.elim
    | ok fl =>
      cases fl with
      | ret u =>
        obtain ⟨v, H', os, bare, un, hok', ru, q⟩ := hq
        have q : v = .bl true := q
        subst q
        obtain rfl : u = Value.bool true := ru
        refine ⟨rfl, OldK.of_keep fun b o e => ?_, os, bare⟩
        cases q : H b with
        | none => exact un.keep b o e q (fun z => nomatch z) (by simp)
        | some u =>
          obtain ⟨rfl, _, o', xs, rfl⟩ := hA b u q
          obtain ⟨e1, _⟩ := hok b _ q
          obtain ⟨e2, _⟩ := hok' b _ (un.frzs b o' _ q)
          rw [e] at e1
          cases e1
          exact e2
      | next => exact hq.elim
      | brk => exact hq.elim
      | cont => exact hq.elim
  have rv := ints_scr hi
  have hlen : ns.length ≤ sizeLine := Nat.le_trans hz hn
  cases hk : K.lookup a with
  | some o =>
    have e := KX a o hk
    rw [ha] at e
    cases e
    refine go (fun _ => none) (.inr (.inr ⟨_, vs.toArray, _, hk, rfl, rfl, rfl, ?_, by simpa using rv⟩)) (fun b u z => nomatch z) fun b u z => nomatch z
    rw [List.size_toArray, hi.length]; exact hlen
  | none =>
    refine go (fun b => if b = a then some (.frz { cls := .type "list", data := .seq vs.toArray } (.lst (ns.map V.int))) else none) (.inl ⟨_, if_pos rfl⟩) (fun b u z => ?_) fun b u z => ?_
    · have z : (if b = a then some (HO.frz { cls := .type "list", data := .seq vs.toArray } (.lst (ns.map V.int))) else none) = some u := z
      split at z
      · rename_i hb
        cases z
        exact ⟨hb, hk, _, _, rfl⟩
      · cases z
    · have z : (if b = a then some (HO.frz { cls := .type "list", data := .seq vs.toArray } (.lst (ns.map V.int))) else none) = some u := z
      split at z
      · rename_i hb
        cases z
        subst hb
        exact ⟨ha, by rw [List.length_map]; exact hlen, vs, _, rv, ha⟩
      · cases z
end
/-- the end of a law's proof: behind the head, from the bodies and the law reckoned -/
theorem law_end {l : PySem.W.OpenLaw} {n k : Nat} {q : Program} {loose : List Str} {XP : (Str → Option Value) → Heap → Prop} {YP : World → Heap → Prop} {d : DefRec} {K : Params → PySem.W.Frag} {N : List Str} {x y qual : Str} {st : Stmt} {Fb : Env → Out}
    (hn : l.most = some n) (hn2 : n ≤ sizeLine) (hdf : d.params.defaults = []) (hr : Room (k + 1) callerA) (S : FnScope N [y] (defScope st)) (hY : ∀ (w : World) (h : Heap), YP w h → (K w.params).In h) (hl : Holds1 N.length Fb n)
    (F : ∀ (w : World) (mg : Str → Option Value) (fa : Addr) (h : Heap), (K w.params).In h → h.Ns mainGlobals mg → mg d.name = some (.ref fa) →
      ∃ fd : FuncData, (∀ (s : Shared) (u : Value), BindsTo s fd ⟨[u], []⟩ [(y, u)]) ∧ Fun (K w.params) x qual st fa fd ∧
        ∀ base : Heap, (K w.params).In base → base.Ns mainGlobals mg → BodyOk l.prog w (K w.params) mg base N qual st fa k True Fb) :
    PySem.W.WalkO q loose XP YP l.row.toRowW d [] (fun f vs => PySem.call f vs) := by
  refine Att.attach_call hn hdf fun w s₀ s₁ mg mb fa o pm cd doc a vs ns G Y ho hd hcd hmg hobj hints hlen hg => ?_
  have KX := hY w _ Y
  obtain ⟨fd, bd, Fu, hb⟩ := F w mg fa _ KX G.T.g hmg
  exact law_run Fu S hr hb hl hn2 bd KX G.T.g G.T.b G.T.builtins G.T.nolimit hg hobj hints hlen
end DV

namespace DV
open PySem L2 PySem.Spec PyProof.Rows

/-! ### a, b = e1, e2 with new lists among the values -/
section
variable {K : PySem.W.Frag} {O O' : Addr → Prop} {H H' : Hp}
mutual
theorem RepD.more (n : ∀ a, O' a → O a ∨ H a = none) : ∀ (d : D) (v : V), RepD K O H d v → RepD K O' H d v
  | .non, _, h => h
  | .bl _, _, h => h
  | .int _, _, h => h
  | .str _, _, h => h
  | .lst xs, v, h => by
    simp only [RepD] at h ⊢
    obtain ⟨a, vs, e, ho, hs, hr⟩ := h
    refine ⟨a, vs, e, fun z => (n a z).elim ho fun z => ?_, hs, RepDs.more n xs vs hr⟩
    rw [z] at hs; cases hs
  | .tup xs, v, h => by
    simp only [RepD] at h ⊢
    obtain ⟨a, vs, e, hs, hr⟩ := h
    exact ⟨a, vs, e, hs, RepDs.more n xs vs hr⟩
  | .dct kvs, v, h => by
    simp only [RepD] at h ⊢
    obtain ⟨a, vs, e, ho, hs, hr⟩ := h
    refine ⟨a, vs, e, fun z => (n a z).elim ho fun z => ?_, hs, RepKs.more n kvs vs hr⟩
    rcases hs with h1 | ⟨o, h1⟩
    · rw [z] at h1; cases h1
    · rw [z] at h1; cases h1
  | .scr ns, v, h => by
    simp only [RepD] at h ⊢
    exact h
theorem RepDs.more (n : ∀ a, O' a → O a ∨ H a = none) : ∀ (ds : List D) (vs : List V), RepDs K O H ds vs → RepDs K O' H ds vs
  | [], _, h => by simp only [RepDs] at h ⊢; exact h
  | x :: xs, vs, h => by
    simp only [RepDs] at h ⊢
    obtain ⟨v, r, e, h1, h2⟩ := h
    exact ⟨v, r, e, RepD.more n x v h1, RepDs.more n xs r h2⟩
theorem RepKs.more (n : ∀ a, O' a → O a ∨ H a = none) : ∀ (ds : List (Key × D)) (vs : List (Key × V)), RepKs K O H ds vs → RepKs K O' H ds vs
  | [], _, h => by simp only [RepKs] at h ⊢; exact h
  | (c, x) :: xs, vs, h => by
    simp only [RepKs] at h ⊢
    obtain ⟨v, r, e, h1, h2⟩ := h
    exact ⟨v, r, e, RepD.more n x v h1, RepKs.more n xs r h2⟩
end
/-- O' is O and what is new since H -/
structure Mo (O O' : Addr → Prop) (H H' : Hp) : Prop where
  sub : ∀ a, O a → O' a
  new : ∀ a, O' a → O a ∨ H a = none
  trk : ∀ a, O' a → H' a ≠ none
theorem RepV.more (m : Mo O O' H H') (s : Same H H') {sv : SV} {v : V} (h : RepV K O H sv v) : RepV K O' H' sv v := by
  cases sv with
  | d x => exact (RepD.more m.new x v h).same s
  | ol xs =>
    obtain ⟨a, vs, e, ho, h1, h2⟩ := h
    exact ⟨a, vs, e, m.sub _ ho, s _ _ h1, (RepDs.more m.new _ _ h2).same s⟩
  | od xs =>
    obtain ⟨a, vs, e, ho, h1, h2⟩ := h
    exact ⟨a, vs, e, m.sub _ ho, s _ _ h1, (RepKs.more m.new _ _ h2).same s⟩
theorem RepS.more {σ : L2.St} {env : Env} (m : Mo O O' H H') (s : Same H H') (h : RepS K O H σ env) : RepS K O' H' σ env :=
  ⟨h.len, fun i sv e => let ⟨v, e1, r⟩ := h.get i sv e; ⟨v, e1, r.more m s⟩, h.inj, m.trk⟩
theorem RepS.mo {σ : L2.St} {env : Env} (h : RepS K O H σ env) : Mo O O H H := ⟨fun _ z => z, fun _ z => .inl z, h.trk⟩
def RepVs (K : PySem.W.Frag) (O : Addr → Prop) (H : Hp) : List SV → List V → Prop
  | [], vs => vs = []
  | x :: xs, vs => ∃ v r, vs = v :: r ∧ RepV K O H x v ∧ RepVs K O H xs r
theorem RepVs.more (m : Mo O O' H H') (s : Same H H') : ∀ {xs : List SV} {vs : List V}, RepVs K O H xs vs → RepVs K O' H' xs vs
  | [], _, h => h
  | x :: xs, vs, ⟨v, r, e, h1, h2⟩ => ⟨v, r, e, h1.more m s, RepVs.more m s h2⟩
theorem RepVs.length : ∀ {xs : List SV} {vs : List V}, RepVs K O H xs vs → xs.length = vs.length
  | [], _, h => by rw [h]; rfl
  | x :: xs, vs, ⟨v, r, e, h1, h2⟩ => by rw [e, List.length_cons, List.length_cons, RepVs.length h2]
/-- p is the reference of an own one among them -/
def OwnIn (p : Addr) : List SV → List V → Prop
  | sv :: svs, v :: vs => (sv.own = true ∧ v = .ref p) ∨ OwnIn p svs vs
  | _, _ => False
/-- the own ones are new since H, and apart -/
def News (H : Hp) : List SV → List V → Prop
  | sv :: svs, v :: vs => (sv.own = true → ∃ p, v = .ref p ∧ H p = none ∧ ¬ OwnIn p svs vs) ∧ News H svs vs
  | _, _ => True
theorem OwnIn.none : ∀ {svs : List SV} {vs : List V} {p : Addr}, News H svs vs → OwnIn p svs vs → H p = none
  | [], _, _, _, h => h.elim
  | _ :: _, [], _, _, h => h.elim
  | sv :: svs, v :: vs, p, ⟨n1, n2⟩, .inl ⟨o, e⟩ => by
    obtain ⟨q, e1, hq, _⟩ := n1 o
    subst e
    cases e1; exact hq
  | sv :: svs, v :: vs, p, ⟨n1, n2⟩, .inr h => OwnIn.none n2 h
theorem News.back (s : Same H H') : ∀ {svs : List SV} {vs : List V}, News H' svs vs → News H svs vs
  | [], _, _ => trivial
  | _ :: _, [], _ => trivial
  | sv :: svs, v :: vs, ⟨n1, n2⟩ => ⟨fun o => let ⟨p, e, h, k⟩ := n1 o; ⟨p, e, Same.back s h, k⟩, News.back s n2⟩
end
def FinW (K : PySem.W.Frag) (mg : Str → Option Value) (W : WX) (O : Addr → Prop) (σ : L2.St) (H : Hp) (Q : List V → Hp → Prop) : R (List SV) → Prop
  | .ok svs => ∀ vs H' O', Same H H' → Mo O O' H H' → RepVs K O' H' svs vs → News H svs vs → Q vs H'
  | .exc c n => ∀ C dx H', mg c = some (.ref C) → Same H H' → H' dx = some (.xd [(("at" : Str), .int n)]) → W (.ref C) (some dx) σ H'
  | .no => False
def tW (K : PySem.W.Frag) (mg : Str → Option Value) (W : WX) (f : Env → R (List SV)) : TA := fun σ H Q => ∃ env O, RepS K O H σ env ∧ FinW K mg W O σ H Q (f env)
def DWs (X : Cx) (W : WX) (es : List Expr) (f : Env → R (List SV)) : Prop := PA X es (tW X.K X.mg W f)
def wNil : Env → R (List SV) := fun _ => .ok []
def wCons (f : Env → R D) (g : Env → R (List SV)) : Env → R (List SV) := fun s => (f s).bind fun x => (g s).bind fun xs => .ok (.d x :: xs)
def wNew (f : Env → R (List D)) (g : Env → R (List SV)) : Env → R (List SV) := fun s => (f s).bind fun x => (g s).bind fun xs => .ok (.ol x :: xs)
section
variable {X : Cx} {W : WX} {e : Expr} {es : List Expr} {f : Env → R D} {fn : Env → R (List D)} {g : Env → R (List SV)}
theorem dw_nil : DWs X W [] wNil := PA.imp pa_nil fun σ H Q ⟨env, O, rs, q⟩ => q [] H O (Same.refl _) rs.mo rfl trivial
theorem dw_cons (he : DE X W false e f) (hr : DWs X W es g) (hs : starEach (e :: es) X.env = (false, eval e X.env) :: starEach es X.env := by rfl) : DWs X W (e :: es) (wCons f g) := PA.imp (pa_cons he hr hs) fun σ H Q ⟨env, O, rs, q⟩ => by
  unfold wCons at q
  refine ⟨env, O, rs, ?_⟩
  revert q
  cases f env with
  | exc c n => exact fun q => q
  | no => exact fun q => q
  | ok d =>
    intro q v H1 s1 r1
    have r1 : RepD X.K O H1 d v := r1
    rw [R.bind_ok] at q
    refine ⟨env, O, rs.same s1, ?_⟩
    revert q
    cases g env with
    | exc c n => exact fun q C dx H2 e2 s2 a => q C dx H2 e2 (s1.trans s2) a
    | no => exact fun q => q
    | ok svs =>
      intro q vs H2 O2 s2 m2 r2 n2
      have n3 := News.back s1 n2
      exact q _ H2 O2 (s1.trans s2) ⟨m2.sub, fun a z => (m2.new a z).imp id (Same.back s1), m2.trk⟩ ⟨v, vs, rfl, (RepD.more m2.new d v r1).same s2, r2⟩ ⟨fun o => (by cases o), n3⟩
theorem dw_new (he : DN X W e fn) (hr : DWs X W es g) (hs : starEach (e :: es) X.env = (false, eval e X.env) :: starEach es X.env := by rfl) : DWs X W (e :: es) (wNew fn g) := PA.imp (pa_cons he hr hs) fun σ H Q ⟨env, O, rs, q⟩ => by
  unfold wNew at q
  refine ⟨env, O, rs, ?_⟩
  revert q
  cases fn env with
  | exc c n => exact fun q => q
  | no => exact fun q => q
  | ok xs =>
    intro q p us H1 s1 np hp r1
    rw [R.bind_ok] at q
    have m1 : Mo O (fun a => O a ∨ a = p) H H1 := ⟨fun a z => .inl z, fun a z => z.imp id fun e => by rw [e]; exact np, fun a z => z.elim (fun z => (rs.same s1).trk a z) fun e => by rw [e, hp]; simp⟩
    refine ⟨env, fun a => O a ∨ a = p, rs.more m1 s1, ?_⟩
    revert q
    cases g env with
    | exc c n => exact fun q C dx H2 e2 s2 a => q C dx H2 e2 (s1.trans s2) a
    | no => exact fun q => q
    | ok svs =>
      intro q vs H2 O2 s2 m2 r2 n2
      have n3 := News.back s1 n2
      refine q _ H2 O2 (s1.trans s2) ⟨fun a z => m2.sub a (.inl z), fun a z => (m2.new a z).elim (m1.new a) fun z => .inr (Same.back s1 z), m2.trk⟩ ⟨.ref p, vs, rfl, ⟨p, us, rfl, m2.sub p (.inr rfl), s2 _ _ hp, (RepDs.more m2.new _ _ r1).same s2⟩, r2⟩ ⟨fun _ => ⟨p, rfl, np, fun z => ?_⟩, n3⟩
      have := OwnIn.none n2 z
      rw [hp] at this; cases this
end

/-! stores in order -/
def setN {α : Type} : List Nat → List α → List (Option α) → List (Option α)
  | i :: is, v :: vs, s => setN is vs (s.set i (some v))
  | _, _, s => s
def okN : List Nat → Nat → Bool
  | [], _ => true
  | i :: is, n => decide (i < n) && okN is n
theorem RepS.puts {K : PySem.W.Frag} {O : Addr → Prop} {H H0 : Hp} : ∀ (is : List Nat) (svs : List SV) (vs : List V) {σ : L2.St} {env : Env}, RepS K O H σ env → RepVs K O H svs vs → News H0 svs vs → svs.length = is.length → okN is env.length = true →
    (∀ (j : Nat) su p, env[j]? = some (some su) → su.own = true → σ[j]? = some (some (.ref p)) → ¬ OwnIn p svs vs) →
    RepS K O H (setN is vs σ) (setN is svs env) ∧ ∀ (j : Nat) su p, (setN is svs env)[j]? = some (some su) → su.own = true → (setN is vs σ)[j]? = some (some (.ref p)) → OwnIn p svs vs ∨ (env[j]? = some (some su) ∧ σ[j]? = some (some (.ref p)))
  | [], svs, vs, σ, env, r, rv, nw, hl, hk, ap => by
    have : svs = [] := List.length_eq_zero_iff.mp hl
    subst this
    have : vs = [] := rv
    subst this
    exact ⟨r, fun j su p e o h => .inr ⟨e, h⟩⟩
  | i :: is, [], vs, σ, env, r, rv, nw, hl, hk, ap => by cases hl
  | i :: is, sv :: svs, vs, σ, env, r, rv, nw, hl, hk, ap => by
    obtain ⟨v, us, e, r1, r2⟩ := rv
    subst e
    simp only [okN, Bool.and_eq_true, decide_eq_true_eq] at hk
    have hi : i < env.length := hk.1
    have hs : i < σ.length := by rw [r.len]; exact hi
    have step : RepS K O H (σ.set i (some v)) (env.set i (some sv)) := by
      refine ⟨by simp [r.len], fun j su e => ?_, fun j k a su sw e1 e2 o1 o2 h1 h2 => ?_, r.trk⟩
      · by_cases hj : i = j
        · subst hj
          rw [List.getElem?_set_self hi] at e
          cases e
          exact ⟨v, List.getElem?_set_self hs, r1⟩
        · rw [List.getElem?_set_ne hj] at e
          obtain ⟨w, e1, r3⟩ := r.get j su e
          exact ⟨w, by rw [List.getElem?_set_ne hj]; exact e1, r3⟩
      · by_cases hj : i = j
        · by_cases hk : i = k
          · exact hj.symm.trans hk
          · exfalso
            subst hj
            rw [List.getElem?_set_self hs] at h1
            rw [List.getElem?_set_self hi] at e1
            cases e1
            cases h1
            rw [List.getElem?_set_ne hk] at e2 h2
            exact ap k sw a e2 o2 h2 (.inl ⟨o1, rfl⟩)
        · by_cases hk : i = k
          · exfalso
            subst hk
            rw [List.getElem?_set_self hs] at h2
            rw [List.getElem?_set_self hi] at e2
            cases e2
            cases h2
            rw [List.getElem?_set_ne hj] at e1 h1
            exact ap j su a e1 o1 h1 (.inl ⟨o2, rfl⟩)
          · rw [List.getElem?_set_ne hj] at e1 h1
            rw [List.getElem?_set_ne hk] at e2 h2
            exact r.inj j k a su sw e1 e2 o1 o2 h1 h2
    obtain ⟨g1, g2⟩ := RepS.puts is svs us step r2 nw.2 (by simpa using hl) (by simpa using hk.2) fun j su p e o h z => by
      by_cases hj : i = j
      · subst hj
        rw [List.getElem?_set_self hs] at h
        rw [List.getElem?_set_self hi] at e
        cases e
        cases h
        obtain ⟨q, e1, _, k⟩ := nw.1 o
        cases e1
        exact k z
      · rw [List.getElem?_set_ne hj] at e h
        exact ap j su p e o h (.inr z)
    refine ⟨g1, fun j su p e o h => ?_⟩
    rcases g2 j su p e o h with z | ⟨e1, h1⟩
    · exact .inl (.inr z)
    · by_cases hj : i = j
      · subst hj
        rw [List.getElem?_set_self hs] at h1
        rw [List.getElem?_set_self hi] at e1
        cases e1
        cases h1
        exact .inl (.inl ⟨o, rfl⟩)
      · rw [List.getElem?_set_ne hj] at e1 h1
        exact .inr ⟨e1, h1⟩
/-- what a statement that stores values in order asks -/
def tStore (is : List Nat) (ta : TA) : TS := fun Dd σ H => ta σ H fun vs H1 => vs.length = is.length ∧ ∀ H2, Same H1 H2 → Dd.nx (setN is vs σ) H2
def sStore (is : List Nat) (ws : Env → R (List SV)) : Env → Out := fun s => match ws s with
  | .ok svs => if svs.length = is.length ∧ okN is s.length = true then .nx (setN is svs s) else .no
  | .exc c n => .exc c n s
  | .no => .no
section
variable {X : Cx} {W : WX} {B : Ent} {st : Stmt} {es : List Expr} {ws : Env → R (List SV)} {is : List Nat}
theorem ds_store (hp : ∀ t, PA X es (tW X.K X.mg W t) → PS X st (tStore is (tW X.K X.mg W t))) (ha : DWs X W es ws) : DS X W B st (sStore is ws) := fun G => PS.imp (hp _ ha) fun Dd σ H ⟨env, h, q⟩ => by
  have h' := h
  obtain ⟨O, rs, z, s0, g, nn⟩ := h'
  unfold sStore at q
  refine ⟨env, O, rs, ?_⟩
  revert q
  cases ws env with
  | exc c n => exact fun q C dx H1 e1 s1 a => q C dx σ H1 e1 (h.same s1) a
  | no => exact fun q => q.elim
  | ok svs =>
    intro q vs H1 O1 s1 m1 r1 n1
    dsimp only at q
    split at q
    · rename_i hk
      refine ⟨by rw [← r1.length]; exact hk.1, fun H2 s2 => ?_⟩
      have s12 := s1.trans s2
      have m2 : Mo O1 O1 H1 H2 := ⟨fun _ z => z, fun _ z => .inl z, fun a z e => m1.trk a z (Same.back s2 e)⟩
      have m12 : Mo O O1 H H2 := ⟨m1.sub, m1.new, m2.trk⟩
      obtain ⟨g1, g2⟩ := RepS.puts is svs vs (rs.more m12 s12) (r1.more m2 s2) n1 hk.1 hk.2 fun j su p e o hh zz => by
        have a := OwnIn.none n1 zz
        obtain ⟨w, e1, rv⟩ := rs.get j su e
        rw [hh] at e1; cases e1
        cases su with
        | d x => cases o
        | ol ys =>
          obtain ⟨b, us, eb, ho, h1, h2⟩ := rv
          cases eb
          rw [a] at h1; cases h1
        | od ys =>
          obtain ⟨b, us, eb, ho, h1, h2⟩ := rv
          cases eb
          rw [a] at h1; cases h1
      refine q _ _ ⟨O1, g1, fun a ha => m1.sub a (z a ha), s0.trans s12, fun p hp => (RepD.more m1.new _ _ (g p hp)).same s12, fun j su p e o hh => ?_⟩
      rcases g2 j su p e o hh with zz | ⟨e1, h1⟩
      · exact Same.back s0 (OwnIn.none n1 zz)
      · exact nn j su p e1 o h1
    · exact q.elim
theorem tW_mono {K : PySem.W.Frag} {mg : Str → Option Value} {f : Env → R (List SV)} {σ : L2.St} {H : Hp} {Q Q' : List V → Hp → Prop} (i : ∀ vs H', Q vs H' → Q' vs H') (h : tW K mg W f σ H Q) : tW K mg W f σ H Q' := by
  obtain ⟨env, O, rs, q⟩ := h
  refine ⟨env, O, rs, ?_⟩
  revert q
  cases f env with
  | exc c n => exact fun q => q
  | no => exact fun q => q
  | ok svs => exact fun q vs H1 O1 s1 m1 r1 n1 => i _ _ (q vs H1 O1 s1 m1 r1 n1)
/-- the words of the hand layer, as stores in order -/
theorem store2 {i j : Nat} (hp : ∀ t, PA X es t → PS X st (tPar i j t)) : ∀ t, PA X es (tW X.K X.mg W t) → PS X st (tStore [i, j] (tW X.K X.mg W t)) := fun t h => by
  refine PS.imp (hp _ h) fun Dd σ H q => tW_mono (fun vs H1 ⟨hl, k⟩ => ?_) q
  match vs, hl with
  | [v, w], _ => exact ⟨v, w, rfl, k H1 (Same.refl _)⟩
theorem store3 {i j l : Nat} (hp : ∀ t, PA X es t → PS X st (tPar3 i j l t)) : ∀ t, PA X es (tW X.K X.mg W t) → PS X st (tStore [i, j, l] (tW X.K X.mg W t)) := fun t h => by
  refine PS.imp (hp _ h) fun Dd σ H q => tW_mono (fun vs H1 ⟨hl, k⟩ => ?_) q
  match vs, hl with
  | [u, v, w], _ => exact ⟨u, v, w, rfl, k H1 (Same.refl _)⟩
/-- names as targets, in order -/
def tNames (is : List Nat) : TGs := fun vs σ H Q => vs.length = is.length ∧ Q (setN is vs σ) H
theorem pn_nil : PGs X [] (tNames []) := PGs.imp pgs_nil fun vs σ H Q ⟨h, q⟩ => by
  have : vs = [] := List.length_eq_zero_iff.mp h
  subst this
  exact ⟨rfl, q⟩
theorem pn_cons {e : Expr} {es : List Expr} {i : Nat} {is : List Nat} (h1 : PG X e (gName i)) (h2 : PGs X es (tNames is)) (hs : (assignEach (e :: es) X.env).map (·.2) = assign e X.env :: (assignEach es X.env).map (·.2) := by rfl) : PGs X (e :: es) (tNames (i :: is)) := PGs.imp (pgs_cons h1 h2 hs) fun vs σ H Q ⟨h, q⟩ => by
  match vs, h, q with
  | v :: r, h, q => exact ⟨v, r, rfl, by simpa using h, q⟩
theorem storeT {tgs : List Expr} {k k2 : Nat} {pt pe : Pos} (hc : X.calm = true) (hg : PGs X tgs (tNames is)) (hz : is.length ≤ 1000)
    (hp : ∀ t u, PE X (.Tuple es k2 pe) t → PG X (.Tuple tgs k pt) u → PS X st (tAsg t u)) (hn : (assignEach tgs X.env).length = is.length := by rfl) (hst : (assignEach tgs X.env).findIdx? (·.1) = none := by rfl) : ∀ t, PA X es (tW X.K X.mg W t) → PS X st (tStore is (tW X.K X.mg W t)) := fun t h => by
  refine PS.imp (hp _ _ (pe_tup h) (pg_tup hc hg hn hst)) fun Dd σ H q => ?_
  refine tW_mono (fun vs H1 ⟨hl, k⟩ => ?_) q
  refine ⟨by rw [hl]; exact lim_le (by omega), fun p np => ?_⟩
  refine ⟨p, vs, rfl, .inl (.inl ?_), hl, hl, k _ (Same.new' np)⟩
  exact upd_same
end
end DV

namespace DV
open PySem L2 PySem.Spec PyProof.Rows

/-! ### reckoning: what the words of the layer give, for simp -/
def gv : Option (Option SV) → R D
  | some (some (.d x)) => .ok x
  | _ => .no
def gvo : Option (Option SV) → R D
  | some (some (.d x)) => .ok x
  | some (some (.ol xs)) => .ok (.lst xs)
  | some (some (.od xs)) => .ok (.dct xs)
  | _ => .no
@[simp] theorem gv_d (x : D) : gv (some (some (.d x))) = .ok x := Eq.trans rfl rfl
@[simp] theorem gvo_d (x : D) : gvo (some (some (.d x))) = .ok x := Eq.trans rfl rfl
@[simp] theorem gvo_ol (x : List D) : gvo (some (some (.ol x))) = .ok (.lst x) := Eq.trans rfl rfl
@[simp] theorem gvo_od (x : List (Key × D)) : gvo (some (some (.od x))) = .ok (.dct x) := Eq.trans rfl rfl
@[simp] theorem eVar_ap (i : Nat) (s : Env) : eVar i s = gv s[i]? := Eq.trans rfl rfl
@[simp] theorem eOwn_ap (i : Nat) (s : Env) : eOwn i s = gvo s[i]? := Eq.trans rfl rfl
@[simp] theorem eC_ap (d : D) (s : Env) : eC d s = .ok d := Eq.trans rfl rfl
@[simp] theorem e2_ap (k : D → D → R D) (f g : Env → R D) (s : Env) : e2 k f g s = (f s).bind fun x => (g s).bind fun y => k x y := Eq.trans rfl rfl
@[simp] theorem e1_ap (k : D → R D) (f : Env → R D) (s : Env) : e1 k f s = (f s).bind k := Eq.trans rfl rfl
@[simp] theorem addD_int (i j : Int) : addD (.int i) (.int j) = .ok (.int (i + j)) := Eq.trans rfl rfl
@[simp] theorem addD_lst (xs ys : List D) : addD (.lst xs) (.lst ys) = if xs.length + ys.length ≤ 1000000 then .ok (.lst (xs ++ ys)) else .no := Eq.trans rfl rfl
@[simp] theorem addD_str (xs ys : Str) : addD (.str xs) (.str ys) = if xs.length + ys.length ≤ 1000000 then .ok (.str (xs ++ ys)) else .no := Eq.trans rfl rfl
@[simp] theorem addD_tup (xs ys : List D) : addD (.tup xs) (.tup ys) = if xs.length + ys.length ≤ 1000000 then .ok (.tup (xs ++ ys)) else .no := Eq.trans rfl rfl
@[simp] theorem subD_int (i j : Int) : subD (.int i) (.int j) = .ok (.int (i - j)) := Eq.trans rfl rfl
@[simp] theorem mulD_int (i j : Int) : mulD (.int i) (.int j) = if (-18446744073709551616 < i ∧ i < 18446744073709551616) ∨ (-18446744073709551616 < j ∧ j < 18446744073709551616) then .ok (.int (i * j)) else .no := Eq.trans rfl rfl
@[simp] theorem mulD_lst (xs : List D) (k : Int) : mulD (.lst xs) (.int k) = if -9223372036854775808 ≤ k ∧ k < 9223372036854775808 ∧ xs.length * k.toNat ≤ 1000000 then .ok (.lst (List.replicate k.toNat xs).flatten) else .no := Eq.trans rfl rfl
@[simp] theorem fdivD_int (i j : Int) : fdivD (.int i) (.int j) = if 0 < j ∧ j < 18446744073709551616 then .ok (.int (i / j)) else .no := Eq.trans rfl rfl
@[simp] theorem modD_int (i j : Int) : modD (.int i) (.int j) = if 0 < j then .ok (.int (i % j)) else .no := Eq.trans rfl rfl
@[simp] theorem powD_int (i j : Int) : powD (.int i) (.int j) = if 0 ≤ j ∧ j ≤ 1000000 ∧ -18446744073709551616 < i ∧ i < 18446744073709551616 then .ok (.int (i ^ j.toNat)) else .no := Eq.trans rfl rfl
@[simp] theorem negD_int (i : Int) : negD (.int i) = .ok (.int (-i)) := Eq.trans rfl rfl
@[simp] theorem ltD_int (i j : Int) : ltD (.int i) (.int j) = .ok (.bl (decide (i < j))) := Eq.trans rfl rfl
@[simp] theorem leD_int (i j : Int) : leD (.int i) (.int j) = .ok (.bl (decide (i ≤ j))) := Eq.trans rfl rfl
@[simp] theorem gtD_int (i j : Int) : gtD (.int i) (.int j) = .ok (.bl (decide (j < i))) := Eq.trans rfl rfl
@[simp] theorem geD_int (i j : Int) : geD (.int i) (.int j) = .ok (.bl (decide (j ≤ i))) := Eq.trans rfl rfl
@[simp] theorem isND_ap (d : D) : isND d = .ok (.bl (isNonD d)) := Eq.trans rfl rfl
@[simp] theorem notND_ap (d : D) : notND d = .ok (.bl (!isNonD d)) := Eq.trans rfl rfl
@[simp] theorem isNonD_non : isNonD .non = true := Eq.trans rfl rfl
@[simp] theorem isNonD_int (i : Int) : isNonD (.int i) = false := Eq.trans rfl rfl
@[simp] theorem isNonD_lst (i : List D) : isNonD (.lst i) = false := Eq.trans rfl rfl
@[simp] theorem isNonD_tup (i : List D) : isNonD (.tup i) = false := Eq.trans rfl rfl
def e3k (k' : D → D → R D) (y : D) (h : Env → R D) (s : Env) : D → R D
  | .bl true => (h s).bind fun w => k' y w
  | .bl false => .ok (.bl false)
  | _ => .no
@[simp] theorem e3k_t (k' : D → D → R D) (y : D) (h : Env → R D) (s : Env) : e3k k' y h s (.bl true) = (h s).bind fun w => k' y w := Eq.trans rfl rfl
@[simp] theorem e3k_f (k' : D → D → R D) (y : D) (h : Env → R D) (s : Env) : e3k k' y h s (.bl false) = .ok (.bl false) := Eq.trans rfl rfl
@[simp] theorem e3c_ap (k k' : D → D → R D) (f g h : Env → R D) (s : Env) : e3c k k' f g h s = (f s).bind fun x => (g s).bind fun y => (k x y).bind (e3k k' y h s) := by
  unfold e3c
  congr
/-- a chain of two on ints -/
theorem e3k_dec (k' : D → D → R D) (y : D) (h : Env → R D) (s : Env) (p : Prop) [Decidable p] {q : Prop} [Decidable q] (hq : ((h s).bind fun w => k' y w) = .ok (.bl (decide q))) : e3k k' y h s (.bl (decide p)) = .ok (.bl (decide (p ∧ q))) := by
  by_cases hp : p
  · simp [hp, hq]
  · simp [hp]
@[simp] theorem asB_bl (b : Bool) : asB (.bl b) = .ok b := Eq.trans rfl rfl
@[simp] theorem tOf_ap (f : Env → R D) (s : Env) : tOf f s = (f s).bind asB := Eq.trans rfl rfl
@[simp] theorem tNot_ap (t : Env → R Bool) (s : Env) : tNot' t s = (t s).bind fun b => .ok (!b) := Eq.trans rfl rfl
@[simp] theorem tAnd_ap (t u : Env → R Bool) (s : Env) : tAnd' t u s = (t s).bind fun b => if b = true then u s else .ok false := Eq.trans rfl rfl
@[simp] theorem tOr_ap (t u : Env → R Bool) (s : Env) : tOr' t u s = (t s).bind fun b => if b = true then .ok true else u s := Eq.trans rfl rfl
@[simp] theorem tYes_ap (s : Env) : tYes' s = .ok true := Eq.trans rfl rfl
def eAk (g : Env → R D) (s : Env) : D → R D
  | .bl true => g s
  | .bl false => .ok (.bl false)
  | _ => .no
def eOk (g : Env → R D) (s : Env) : D → R D
  | .bl true => .ok (.bl true)
  | .bl false => g s
  | _ => .no
@[simp] theorem eAk_t (g : Env → R D) (s : Env) : eAk g s (.bl true) = g s := Eq.trans rfl rfl
@[simp] theorem eAk_f (g : Env → R D) (s : Env) : eAk g s (.bl false) = .ok (.bl false) := Eq.trans rfl rfl
@[simp] theorem eOk_t (g : Env → R D) (s : Env) : eOk g s (.bl true) = .ok (.bl true) := Eq.trans rfl rfl
@[simp] theorem eOk_f (g : Env → R D) (s : Env) : eOk g s (.bl false) = g s := Eq.trans rfl rfl
@[simp] theorem eAnd_ap (f g : Env → R D) (s : Env) : eAndV f g s = (f s).bind (eAk g s) := by unfold eAndV; congr
@[simp] theorem eOr_ap (f g : Env → R D) (s : Env) : eOrV f g s = (f s).bind (eOk g s) := by unfold eOrV; congr
theorem eAk_dec (g : Env → R D) (s : Env) {p q : Prop} [Decidable p] [Decidable q] (h : p → g s = .ok (.bl (decide q))) : eAk g s (.bl (decide p)) = .ok (.bl (decide (p ∧ q))) := by
  by_cases hp : p
  · simp [hp, h hp]
  · simp [hp]
@[simp] theorem notD_bl (b : Bool) : notD (.bl b) = .ok (.bl (!b)) := Eq.trans rfl rfl
@[simp] theorem eIf_ap (t : Env → R Bool) (f g : Env → R D) (s : Env) : eIf t f g s = (t s).bind fun b => if b = true then f s else g s := Eq.trans rfl rfl
@[simp] theorem aNil_ap (s : Env) : aNil s = .ok [] := Eq.trans rfl rfl
@[simp] theorem aCons_ap (f : Env → R D) (g : Env → R (List D)) (s : Env) : aCons f g s = (f s).bind fun x => (g s).bind fun xs => .ok (x :: xs) := Eq.trans rfl rfl
@[simp] theorem eL_ap (f : Env → R (List D)) (s : Env) : eL f s = (f s).bind fun xs => .ok (.lst xs) := Eq.trans rfl rfl
@[simp] theorem nLst_ap (g : Env → R (List D)) (s : Env) : nLst g s = (g s).bind fun xs => if xs.length ≤ 1000000 then .ok xs else .no := Eq.trans rfl rfl
@[simp] theorem eTup_ap (g : Env → R (List D)) (s : Env) : eTup g s = (g s).bind fun xs => if xs.length ≤ 1000000 then .ok (.tup xs) else .no := Eq.trans rfl rfl
@[simp] theorem eB_ap (k : List D → R D) (g : Env → R (List D)) (s : Env) : eB k g s = (g s).bind k := Eq.trans rfl rfl
@[simp] theorem nB_ap (k : List D → R (List D)) (g : Env → R (List D)) (s : Env) : nB k g s = (g s).bind k := Eq.trans rfl rfl
@[simp] theorem lenD_lst (xs : List D) : lenD [.lst xs] = .ok (.int xs.length) := Eq.trans rfl rfl
@[simp] theorem lenD_tup (xs : List D) : lenD [.tup xs] = .ok (.int xs.length) := Eq.trans rfl rfl
@[simp] theorem lenD_scr (xs : List Int) : lenD [.scr xs] = .ok (.int xs.length) := Eq.trans rfl rfl
@[simp] theorem absD_int (i : Int) : absD [.int i] = .ok (.int (if i < 0 then -i else i)) := Eq.trans rfl rfl
@[simp] theorem max2D_int (i j : Int) : max2D [.int i, .int j] = .ok (.int (if j > i then j else i)) := Eq.trans rfl rfl
@[simp] theorem min2D_int (i j : Int) : min2D [.int i, .int j] = .ok (.int (if j < i then j else i)) := Eq.trans rfl rfl
@[simp] theorem intD_int (i : Int) : intD [.int i] = .ok (.int i) := Eq.trans rfl rfl
@[simp] theorem sumD_map (ns : List Int) : sumD [.lst (ns.map D.int)] = .ok (.int ns.sum) := by simp only [sumD, ints?_map]
@[simp] theorem allD_map (ns : List Bool) : allD [.lst (ns.map D.bl)] = .ok (.bl (ns.all id)) := by simp only [allD, bls?_map]
@[simp] theorem anyD_map (ns : List Bool) : anyD [.lst (ns.map D.bl)] = .ok (.bl (ns.any id)) := by simp only [anyD, bls?_map]
theorem atI_nat' {α : Type} {xs : List α} {i : Int} {v : α} (h0 : 0 ≤ i) (h : xs[i.toNat]? = some v) : atI xs i = some v := by
  have := atI_nat (j := i.toNat) h
  rwa [Int.toNat_of_nonneg h0] at this
theorem ixD_lst {xs : List D} {i : Int} {d : D} (h0 : 0 ≤ i) (h : xs[i.toNat]? = some d) : ixD (.lst xs) (.int i) = .ok d := by simp only [ixD, atI_nat' h0 h]
theorem ixD_tup {xs : List D} {i : Int} {d : D} (h0 : 0 ≤ i) (h : xs[i.toNat]? = some d) : ixD (.tup xs) (.int i) = .ok d := by simp only [ixD, atI_nat' h0 h]
theorem ixD_scr {xs : List Int} {i : Int} {d : Int} (h0 : 0 ≤ i) (h : xs[i.toNat]? = some d) : ixD (.scr xs) (.int i) = .ok (.int d) := by simp only [ixD, atI_nat' h0 h]
theorem ixD_ints {xs : List Int} {i : Int} {d : Int} (h0 : 0 ≤ i) (h : xs[i.toNat]? = some d) : ixD (.lst (xs.map D.int)) (.int i) = .ok (.int d) := ixD_lst h0 (by rw [List.getElem?_map, h]; rfl)
@[simp] theorem asI_int (i : Int) : asI (.int i) = .ok i := Eq.trans rfl rfl
@[simp] theorem oNone_ap (s : Env) : oNone s = .ok none := Eq.trans rfl rfl
@[simp] theorem oSome_ap (f : Env → R D) (s : Env) : oSome f s = (f s).bind fun d => (asI d).bind fun i => .ok (some i) := Eq.trans rfl rfl
def cutK (lo hi : Option Int) : D → R (List D)
  | .lst xs => .ok (cutG xs lo hi)
  | _ => .no
@[simp] theorem cutK_lst (lo hi : Option Int) (xs : List D) : cutK lo hi (.lst xs) = .ok (cutG xs lo hi) := Eq.trans rfl rfl
@[simp] theorem nCut_ap (f : Env → R D) (l u : Env → R (Option Int)) (s : Env) : nCut f l u s = (f s).bind fun x => (l s).bind fun lo => (u s).bind fun hi => cutK lo hi x := by
  unfold nCut; congr
@[simp] theorem gSet_ap (i : Nat) (d : D) (s : Env) : gSet i d s = if i < s.length then .ok (s.set i (some (.d d))) else .no := Eq.trans rfl rfl
@[simp] theorem gsNil_ap (s : Env) : gsNil [] s = .ok s := Eq.trans rfl rfl
@[simp] theorem gsCons_ap (g : D → Env → R Env) (h : List D → Env → R Env) (d : D) (r : List D) (s : Env) : gsCons g h (d :: r) s = (g d s).bind fun s' => h r s' := Eq.trans rfl rfl
@[simp] theorem gTupD_ap (n : Nat) (g : List D → Env → R Env) (xs : List D) (s : Env) : gTupD n g (.tup xs) s = if xs.length = n then g xs s else .no := Eq.trans rfl rfl
def lstK : D → R (List D)
  | .lst xs => .ok xs
  | _ => .no
@[simp] theorem lstK_lst (xs : List D) : lstK (.lst xs) = .ok xs := Eq.trans rfl rfl
@[simp] theorem iLst_ap (f : Env → R D) (s : Env) : iLst f s = (f s).bind lstK := by unfold iLst; congr
def tupK : D → R (List D)
  | .tup xs => .ok xs
  | _ => .no
@[simp] theorem tupK_tup (xs : List D) : tupK (.tup xs) = .ok xs := Eq.trans rfl rfl
@[simp] theorem iTupl_ap (f : Env → R D) (s : Env) : iTupl f s = (f s).bind tupK := by unfold iTupl; congr
def range1K : List D → R (List D)
  | [.int n] => if n < 4611686018427387904 ∧ -4611686018427387904 ≤ n then .ok (rngD 0 n.toNat) else .no
  | _ => .no
def range2K : List D → R (List D)
  | [.int a, .int n] => if a < 4611686018427387904 ∧ -4611686018427387904 ≤ a ∧ n < 4611686018427387904 ∧ -4611686018427387904 ≤ n then .ok (rngD a (n - a).toNat) else .no
  | _ => .no
@[simp] theorem range1K_ap (n : Int) : range1K [.int n] = if n < 4611686018427387904 ∧ -4611686018427387904 ≤ n then .ok (rngD 0 n.toNat) else .no := Eq.trans rfl rfl
@[simp] theorem range2K_ap (a n : Int) : range2K [.int a, .int n] = if a < 4611686018427387904 ∧ -4611686018427387904 ≤ a ∧ n < 4611686018427387904 ∧ -4611686018427387904 ≤ n then .ok (rngD a (n - a).toNat) else .no := Eq.trans rfl rfl
@[simp] theorem iRange1_ap (ga : Env → R (List D)) (s : Env) : iRange1 ga s = (ga s).bind range1K := by unfold iRange1; congr
@[simp] theorem iRange2_ap (ga : Env → R (List D)) (s : Env) : iRange2 ga s = (ga s).bind range2K := by unfold iRange2; congr
def enumK : List D → R (List D)
  | [.lst xs] => .ok (enumD xs)
  | _ => .no
@[simp] theorem enumK_ap (xs : List D) : enumK [.lst xs] = .ok (enumD xs) := Eq.trans rfl rfl
@[simp] theorem iEnumD_ap (ga : Env → R (List D)) (s : Env) : iEnumD ga s = (ga s).bind enumK := by unfold iEnumD; congr
def zipK : List D → R (List D)
  | [.lst xs, .lst ys] => .ok (zipD xs ys)
  | _ => .no
@[simp] theorem zipK_ap (xs ys : List D) : zipK [.lst xs, .lst ys] = .ok (zipD xs ys) := Eq.trans rfl rfl
@[simp] theorem iZipD_ap (ga : Env → R (List D)) (s : Env) : iZipD ga s = (ga s).bind zipK := by unfold iZipD; congr
@[simp] theorem wipeE_nil (s : Env) : wipeE s [] = s := Eq.trans rfl rfl
@[simp] theorem wipeE_cons (s : Env) (v : Nat) (vs : List Nat) : wipeE s (v :: vs) = (wipeE s vs).set v none := Eq.trans rfl rfl
@[simp] theorem nLc_ap (it : Env → R (List D)) (g : D → Env → R Env) (t : Env → R Bool) (elt : Env → R D) (own : List Nat) (s : Env) : nLc it g t elt own s = (it s).bind fun xs => if xs.length ≤ 1000000 then lcGo g t elt (wipeE s own) xs else .no := Eq.trans rfl rfl
@[simp] theorem sNext_ap (s : Env) : sNext s = .nx s := Eq.trans rfl rfl
@[simp] theorem sSeq_ap (F G : Env → Out) (s : Env) : sSeq F G s = (F s).seq G := Eq.trans rfl rfl
/-- what follows a value -/
def Out.vl {α : Type} (r : R α) (s : Env) (k : α → Out) : Out := match r with
  | .ok d => k d
  | .exc c n => .exc c n s
  | .no => .no
@[simp] theorem vl_ok {α : Type} (d : α) (s : Env) (k : α → Out) : Out.vl (.ok d) s k = k d := Eq.trans rfl rfl
@[simp] theorem vl_exc {α : Type} (c : Str) (n : Int) (s : Env) (k : α → Out) : Out.vl (.exc c n) s k = .exc c n s := Eq.trans rfl rfl
@[simp] theorem sRet_ap (f : Env → R D) (s : Env) : sRet f s = Out.vl (f s) s .rt := by unfold sRet Out.vl; cases f s <;> rfl
@[simp] theorem sSet_ap (i : Nat) (f : Env → R D) (s : Env) : sSet i f s = Out.vl (f s) s fun d => if i < s.length then .nx (s.set i (some (.d d))) else .no := by unfold sSet Out.vl; cases f s <;> rfl
@[simp] theorem sNew_ap (i : Nat) (f : Env → R (List D)) (s : Env) : sNew i f s = Out.vl (f s) s fun xs => if i < s.length then .nx (s.set i (some (.ol xs))) else .no := by unfold sNew Out.vl; cases f s <;> rfl
def Out.en : R Env → Out
  | .ok s => .nx s
  | _ => .no
@[simp] theorem en_ok (s : Env) : Out.en (.ok s) = .nx s := Eq.trans rfl rfl
@[simp] theorem sAsg_ap (g : D → Env → R Env) (f : Env → R D) (s : Env) : sAsg g f s = Out.vl (f s) s fun d => Out.en (g d s) := by
  unfold sAsg Out.vl; cases f s with
  | ok d => cases h : g d s <;> simp [Out.en, h]
  | exc c n => rfl
  | no => rfl
@[simp] theorem sDrop_ap (f : Env → R D) (s : Env) : sDrop f s = Out.vl (f s) s fun _ => .nx s := by unfold sDrop Out.vl; cases f s <;> rfl
@[simp] theorem sIf_ap (t : Env → R Bool) (F G : Env → Out) (s : Env) : sIf t F G s = Out.vl (t s) s fun b => if b = true then F s else G s := by unfold sIf Out.vl; cases t s <;> rfl
@[simp] theorem sFor_ap (it : Env → R (List D)) (g : D → Env → R Env) (F : Env → Out) (wp : List Nat) (s : Env) : sFor it g F wp s = Out.vl (it s) s fun xs => forD g F wp xs (wipeE s wp) := by unfold sFor Out.vl; cases it s <;> rfl
@[simp] theorem sWhile_ap (t : Env → R Bool) (F : Env → Out) (wp : List Nat) (n : Nat) (s : Env) : sWhile t F wp n s = whileD t F wp n s := Eq.trans rfl rfl
@[simp] theorem wNil_ap (s : Env) : wNil s = .ok [] := Eq.trans rfl rfl
@[simp] theorem wCons_ap (f : Env → R D) (g : Env → R (List SV)) (s : Env) : wCons f g s = (f s).bind fun x => (g s).bind fun xs => .ok (.d x :: xs) := Eq.trans rfl rfl
@[simp] theorem wNew_ap (f : Env → R (List D)) (g : Env → R (List SV)) (s : Env) : wNew f g s = (f s).bind fun x => (g s).bind fun xs => .ok (.ol x :: xs) := Eq.trans rfl rfl
@[simp] theorem sStore_ap (is : List Nat) (ws : Env → R (List SV)) (s : Env) : sStore is ws s = Out.vl (ws s) s fun svs => if svs.length = is.length ∧ okN is s.length = true then .nx (setN is svs s) else .no := by unfold sStore Out.vl; cases ws s <;> rfl
@[simp] theorem setN_nil {α : Type} (s : List (Option α)) : setN [] ([] : List α) s = s := Eq.trans rfl rfl
@[simp] theorem setN_cons {α : Type} (i : Nat) (is : List Nat) (v : α) (vs : List α) (s : List (Option α)) : setN (i :: is) (v :: vs) s = setN is vs (s.set i (some v)) := Eq.trans rfl rfl
@[simp] theorem okN_nil (n : Nat) : okN [] n = true := Eq.trans rfl rfl
@[simp] theorem okN_cons (i : Nat) (is : List Nat) (n : Nat) : okN (i :: is) n = (decide (i < n) && okN is n) := Eq.trans rfl rfl
def parK (i j : Nat) (s : Env) : List D → Out
  | [x, y] => if i < s.length ∧ j < s.length then .nx ((s.set i (some (.d x))).set j (some (.d y))) else .no
  | _ => .no
@[simp] theorem parK_ap (i j : Nat) (s : Env) (x y : D) : parK i j s [x, y] = if i < s.length ∧ j < s.length then .nx ((s.set i (some (.d x))).set j (some (.d y))) else .no := Eq.trans rfl rfl
@[simp] theorem sPar_ap (i j : Nat) (ga : Env → R (List D)) (s : Env) : sPar i j ga s = Out.vl (ga s) s (parK i j s) := by
  unfold sPar Out.vl
  cases ga s with
  | exc c n => rfl
  | no => rfl
  | ok ds => match ds with
    | [] => rfl
    | [_] => rfl
    | [_, _] => rfl
    | _ :: _ :: _ :: _ => rfl
def ownK : Option (Option SV) → (List D → Out) → Out
  | some (some (.ol xs)), k => k xs
  | _, _ => .no
@[simp] theorem ownK_ol (xs : List D) (k : List D → Out) : ownK (some (some (.ol xs))) k = k xs := Eq.trans rfl rfl
@[simp] theorem sApp_ap (i : Nat) (f : Env → R D) (s : Env) : sApp i f s = ownK s[i]? fun xs => Out.vl (f s) s fun d => if xs.length < 1000000 then .nx (s.set i (some (.ol (xs ++ [d])))) else .no := by
  unfold sApp ownK
  cases h : s[i]? with
  | none => rfl
  | some o => cases o with
    | none => rfl
    | some o => cases o with
      | d x => rfl
      | od x => rfl
      | ol x => unfold Out.vl; cases f s <;> rfl
def roK : Option (Option SV) → Out
  | some (some (.ol xs)) => .ro xs
  | some (some (.od xs)) => .rk xs
  | some (some (.d d)) => .rt d
  | _ => .no
@[simp] theorem roK_ol (xs : List D) : roK (some (some (.ol xs))) = .ro xs := Eq.trans rfl rfl
@[simp] theorem roK_d (xs : D) : roK (some (some (.d xs))) = .rt xs := Eq.trans rfl rfl
@[simp] theorem roK_od (xs : List (Key × D)) : roK (some (some (.od xs))) = .rk xs := Eq.trans rfl rfl
@[simp] theorem sRetO_ap (i : Nat) (s : Env) : sRetO i s = roK s[i]? := Eq.trans rfl rfl
@[simp] theorem eCall_ap (Fn : List D → FR) (ga : Env → R (List D)) (s : Env) : eCall Fn ga s = (ga s).bind fun ds => (Fn ds).R := Eq.trans rfl rfl
def FR.toN : FR → DV.R (List D)
  | .ol xs => .ok xs
  | .exc c n => .exc c n
  | _ => .no
@[simp] theorem FR.toN_ol (xs : List D) : (FR.ol xs).toN = .ok xs := Eq.trans rfl rfl
@[simp] theorem FR.toN_exc (c : Str) (n : Int) : (FR.exc c n).toN = .exc c n := Eq.trans rfl rfl
@[simp] theorem nCall_ap (Fn : List D → FR) (ga : Env → R (List D)) (s : Env) : nCall Fn ga s = (ga s).bind fun ds => (Fn ds).toN := by
  unfold nCall; congr
def FR.out (s : Env) : FR → Out
  | .val d => .rt d
  | .ol xs => .ro xs
  | .od xs => .rk xs
  | .exc c n => .exc c n s
  | .no => .no
@[simp] theorem FR.out_val (s : Env) (d : D) : (FR.val d).out s = .rt d := Eq.trans rfl rfl
@[simp] theorem FR.out_ol (s : Env) (d : List D) : (FR.ol d).out s = .ro d := Eq.trans rfl rfl
@[simp] theorem FR.out_exc (s : Env) (c : Str) (n : Int) : (FR.exc c n).out s = .exc c n s := Eq.trans rfl rfl
@[simp] theorem sRetC_ap (Fn : List D → FR) (ga : Env → R (List D)) (s : Env) : sRetC Fn ga s = Out.vl (ga s) s fun ds => (Fn ds).out s := by
  unfold sRetC Out.vl
  cases ga s with
  | ok ds => cases h : Fn ds <;> simp [FR.out, h]
  | exc c n => rfl
  | no => rfl
@[simp] theorem fr_nx (s : Env) : (Out.nx s).fr = .val .non := Eq.trans rfl rfl
@[simp] theorem fr_rt (d : D) : (Out.rt d).fr = .val d := Eq.trans rfl rfl
@[simp] theorem fr_ro (d : List D) : (Out.ro d).fr = .ol d := Eq.trans rfl rfl
@[simp] theorem fr_rk (d : List (Key × D)) : (Out.rk d).fr = .od d := Eq.trans rfl rfl
@[simp] theorem fr_exc (c : Str) (n : Int) (s : Env) : (Out.exc c n s).fr = .exc c n := Eq.trans rfl rfl
@[simp] theorem seq_if (p : Prop) [Decidable p] (a b : Out) (g : Env → Out) : (if p then a else b).seq g = if p then a.seq g else b.seq g := by split <;> rfl
theorem frz_ol {i : Nat} {s : Env} {xs : List D} (h : s[i]? = some (some (.ol xs))) : frz i s = s.set i (some (.d (.lst xs))) := by unfold frz; rw [h]
def frzK (i : Nat) (s : Env) : Option (Option SV) → Env
  | some (some (.ol xs)) => s.set i (some (.d (.lst xs)))
  | some (some (.od xs)) => s.set i (some (.d (.dct xs)))
  | _ => s
@[simp] theorem frz_ap (i : Nat) (s : Env) : frz i s = frzK i s s[i]? := Eq.trans rfl rfl
@[simp] theorem frzK_ol (i : Nat) (s : Env) (xs : List D) : frzK i s (some (some (.ol xs))) = s.set i (some (.d (.lst xs))) := Eq.trans rfl rfl
@[simp] theorem frzK_d (i : Nat) (s : Env) (xs : D) : frzK i s (some (some (.d xs))) = s := Eq.trans rfl rfl
@[simp] theorem frzK_none (i : Nat) (s : Env) : frzK i s (some none) = s := Eq.trans rfl rfl
@[simp] theorem fnD_1 (N : Nat) (Fb : Env → Out) (a : D) : fnD N 1 Fb [a] = (Fb (some (.d a) :: List.replicate (N - 1) none)).fr := Eq.trans rfl rfl
@[simp] theorem fnD_2 (N : Nat) (Fb : Env → Out) (a b : D) : fnD N 2 Fb [a, b] = (Fb (some (.d a) :: some (.d b) :: List.replicate (N - 2) none)).fr := Eq.trans rfl rfl
@[simp] theorem fnD_3 (N : Nat) (Fb : Env → Out) (a b c : D) : fnD N 3 Fb [a, b, c] = (Fb (some (.d a) :: some (.d b) :: some (.d c) :: List.replicate (N - 3) none)).fr := Eq.trans rfl rfl
@[simp] theorem fnD_4 (N : Nat) (Fb : Env → Out) (a b c d : D) : fnD N 4 Fb [a, b, c, d] = (Fb (some (.d a) :: some (.d b) :: some (.d c) :: some (.d d) :: List.replicate (N - 4) none)).fr := Eq.trans rfl rfl

/-! ### statements one behind the other -/
theorem run1 {F G : Env → Out} {s s' : Env} (h : F s = .nx s') : sSeq F G s = G s' := by rw [sSeq_ap, h, Out.seq_nx]
theorem seq_seq (o : Out) (G H : Env → Out) : o.seq (sSeq G H) = (o.seq G).seq H := by cases o <;> rfl
theorem run2 {F G H : Env → Out} {s s' : Env} (h : sSeq F G s = .nx s') : sSeq F (sSeq G H) s = H s' := by
  rw [sSeq_ap] at h
  rw [sSeq_ap, seq_seq, h, Out.seq_nx]
theorem run3 {F G H I : Env → Out} {s s' : Env} (h : sSeq F (sSeq G H) s = .nx s') : sSeq F (sSeq G (sSeq H I)) s = I s' := by
  rw [sSeq_ap, seq_seq] at h
  rw [sSeq_ap, seq_seq, seq_seq, h, Out.seq_nx]
theorem run4 {F G H I J : Env → Out} {s s' : Env} (h : sSeq F (sSeq G (sSeq H I)) s = .nx s') : sSeq F (sSeq G (sSeq H (sSeq I J))) s = J s' := by
  rw [sSeq_ap, seq_seq, seq_seq] at h
  rw [sSeq_ap, seq_seq, seq_seq, seq_seq, h, Out.seq_nx]

/-! ### loops -/
/-- a loop that goes on to its end, by an invariant on what is still to come -/
theorem forD_inv {g : D → Env → R Env} {F : Env → Out} {wp : List Nat} (I : List D → Env → Prop)
    (step : ∀ x xs s, I (x :: xs) s → ∃ s1 s2, g x s = .ok s1 ∧ (F s1 = .nx s2 ∨ F s1 = .ct s2) ∧ I xs (wipeE s2 wp)) :
    ∀ xs s, I xs s → ∃ s', forD g F wp xs s = .nx s' ∧ I [] s'
  | [], s, h => ⟨s, rfl, h⟩
  | x :: xs, s, h => by
    obtain ⟨s1, s2, h1, h2, h3⟩ := step x xs s h
    obtain ⟨s', h4, h5⟩ := forD_inv I step xs _ h3
    refine ⟨s', ?_, h5⟩
    rcases h2 with h2 | h2 <;> simp only [forD, h1, h2, h4]
/-- a loop as a fold: the state st a, the items d x -/
theorem forD_fold {α β : Type} {g : D → Env → R Env} {F : Env → Out} {wp : List Nat} (st : α → Env) (d : β → D) (f : α → β → α) (P : α → Prop)
    (step : ∀ a x, P a → P (f a x) ∧ ∃ s1 s2, g (d x) (st a) = .ok s1 ∧ (F s1 = .nx s2 ∨ F s1 = .ct s2) ∧ wipeE s2 wp = st (f a x)) :
    ∀ (xs : List β) (a : α), P a → forD g F wp (xs.map d) (st a) = .nx (st (xs.foldl f a)) ∧ P (xs.foldl f a)
  | [], a, h => ⟨rfl, h⟩
  | x :: xs, a, h => by
    obtain ⟨hp, s1, s2, h1, h2, h3⟩ := step a x h
    have ih := forD_fold st d f P step xs (f a x) hp
    refine ⟨?_, ih.2⟩
    rw [List.map_cons, List.foldl_cons]
    rcases h2 with h2 | h2 <;> simp only [forD, h1, h2, h3, ih.1]
/-- a loop over places: item i of xs -/
theorem forD_at {α : Type} {g : D → Env → R Env} {F : Env → Out} {wp : List Nat} (xs : List D) (st : α → Env) (a : Nat → α)
    (step : ∀ i x, xs[i]? = some x → ∃ s1 s2, g x (st (a i)) = .ok s1 ∧ (F s1 = .nx s2 ∨ F s1 = .ct s2) ∧ wipeE s2 wp = st (a (i + 1))) :
    forD g F wp xs (st (a 0)) = .nx (st (a xs.length)) := by
  have go : ∀ (ys : List D) (i : Nat), (∀ j x, ys[j]? = some x → xs[i + j]? = some x) → forD g F wp ys (st (a i)) = .nx (st (a (i + ys.length))) := by
    intro ys
    induction ys with
    | nil => intro i _; rfl
    | cons y ys ih =>
      intro i h
      obtain ⟨s1, s2, h1, h2, h3⟩ := step i y (h 0 y rfl)
      have := ih (i + 1) fun j x e => by
        have := h (j + 1) x (by simpa using e)
        rwa [show i + 1 + j = i + (j + 1) by omega]
      rw [List.length_cons, show i + (ys.length + 1) = i + 1 + ys.length by omega, ← this]
      rcases h2 with h2 | h2 <;> simp only [forD, h1, h2, h3]
  have := go xs 0 fun j x e => by simpa using e
  simpa using this
/-- a comprehension as a map -/
theorem lcGo_map {β γ : Type} {g : D → Env → R Env} {t : Env → R Bool} {elt : Env → R D} {s : Env} (d : β → D) (f : β → D)
    : ∀ (xs : List β), (∀ x ∈ xs, ∃ s1, g (d x) s = .ok s1 ∧ t s1 = .ok true ∧ elt s1 = .ok (f x)) → lcGo g t elt s (xs.map d) = .ok (xs.map f)
  | [], _ => rfl
  | x :: xs, h => by
    obtain ⟨s1, h1, h2, h3⟩ := h x (by simp)
    have ih := lcGo_map (γ := γ) d f xs fun y hy => h y (by simp [hy])
    simp [lcGo, h1, h2, h3, ih]
/-- a comprehension as a filtered map -/
theorem lcGo_filter {β : Type} {g : D → Env → R Env} {t : Env → R Bool} {elt : Env → R D} {s : Env} (d : β → D) (p : β → Bool) (f : β → D)
    : ∀ (xs : List β), (∀ x ∈ xs, ∃ s1, g (d x) s = .ok s1 ∧ t s1 = .ok (p x) ∧ (p x = true → elt s1 = .ok (f x))) → lcGo g t elt s (xs.map d) = .ok ((xs.filter p).map f)
  | [], _ => rfl
  | x :: xs, h => by
    obtain ⟨s1, h1, h2, h3⟩ := h x (by simp)
    have ih := lcGo_filter d p f xs fun y hy => h y (by simp [hy])
    by_cases hp : p x = true
    · simp [lcGo, h1, h2, h3 hp, ih, hp]
    · have hp' : p x = false := by simpa using hp
      simp [lcGo, h1, h2, ih, hp']
theorem rngD_length (lo : Int) (n : Nat) : (rngD lo n).length = n := by simp [rngD]
theorem enumD_length (xs : List D) : (enumD xs).length = xs.length := by simp [enumD]
theorem whileD_step {t : Env → R Bool} {F : Env → Out} {wp : List Nat} {n : Nat} {s s2 : Env} (h : t s = .ok true) (h2 : F s = .nx s2 ∨ F s = .ct s2) : whileD t F wp (n + 1) s = whileD t F wp n (wipeE s2 wp) := by
  rcases h2 with h2 | h2 <;> simp only [whileD, h, h2]
theorem whileD_end {t : Env → R Bool} {F : Env → Out} {wp : List Nat} {n : Nat} {s : Env} (h : t s = .ok false) : whileD t F wp (n + 1) s = .nx s := by
  simp only [whileD, h]
/-- a while loop that counts up from lo to the first place that p holds at -/
theorem whileD_count {α : Type} {t : Env → R Bool} {F : Env → Out} {wp : List Nat} (st : Nat → Env) (m : Nat) (ht : ∀ i, i < m → t (st i) = .ok true ∧ ∃ s2, (F (st i) = .nx s2 ∨ F (st i) = .ct s2) ∧ wipeE s2 wp = st (i + 1)) (he : t (st m) = .ok false) :
    ∀ (k i fuel : Nat), i + k = m → k < fuel → whileD t F wp fuel (st i) = .nx (st m)
  | 0, i, fuel + 1, h, _ => by
    have : i = m := by omega
    subst this
    exact whileD_end he
  | k + 1, i, fuel + 1, h, hf => by
    obtain ⟨h1, s2, h2, h3⟩ := ht i (by omega)
    rw [whileD_step h1 h2, h3]
    exact whileD_count (α := α) st m ht he k (i + 1) fuel (by omega) (by omega)

/-! ### repr, equality -/
/-- data that repr shows in short: depth at most k, size at most n -/
inductive Fit : Nat → Nat → D → Prop
  | non {k n : Nat} : Fit k n .non
  | bl {k n : Nat} (b : Bool) : Fit k n (.bl b)
  | int {k n : Nat} {i : Int} (h : i.natAbs < 1000000000000) : Fit k n (.int i)
  | lst {k n m : Nat} {xs : List D} (h : ∀ x ∈ xs, Fit k n x) (hl : xs.length * (n + 1) ≤ m) : Fit (k + 1) m (.lst xs)
  | tup {k n m : Nat} {xs : List D} (h : ∀ x ∈ xs, Fit k n x) (hl : xs.length * (n + 1) ≤ m) : Fit (k + 1) m (.tup xs)
def FitP (k n : Nat) (d : D) : Prop := d.plain = true ∧ d.pd.showable = true ∧ d.pd.hasDict = false ∧ d.pd.depth ≤ k ∧ d.pd.leavesShort 13 = true ∧ d.pd.bulk ≤ n
theorem FitP.all {k n : Nat} : ∀ xs : List D, (∀ x ∈ xs, FitP k n x) → D.plains xs = true ∧ PyData.showableAll (D.pds xs) = true ∧ PyData.hasDictAll (D.pds xs) = false ∧ PyData.depthAll (D.pds xs) ≤ k ∧ PyData.leavesShortAll 13 (D.pds xs) = true ∧ PyData.bulkAll (D.pds xs) ≤ xs.length * (n + 1)
  | [], _ => by simp [D.plains, D.pds, PyData.showableAll, PyData.hasDictAll, PyData.depthAll, PyData.leavesShortAll, PyData.bulkAll]
  | x :: xs, h => by
    obtain ⟨a1, a2, a3, a4, a5, a6⟩ := h x (by simp)
    obtain ⟨b1, b2, b3, b4, b5, b6⟩ := FitP.all xs fun y hy => h y (by simp [hy])
    refine ⟨by simp [D.plains, a1, b1], by simp [D.pds, PyData.showableAll, a2, b2], by simp [D.pds, PyData.hasDictAll, a3, b3], ?_, by simp [D.pds, PyData.leavesShortAll, a5, b5], ?_⟩
    · simp only [D.pds, PyData.depthAll]; omega
    · simp only [D.pds, PyData.bulkAll, List.length_cons, Nat.succ_mul]; omega
theorem Fit.p {k n : Nat} {d : D} (h : Fit k n d) : FitP k n d := by
  induction h with
  | non => simp [FitP, D.plain, D.pd, PyData.showable, PyData.hasDict, PyData.depth, PyData.leavesShort, PyData.bulk]
  | bl b => simp [FitP, D.plain, D.pd, PyData.showable, PyData.hasDict, PyData.depth, PyData.leavesShort, PyData.bulk]
  | @int k n i h =>
    have h1 := PyData.shown_int_le (i := i) (by simpa using h)
    have h2 : i.natAbs.log2 < 1920 := by
      by_cases h0 : i.natAbs = 0
      · rw [h0]; decide
      · rw [Nat.log2_lt h0]
        exact Nat.lt_of_lt_of_le h (by decide)
    simp [FitP, D.plain, D.pd, PyData.showable, PyData.hasDict, PyData.depth, PyData.leavesShort, PyData.bulk, h2]
    simpa [PyData.shown] using h1
  | @lst k n m xs h hl ih =>
    obtain ⟨b1, b2, b3, b4, b5, b6⟩ := FitP.all xs ih
    refine ⟨by simpa [D.plain] using b1, by simpa [D.pd, PyData.showable] using b2, by simpa [D.pd, PyData.hasDict] using b3, ?_, by simpa [D.pd, PyData.leavesShort] using b5, ?_⟩
    · simp only [D.pd, PyData.depth]; omega
    · simp only [D.pd, PyData.bulk]; omega
  | @tup k n m xs h hl ih =>
    obtain ⟨b1, b2, b3, b4, b5, b6⟩ := FitP.all xs ih
    refine ⟨by simpa [D.plain] using b1, by simpa [D.pd, PyData.showable] using b2, by simpa [D.pd, PyData.hasDict] using b3, ?_, by simpa [D.pd, PyData.leavesShort] using b5, ?_⟩
    · simp only [D.pd, PyData.depth]; omega
    · simp only [D.pd, PyData.bulk]; omega
theorem Fit.repr {k n : Nat} {d : D} (h : Fit k n d) (hk : k ≤ 60) (hn : n ≤ 60000) : reprD [d] = .ok (.str d.pd.shown) := by
  obtain ⟨h1, h2, h3, h4, h5, h6⟩ := h.p
  have h7 := PyData.shown_le_bulk 13 (by decide) d.pd h5
  rw [reprD, if_pos ⟨h1, h2, h3, by omega, by omega⟩]
theorem Fit.mono {k n k' n' : Nat} {d : D} (h : Fit k n d) (hk : k ≤ k') (hn : n ≤ n') : Fit k' n' d := by
  induction h generalizing k' n' with
  | non => exact .non
  | bl b => exact .bl b
  | int h => exact .int h
  | @lst k n m xs h hl ih =>
    obtain ⟨k', rfl⟩ : ∃ j, k' = j + 1 := ⟨k' - 1, by omega⟩
    exact .lst (fun x hx => ih x hx (by omega) (Nat.le_refl _)) (by omega)
  | @tup k n m xs h hl ih =>
    obtain ⟨k', rfl⟩ : ∃ j, k' = j + 1 := ⟨k' - 1, by omega⟩
    exact .tup (fun x hx => ih x hx (by omega) (Nat.le_refl _)) (by omega)
theorem eqv_self {d : D} (h : d.plain = true) : eqvD d d = true := SeqAt.eqv_refl_plain _ (D.pd_plain d h)
theorem Fit.eqs {k n : Nat} {d : D} (h : Fit k n d) (hk : k ≤ 60) : eqD d d = .ok (.bl true) := by
  obtain ⟨h1, h2, h3, h4, h5, h6⟩ := h.p
  rw [eqD, if_pos ⟨h1, h1, by omega⟩, eqv_self h1]
theorem Fit.nes {k n : Nat} {d : D} (h : Fit k n d) (hk : k ≤ 60) : neD d d = .ok (.bl false) := by
  obtain ⟨h1, h2, h3, h4, h5, h6⟩ := h.p
  rw [neD, if_pos ⟨h1, h1, by omega⟩, eqv_self h1]; rfl
@[simp] theorem eqD_str (x y : Str) : eqD (.str x) (.str y) = .ok (.bl (decide (x = y))) := by
  rw [eqD, if_pos ⟨rfl, rfl, by simp [D.pd, PyData.depth]⟩]
  have : eqvD (.str x) (.str y) = decide (x = y) := by
    simp only [eqvD, D.pd, PyData.eqv]
    by_cases h : x = y <;> simp [h]
  rw [this]
@[simp] theorem neD_str (x y : Str) : neD (.str x) (.str y) = .ok (.bl (!decide (x = y))) := by
  rw [neD, if_pos ⟨rfl, rfl, by simp [D.pd, PyData.depth]⟩]
  have : eqvD (.str x) (.str y) = decide (x = y) := by
    simp only [eqvD, D.pd, PyData.eqv]
    by_cases h : x = y <;> simp [h]
  rw [this]
theorem eqvD_int (x y : Int) : eqvD (.int x) (.int y) = decide (x = y) := by
  simp only [eqvD, D.pd, PyData.eqv]
  by_cases h : x = y <;> simp [h]
@[simp] theorem eqD_int (x y : Int) : eqD (.int x) (.int y) = .ok (.bl (decide (x = y))) := by
  rw [eqD, if_pos ⟨rfl, rfl, by simp [D.pd, PyData.depth]⟩, eqvD_int]
@[simp] theorem neD_int (x y : Int) : neD (.int x) (.int y) = .ok (.bl (!decide (x = y))) := by
  rw [neD, if_pos ⟨rfl, rfl, by simp [D.pd, PyData.depth]⟩, eqvD_int]
end DV

/-! ### the numbers that a law draws from its script, alike in all laws; the defs are those that gen.py prints -/
namespace DV.Draw
open PySem L2 PySem.Spec PyProof.Rows DV
def lg__law_draws_5 : D → DV.Env → R DV.Env := gSet 4
def lb__law_draws_5 : DV.Env → Out := sIf (tOf (e2 gtD (eVar 3) (eC (.int 0)))) (sSeq (sApp 1 (e2 modD (eB intD (aCons (eVar 3) (aNil))) (eC (.int 65536)))) (sSet 3 (e2 fdivD (eVar 3) (eC (.int 65536))))) (sNext)
def st__law_draws_10 : DV.Env → Out := sSet 5 (e2 modD (eB intD (aCons (e2 addD (e2 mulD (eVar 3) (eC (.int 48271))) (e2 mulD (e2 addD (eVar 2) (eC (.int 1))) (eC (.int 69621)))) (aNil))) (eC (.int 2147483647)))
def st__law_draws_11 : DV.Env → Out := sSet 5 (e2 modD (eB intD (aCons (e2 addD (e2 addD (e2 mulD (eVar 5) (eC (.int 16807))) (e2 mulD (eC (.int 11)) (eVar 2))) (eC (.int 5))) (aNil))) (eC (.int 2147483629)))
def st__law_draws_4 : DV.Env → Out := sIf (tOf (e2 geD (eVar 3) (e2 powD (eC (.int 10)) (eC (.int 18))))) (sFor (iRange1 (aCons (eC (.int 60)) (aNil))) (lg__law_draws_5) (lb__law_draws_5) [4]) (sSeq (st__law_draws_10) (sSeq (st__law_draws_11) (sSeq (sApp 1 (e2 modD (eB intD (aCons (eVar 5) (aNil))) (eC (.int 65536)))) (sApp 1 (e2 modD (eB intD (aCons (e2 fdivD (eVar 5) (eC (.int 65536))) (aNil))) (eC (.int 32768)))))))
def lg__law_draws_2 : D → DV.Env → R DV.Env := gSet 2
def lb__law_draws_2 : DV.Env → Out := sSeq (sSet 3 (eB absD (aCons (e2 ixD (eVar 0) (eVar 2)) (aNil)))) (st__law_draws_4)
def st__law_draws_2b : DV.Env → Out := sFor (iRange1 (aCons (eB min2D (aCons (eC (.int 63)) (aCons (eB lenD (aCons (eVar 0) (aNil))) (aNil)))) (aNil))) (lg__law_draws_2) (lb__law_draws_2) [2, 3, 4, 5]
def b__law_draws : DV.Env → Out := sSeq (sNew 1 (nLst (aNil))) (sSeq (st__law_draws_2b) (sRetO 1))
def F__law_draws : List D → FR := fnD 6 1 b__law_draws
def st__law_mix_2 : DV.Env → Out := sIf (tOf (e2 gtD (eB lenD (aCons (eVar 0) (aNil))) (eC (.int 0)))) (sSet 3 (e2 ixD (eVar 0) (e2 modD (eB intD (aCons (eVar 1) (aNil))) (eB lenD (aCons (eVar 0) (aNil)))))) (sNext)
def st__law_mix_4 : DV.Env → Out := sIf (tOf (e2 ltD (eVar 1) (eB lenD (aCons (eVar 0) (aNil))))) (sRet (e2 modD (eB intD (aCons (eVar 3) (aNil))) (eVar 2))) (sNext)
def st__law_mix_6 : DV.Env → Out := sRet (e2 modD (eB intD (aCons (e2 fdivD (eB intD (aCons (e2 addD (e2 mulD (eVar 3) (eC (.int 7919))) (e2 mulD (eVar 1) (eC (.int 104729)))) (aNil))) (eC (.int 3))) (aNil))) (eVar 2))
def b__law_mix : DV.Env → Out := sSeq (sSet 3 (eC (.int 0))) (sSeq (st__law_mix_2) (sSeq (st__law_mix_4) (st__law_mix_6)))
def F__law_mix : List D → FR := fnD 4 3 b__law_mix

/-- what was drawn so far: none more than 65535 -/
def Drawn (ds : List Int) : Prop := ∀ d ∈ ds, 0 ≤ d ∧ d < 65536
theorem Drawn.snoc {ds : List Int} {d : Int} (h : Drawn ds) (h0 : 0 ≤ d) (h1 : d < 65536) : Drawn (ds ++ [d]) := by
  intro x hx
  rcases List.mem_append.mp hx with hx | hx
  · exact h x hx
  · rw [List.mem_singleton.mp hx]; exact ⟨h0, h1⟩

def stD (ns ds : List Int) : DV.Env := [some (.d (.scr ns)), some (.ol (ds.map D.int)), none, none, none, none]
theorem turn_in (ns ds : List Int) (k : Int) (hl : ds.length ≤ 3780) (hd : Drawn ds) (r : Int) (hr : 0 ≤ r) :
    ∃ rs r', forD lg__law_draws_5 lb__law_draws_5 [4] (rngD 0 60) [some (.d (.scr ns)), some (.ol (ds.map D.int)), some (.d (.int k)), some (.d (.int r)), none, none] = .nx [some (.d (.scr ns)), some (.ol ((ds ++ rs).map D.int)), some (.d (.int k)), some (.d (.int r')), none, none] ∧ Drawn (ds ++ rs) ∧ rs.length ≤ 60 := by
  have loop := forD_inv (g := lg__law_draws_5) (F := lb__law_draws_5) (wp := [4])
    (fun ys s => ∃ (rs : List Int) (r' : Int), s = [some (.d (.scr ns)), some (.ol ((ds ++ rs).map D.int)), some (.d (.int k)), some (.d (.int r')), none, none] ∧ Drawn (ds ++ rs) ∧ 0 ≤ r' ∧ rs.length + ys.length ≤ 60)
    ?inner (rngD 0 60) [some (.d (.scr ns)), some (.ol (ds.map D.int)), some (.d (.int k)), some (.d (.int r)), none, none] ⟨[], r, by simp, by simpa using hd, hr, by simp [rngD_length]⟩
  · obtain ⟨s', h1, rs, r', rfl, h3, h4, h5⟩ := loop
    exact ⟨rs, r', h1, h3, by simpa using h5⟩
  · rintro y ys s ⟨rs, r', rfl, h1, h2, h3⟩
    simp only [List.length_cons] at h3
    by_cases hp : 0 < r'
    · refine ⟨[some (.d (.scr ns)), some (.ol ((ds ++ rs).map D.int)), some (.d (.int k)), some (.d (.int r')), some (.d y), none], [some (.d (.scr ns)), some (.ol ((ds ++ (rs ++ [r' % 65536])).map D.int)), some (.d (.int k)), some (.d (.int (r' / 65536))), some (.d y), none], by simp [lg__law_draws_5], .inl ?_, rs ++ [r' % 65536], r' / 65536, by simp, ?_, by omega, by simp; omega⟩
      · have : ds.length + rs.length < 1000000 := by omega
        simp [lb__law_draws_5, hp, this]
      · rw [← List.append_assoc]
        exact h1.snoc (by omega) (by omega)
    · refine ⟨[some (.d (.scr ns)), some (.ol ((ds ++ rs).map D.int)), some (.d (.int k)), some (.d (.int r')), some (.d y), none], [some (.d (.scr ns)), some (.ol ((ds ++ rs).map D.int)), some (.d (.int k)), some (.d (.int r')), some (.d y), none], by simp [lg__law_draws_5], .inl ?_, rs, r', by simp, h1, h2, by omega⟩
      simp [lb__law_draws_5, hp]
theorem turn_out (ns ds : List Int) (k : Nat) (hk : k < ns.length) (hl : ds.length ≤ 3720) (hd : Drawn ds) :
    ∃ es, lb__law_draws_2 [some (.d (.scr ns)), some (.ol (ds.map D.int)), some (.d (.int (k : Int))), none, none, none] = .nx es ∧ ∃ rs, wipeE es [2, 3, 4, 5] = stD ns (ds ++ rs) ∧ Drawn (ds ++ rs) ∧ rs.length ≤ 60 := by
  have hat : ixD (.scr ns) (.int (k : Int)) = .ok (.int ns[k]) := ixD_scr (by omega) (by simp [hk])
  generalize hr : (if ns[k] < 0 then -ns[k] else ns[k]) = r
  have hnn : (0 : Int) ≤ r := by rw [← hr]; split <;> omega
  by_cases hbig : (1000000000000000000 : Int) ≤ r
  · obtain ⟨rs, r', h1, h2, h3⟩ := turn_in ns ds k (by omega) hd r hnn
    refine ⟨[some (.d (.scr ns)), some (.ol ((ds ++ rs).map D.int)), some (.d (.int (k : Int))), some (.d (.int r')), none, none], ?_, rs, by simp [stD], h2, h3⟩
    simp [lb__law_draws_2, st__law_draws_4, hat, hr, hbig, h1]
  · have h1 : ds.length < 1000000 := by omega
    have h2 : ds.length + 1 < 1000000 := by omega
    have h3 : (-18446744073709551616 < r ∧ r < 18446744073709551616) := by omega
    refine ⟨[some (.d (.scr ns)), some (.ol ((ds ++ [(((r * 48271 + (k + 1) * 69621) % 2147483647 * 16807 + 11 * k + 5) % 2147483629) % 65536, (((r * 48271 + (k + 1) * 69621) % 2147483647 * 16807 + 11 * k + 5) % 2147483629) / 65536 % 32768]).map D.int)), some (.d (.int (k : Int))), some (.d (.int r)), none, some (.d (.int (((r * 48271 + (k + 1) * 69621) % 2147483647 * 16807 + 11 * k + 5) % 2147483629)))], ?_, [_, _], by simp [stD]; exact ⟨rfl, rfl⟩, ?_, ?_⟩
    · simp [lb__law_draws_2, st__law_draws_4, st__law_draws_10, st__law_draws_11, hat, hr, hbig, h1, h2]
    · have := (hd.snoc (d := (((r * 48271 + (k + 1) * 69621) % 2147483647 * 16807 + 11 * k + 5) % 2147483629) % 65536) (by omega) (by omega)).snoc (d := (((r * 48271 + (k + 1) * 69621) % 2147483647 * 16807 + 11 * k + 5) % 2147483629) / 65536 % 32768) (by omega) (by omega)
      simpa using this
    · simp

theorem draws_ok (ns : List Int) (hn : ns.length ≤ 63) : ∃ ds : List Int, F__law_draws [.scr ns] = .ol (ds.map D.int) ∧ Drawn ds ∧ ds.length ≤ 3780 := by
  have key := forD_inv (g := lg__law_draws_2) (F := lb__law_draws_2) (wp := [2, 3, 4, 5])
      (fun xs s => ∃ k : Nat, xs = (rngD 0 ns.length).drop k ∧ k + xs.length = ns.length ∧ ∃ ds, s = stD ns ds ∧ Drawn ds ∧ ds.length ≤ 60 * k) ?step (rngD 0 ns.length) (stD ns []) ⟨0, rfl, by simp [rngD_length], [], rfl, fun _ h => by simp at h, by simp⟩
  · obtain ⟨s', h, k, e, hk, ds, h2, h3, h4⟩ := key
    refine ⟨ds, ?_, h3, by simp at hk; omega⟩
    have hmin : (if (ns.length : Int) < 63 then (ns.length : Int) else 63) = ns.length := by split <;> omega
    have hb1 : (ns.length : Int) < 4611686018427387904 := by omega
    have hb2 : (-4611686018427387904 : Int) ≤ ns.length := by omega
    simp only [stD, List.map_nil] at h
    simp [F__law_draws, b__law_draws, st__law_draws_2b, hmin, hb1, hb2, h, h2, stD]
  · rintro x xs s ⟨k, e, hk, ds, rfl, hd, hl⟩
    have hk1 : k < ns.length := by simp at hk; omega
    have hx : x = .int k := by
      have := congrArg List.head? e
      simp [rngD, List.head?_drop, hk1] at this
      exact this
    have hxs : xs = (rngD 0 ns.length).drop (k + 1) := by
      have := congrArg List.tail e
      simpa using this
    subst hx
    obtain ⟨es, h1, rs, h2, h3, h4⟩ := turn_out ns ds k hk1 (by omega) hd
    exact ⟨[some (.d (.scr ns)), some (.ol (ds.map D.int)), some (.d (.int (k : Int))), none, none, none], es, by simp [stD, lg__law_draws_2], .inl h1, k + 1, hxs, by simp at hk; omega, ds ++ rs, h2, h3, by simp; omega⟩

/-- a number below many, mixed of what was drawn -/
theorem mix_ok (ds : List Int) (hd : Drawn ds) (k many : Int) (hk : 0 ≤ k) (hm : 0 < many) : ∃ r : Int, F__law_mix [.lst (ds.map D.int), .int k, .int many] = .val (.int r) ∧ 0 ≤ r ∧ r < many := by
  by_cases hl : 0 < ds.length
  · have hl' : (0 : Int) < ds.length := by omega
    have h0 : 0 ≤ k % (ds.length : Int) := Int.emod_nonneg _ (by omega)
    have h1 : k % (ds.length : Int) < ds.length := Int.emod_lt_of_pos _ hl'
    obtain ⟨c, hc⟩ : ∃ c, ds[(k % (ds.length : Int)).toNat]? = some c := ⟨ds[(k % (ds.length : Int)).toNat]'(by omega), by simp⟩
    have hat := ixD_ints h0 hc
    by_cases hlt : k < (ds.length : Int)
    · refine ⟨c % many, ?_, Int.emod_nonneg _ (by omega), Int.emod_lt_of_pos _ hm⟩
      simp [F__law_mix, b__law_mix, st__law_mix_2, st__law_mix_4, hl, hat, hlt, hm]
    · refine ⟨(c * 7919 + k * 104729) / 3 % many, ?_, Int.emod_nonneg _ (by omega), Int.emod_lt_of_pos _ hm⟩
      · simp [F__law_mix, b__law_mix, st__law_mix_2, st__law_mix_4, st__law_mix_6, hl, hat, hlt, hm]
  · have h0 : ds = [] := by
      cases ds with
      | nil => rfl
      | cons a b => simp at hl
    subst h0
    refine ⟨(k * 104729) / 3 % many, ?_, Int.emod_nonneg _ (by omega), Int.emod_lt_of_pos _ hm⟩
    · have hlt : ¬ k < 0 := by omega
      simp [F__law_mix, b__law_mix, st__law_mix_2, st__law_mix_4, st__law_mix_6, hlt, hm]
/-- the number that is mixed -/
def mixV (ds : List Int) (k many : Int) : Int := match F__law_mix [.lst (ds.map D.int), .int k, .int many] with
  | .val (.int r) => r
  | _ => 0
theorem mixV_ok (ds : List Int) (hd : Drawn ds) (k many : Int) (hk : 0 ≤ k) (hm : 0 < many) : F__law_mix [.lst (ds.map D.int), .int k, .int many] = .val (.int (mixV ds k many)) ∧ 0 ≤ mixV ds k many ∧ mixV ds k many < many := by
  obtain ⟨r, h, h0, h1⟩ := mix_ok ds hd k many hk hm
  have : mixV ds k many = r := by unfold mixV; rw [h]
  rw [this]; exact ⟨h, h0, h1⟩
end DV.Draw

/-! orders for a store, told plainly -/
namespace St
theorem snoc_ind {α : Type} {P : List α → Prop} (h0 : P []) (h1 : ∀ xs x, P xs → P (xs ++ [x])) (xs : List α) : P xs := by
  have go : ∀ ys : List α, P ys.reverse := by
    intro ys
    induction ys with
    | nil => exact h0
    | cons y ys ih => rw [List.reverse_cons]; exact h1 _ _ ih
  have := go xs.reverse
  rwa [List.reverse_reverse] at this
/-- pieces of a state: sold so far, packs ordered day by day, what each day found -/
structure S where
  sold : Int
  os : List Int
  fs : List (Int × Int × Int)
def came (w : Nat) (os : List Int) : Int := (os.take (os.length + 1 - w)).sum
def here (t p : Int) (w : Nat) (s : S) : Int := t + p * came w s.os - s.sold
def goes (t p : Int) (w : Nat) (s : S) (n : Int) : Int := if n < here t p w s then n else here t p w s
def many (t l p : Int) (w : Nat) (s : S) (n : Int) : Int :=
  let k := -((here t p w s - goes t p w s n + p * (s.os.sum - came w s.os) - l) / p)
  if k > 0 then k else 0
def step (t l p : Int) (w : Nat) (s : S) (n : Int) : S :=
  ⟨s.sold + goes t p w s n, s.os ++ [many t l p w s n], s.fs ++ [(here t p w s - goes t p w s n, n - goes t p w s n, many t l p w s n)]⟩
def sim (t l p : Int) (w : Nat) (ns : List Int) : S := ns.foldl (step t l p w) ⟨0, [], []⟩
def lost (t l p : Int) (w : Nat) (ns : List Int) : Int := ((sim t l p w ns).fs.map fun r => r.2.1).sum
theorem sim_snoc (t l p : Int) (w : Nat) (ns : List Int) (n : Int) : sim t l p w (ns ++ [n]) = step t l p w (sim t l p w ns) n := by
  simp [sim, List.foldl_append]
theorem os_len (t l p : Int) (w : Nat) (ns : List Int) : (sim t l p w ns).os.length = ns.length := by
  induction ns using snoc_ind with
  | h0 => rfl
  | h1 ns n ih => rw [sim_snoc]; simp [step, ih]
theorem fs_len (t l p : Int) (w : Nat) (ns : List Int) : (sim t l p w ns).fs.length = ns.length := by
  induction ns using snoc_ind with
  | h0 => rfl
  | h1 ns n ih => rw [sim_snoc]; simp [step, ih]
/-- lost is what was asked less what was sold -/
theorem lost_eq (t l p : Int) (w : Nat) (ns : List Int) : lost t l p w ns = ns.sum - (sim t l p w ns).sold := by
  unfold lost
  induction ns using snoc_ind with
  | h0 => rfl
  | h1 ns n ih =>
    rw [sim_snoc]
    simp only [step, List.map_append, List.sum_append, ih, List.map_cons, List.map_nil, List.sum_cons, List.sum_nil]
    omega
theorem orders_eq (t l p : Int) (w : Nat) (ns : List Int) : (sim t l p w ns).fs.map (fun r => r.2.2) = (sim t l p w ns).os := by
  induction ns using snoc_ind with
  | h0 => rfl
  | h1 ns n ih => rw [sim_snoc]; simp [step, ih]
theorem many_nonneg (t l p : Int) (w : Nat) (s : S) (n : Int) : 0 ≤ many t l p w s n := by
  unfold many; dsimp only; split <;> omega
theorem os_nonneg (t l p : Int) (w : Nat) (ns : List Int) : ∀ k ∈ (sim t l p w ns).os, 0 ≤ k := by
  induction ns using snoc_ind with
  | h0 => intro k hk; simp [sim] at hk
  | h1 ns n ih =>
    rw [sim_snoc]
    intro k hk
    simp only [step, List.mem_append, List.mem_singleton] at hk
    rcases hk with hk | rfl
    · exact ih k hk
    · exact many_nonneg ..
theorem sum_nonneg {ns : List Int} (h : ∀ k ∈ ns, 0 ≤ k) : 0 ≤ ns.sum := by
  induction ns with
  | nil => simp
  | cons a b ih =>
    have := h a (by simp)
    have := ih fun k hk => h k (by simp [hk])
    simp only [List.sum_cons]; omega
theorem came_nonneg {w : Nat} {os : List Int} (h : ∀ k ∈ os, 0 ≤ k) : 0 ≤ came w os := sum_nonneg fun k hk => h k (List.mem_of_mem_take hk)
/-- all that is ordered after a day: as if it were told afresh -/
theorem total_eq (t l p : Int) (w : Nat) (s : S) (n : Int) (hp : 0 < p) : (step t l p w s n).os.sum = max s.os.sum (-((t - (step t l p w s n).sold - l) / p)) := by
  have e : (here t p w s - goes t p w s n + p * (s.os.sum - came w s.os) - l) = (t - (s.sold + goes t p w s n) - l) + p * s.os.sum := by
    unfold here
    rw [Int.mul_sub]
    omega
  simp only [step, List.sum_append, List.sum_cons, List.sum_nil]
  unfold many
  dsimp only
  rw [e, Int.add_mul_ediv_left _ _ (by omega : p ≠ 0)]
  split <;> omega
theorem sold_eq (t l p : Int) (w : Nat) (s : S) (n : Int) : (step t l p w s n).sold = min (t + p * came w s.os) (s.sold + n) := by
  simp only [step]
  unfold goes here
  split <;> omega
theorem take_sum_snoc (os : List Int) (k : Int) (i : Nat) : ((os ++ [k]).take i).sum = if i ≤ os.length then (os.take i).sum else os.sum + k := by
  split
  · rename_i h
    rw [List.take_append_of_le_length h]
  · rename_i h
    rw [List.take_of_length_le (by simp; omega)]
    simp
/-- with a greater least stock no less is ordered and no less is sold -/
theorem mono {t l l' p : Int} {w : Nat} (hp : 0 < p) (hl : l ≤ l') (ns : List Int) : (sim t l p w ns).sold ≤ (sim t l' p w ns).sold ∧ ∀ i, ((sim t l p w ns).os.take i).sum ≤ ((sim t l' p w ns).os.take i).sum := by
  induction ns using snoc_ind with
  | h0 => exact ⟨Int.le_refl _, fun i => Int.le_refl _⟩
  | h1 ns n ih =>
    obtain ⟨h1, h2⟩ := ih
    have hlen : (sim t l p w ns).os.length = (sim t l' p w ns).os.length := by rw [os_len, os_len]
    rw [sim_snoc, sim_snoc]
    have hc : came w (sim t l p w ns).os ≤ came w (sim t l' p w ns).os := by
      unfold came; rw [← hlen]; exact h2 _
    have hs : (step t l p w (sim t l p w ns) n).sold ≤ (step t l' p w (sim t l' p w ns) n).sold := by
      rw [sold_eq, sold_eq]
      have := Int.mul_le_mul_of_nonneg_left hc (by omega : 0 ≤ p)
      omega
    have hall : (sim t l p w ns).os.sum ≤ (sim t l' p w ns).os.sum := by
      have := h2 (sim t l p w ns).os.length
      rwa [List.take_length, hlen, List.take_length] at this
    have ht : (step t l p w (sim t l p w ns) n).os.sum ≤ (step t l' p w (sim t l' p w ns) n).os.sum := by
      rw [total_eq _ _ _ _ _ _ hp, total_eq _ _ _ _ _ _ hp]
      have : (t - (step t l' p w (sim t l' p w ns) n).sold - l') / p ≤ (t - (step t l p w (sim t l p w ns) n).sold - l) / p := Int.ediv_le_ediv hp (by omega)
      omega
    refine ⟨hs, fun i => ?_⟩
    by_cases hi : i ≤ (sim t l p w ns).os.length
    · have a := h2 i
      simp only [step]
      rw [take_sum_snoc, take_sum_snoc, if_pos hi, if_pos (by omega)]
      exact a
    · have e1 : ((step t l p w (sim t l p w ns) n).os.take i).sum = (step t l p w (sim t l p w ns) n).os.sum := by
        rw [List.take_of_length_le]; simp [step]; omega
      have e2 : ((step t l' p w (sim t l' p w ns) n).os.take i).sum = (step t l' p w (sim t l' p w ns) n).os.sum := by
        rw [List.take_of_length_le]; simp [step]; omega
      rw [e1, e2]; exact ht
theorem lost_mono {t l l' p : Int} {w : Nat} (hp : 0 < p) (hl : l ≤ l') (ns : List Int) : lost t l' p w ns ≤ lost t l p w ns := by
  rw [lost_eq, lost_eq]
  have := (mono (t := t) (w := w) hp hl ns).1
  omega
/-- with all there at first nothing is lost -/
theorem all_there {l p : Int} {w : Nat} (hp : 0 < p) (ns : List Int) (h0 : ∀ n ∈ ns, 0 ≤ n) : lost ns.sum l p w ns = 0 := by
  have go : ∀ (t : Int) (ms : List Int), (∀ n ∈ ms, 0 ≤ n) → ms.sum ≤ t → (sim t l p w ms).sold = ms.sum := by
    intro t ms
    induction ms using snoc_ind with
    | h0 => intro _ _; rfl
    | h1 ms n ih =>
      intro hn ht
      simp only [List.sum_append, List.sum_cons, List.sum_nil] at ht ⊢
      have n0 := hn n (by simp)
      have := ih (fun m hm => hn m (by simp [hm])) (by omega)
      rw [sim_snoc, sold_eq, this]
      have hc := came_nonneg (w := w) (os_nonneg t l p w ms)
      have := Int.mul_nonneg (by omega : 0 ≤ p) hc
      omega
  rw [lost_eq, go ns.sum ns h0 (Int.le_refl _)]
  omega
/-- the last day: what is there -/
theorem last_there (t l p : Int) (w : Nat) (ns : List Int) (n : Int) (hw : 1 ≤ w) :
    ∃ r, (sim t l p w (ns ++ [n])).fs.getLast? = some r ∧ r.1 = t + p * ((sim t l p w (ns ++ [n])).os.take ((ns ++ [n]).length - w)).sum - (sim t l p w (ns ++ [n])).sold := by
  rw [sim_snoc]
  refine ⟨_, by simp only [step, List.getLast?_append, List.getLast?_singleton]; rfl, ?_⟩
  have hl := os_len t l p w ns
  simp only [step]
  rw [take_sum_snoc, if_pos (by rw [hl]; simp; omega)]
  unfold here came
  rw [hl]
  simp only [List.length_append, List.length_singleton]
  omega
theorem sum_le {ns : List Int} {b : Int} (h : ∀ k ∈ ns, k ≤ b) : ns.sum ≤ b * ns.length := by
  induction ns with
  | nil => simp
  | cons a r ih =>
    have h1 := h a (by simp)
    have h2 := ih fun k hk => h k (by simp [hk])
    simp only [List.sum_cons, List.length_cons]
    rw [Int.natCast_add, Int.mul_add]
    omega
theorem take_le_sum {os : List Int} (h : ∀ k ∈ os, 0 ≤ k) (i : Nat) : (os.take i).sum ≤ os.sum := by
  have e := congrArg List.sum (List.take_append_drop i os)
  rw [List.sum_append] at e
  have := sum_nonneg (ns := os.drop i) fun k hk => h k (List.mem_of_mem_drop hk)
  omega
theorem take_mono {os : List Int} (h : ∀ k ∈ os, 0 ≤ k) (i : Nat) : (os.take i).sum ≤ (os.take (i + 1)).sum := by
  have e : os.take i = (os.take (i + 1)).take i := by rw [List.take_take, Nat.min_eq_left (by omega)]
  rw [e]
  exact take_le_sum (fun k hk => h k (List.mem_of_mem_take hk)) i
theorem many_le' {p x l : Int} (hp : 1 ≤ p) (hx : 0 ≤ x) (hl : 0 ≤ l) : -((x - l) / p) ≤ l := by
  have e := Int.emod_add_mul_ediv (x - l) p
  have r1 := Int.emod_lt_of_pos (x - l) (by omega : 0 < p)
  by_cases h : -((x - l) / p) ≤ 0
  · omega
  · have h2 := Int.mul_le_mul_of_nonneg_right hp (by omega : 0 ≤ -((x - l) / p) - 1)
    have h3 : p * (-((x - l) / p) - 1) = -(p * ((x - l) / p)) - p := by rw [Int.mul_sub, Int.mul_neg, Int.mul_one]
    omega
/-- all of it stays small -/
theorem bounds {t l p : Int} {w : Nat} (t0 : 0 ≤ t) (t1 : t ≤ 1000) (l0 : 0 ≤ l) (l1 : l ≤ 1000) (p0 : 1 ≤ p) (p1 : p ≤ 100) (w0 : 1 ≤ w) (ns : List Int) (hn : ∀ n ∈ ns, 0 ≤ n ∧ n ≤ 1000) (hl : ns.length ≤ 30) :
    (∀ k ∈ (sim t l p w ns).os, 0 ≤ k ∧ k ≤ 1000) ∧ 0 ≤ (sim t l p w ns).sold ∧ (sim t l p w ns).sold ≤ t + p * ((sim t l p w ns).os.take ((sim t l p w ns).os.length - w)).sum ∧
    ∀ r ∈ (sim t l p w ns).fs, (0 ≤ r.1 ∧ r.1 ≤ 4000000) ∧ (0 ≤ r.2.1 ∧ r.2.1 ≤ 1000) ∧ (0 ≤ r.2.2 ∧ r.2.2 ≤ 1000) := by
  induction ns using snoc_ind with
  | h0 => simp [sim]; exact t0
  | h1 ns n ih =>
    obtain ⟨h1, h2, h3, h4⟩ := ih (fun m hm => hn m (by simp [hm])) (by simp at hl; omega)
    have hnn := hn n (by simp)
    rw [sim_snoc]
    have hlen := os_len t l p w ns
    generalize sim t l p w ns = s at h1 h2 h3 h4 hlen
    have ho0 : ∀ k ∈ s.os, 0 ≤ k := fun k hk => (h1 k hk).1
    have hc0 := came_nonneg (w := w) ho0
    have hcs : came w s.os ≤ s.os.sum := take_le_sum ho0 _
    have hs1 : s.os.sum ≤ 1000 * s.os.length := sum_le fun k hk => (h1 k hk).2
    have hcm : (s.os.take (s.os.length - w)).sum ≤ came w s.os := by
      unfold came
      by_cases hw : w ≤ s.os.length
      · rw [show s.os.length + 1 - w = s.os.length - w + 1 by omega]
        exact take_mono ho0 _
      · rw [show s.os.length - w = 0 by omega, show s.os.length + 1 - w = 0 by omega]
        exact Int.le_refl _
    have hpm := Int.mul_le_mul_of_nonneg_left hcm (by omega : 0 ≤ p)
    have hh0 : 0 ≤ here t p w s := by unfold here; omega
    have hpc : p * came w s.os ≤ 100 * 30000 := by
      refine Int.mul_le_mul p1 ?_ hc0 (by omega)
      simp at hl
      omega
    have hh1 : here t p w s ≤ 3001000 := by unfold here; omega
    have hg : 0 ≤ goes t p w s n ∧ goes t p w s n ≤ n ∧ goes t p w s n ≤ here t p w s := by
      unfold goes; split <;> omega
    have hk0 := many_nonneg t l p w s n
    have hk1 : many t l p w s n ≤ 1000 := by
      unfold many
      dsimp only
      have hx := Int.mul_nonneg (by omega : 0 ≤ p) (by omega : 0 ≤ s.os.sum - came w s.os)
      have := many_le' (x := here t p w s - goes t p w s n + p * (s.os.sum - came w s.os)) p0 (by omega) l0
      split <;> omega
    refine ⟨fun k hk => ?_, ?_, ?_, fun r hr => ?_⟩
    · simp only [step, List.mem_append, List.mem_singleton] at hk
      rcases hk with hk | rfl
      · exact h1 k hk
      · exact ⟨hk0, hk1⟩
    · simp only [step]; omega
    · simp only [step, List.length_append, List.length_singleton]
      rw [take_sum_snoc, if_pos (by omega)]
      have : here t p w s = t + p * (s.os.take (s.os.length + 1 - w)).sum - s.sold := rfl
      omega
    · simp only [step, List.mem_append, List.mem_singleton] at hr
      rcases hr with hr | rfl
      · exact h4 r hr
      · dsimp only; omega
end St

/-! what the defs of the row reckon, and their walks: printed by gen.py -/
namespace Law
open PySem L2 PySem.Spec PyProof.Rows DV
def top (i : Nat) : Stmt := PySem.Challenge.pw_bargainstold_k57_whole_orders_for_stores.main.body.getD i (.Pass ⟨0, 0, 0, 0⟩)
abbrev s_check_store : Stmt := top 8
abbrev N_check_store : List Str := ["store", "right", "there", "least", "pack", "wait", "asked", "place", "good", "number"]
theorem sc_check_store : FnScope N_check_store ["store"] (defScope s_check_store) := ⟨rfl, rfl, rfl, by decide +kernel, rfl, by decide +kernel, by decide +kernel⟩
def st_check_store_1 : DV.Env → Out := sAsg (gTupD 5 (gsCons (gSet 2) (gsCons (gSet 3) (gsCons (gSet 4) (gsCons (gSet 5) (gsCons (gSet 6) (gsNil))))))) (eVar 0)
def st_check_store_2 : DV.Env → Out := sNew 1 (nLst (aCons (e3c leD leD (eC (.int 0)) (eVar 2) (eC (.int 1000))) (aCons (e3c leD leD (eC (.int 0)) (eVar 3) (eC (.int 1000))) (aCons (e3c leD leD (eC (.int 1)) (eVar 4) (eC (.int 100))) (aCons (e3c leD leD (eC (.int 1)) (eVar 5) (eC (.int 10))) (aNil))))))
def cg_check_store_3 : D → DV.Env → R DV.Env := gSet 9
def ce_check_store_3 : DV.Env → R D := e3c leD leD (eC (.int 0)) (eVar 9) (eC (.int 1000))
def st_check_store_3b : DV.Env → Out := sApp 1 (eAndV (e3c leD leD (eC (.int 1)) (eB lenD (aCons (eVar 6) (aNil))) (eC (.int 30))) (eB allD (aCons (eL (nLc (iLst (eVar 6)) (cg_check_store_3) (tYes') (ce_check_store_3) [9])) (aNil))))
def lg_check_store_4 : D → DV.Env → R DV.Env := gTupD 2 (gsCons (gSet 7) (gsCons (gSet 8) (gsNil)))
def lb_check_store_4 : DV.Env → Out := sIf (tNot' (tOf (eVar 8))) ((fun _ => .no)) (sNext)
def b_check_store : DV.Env → Out := sSeq (st_check_store_1) (sSeq (st_check_store_2) (sSeq (st_check_store_3b) ((fun s => (sFor (iEnumD (aCons (eVar 1) (aNil))) (lg_check_store_4) (lb_check_store_4) [7, 8]) (frz 1 s)))))
def F_check_store : List D → FR := fnD 10 1 b_check_store
abbrev s_run_of : Stmt := top 9
abbrev N_run_of : List Str := ["store", "orders", "found", "there", "least", "pack", "wait", "asked", "day", "number", "sold", "coming", "packs"]
theorem sc_run_of : FnScope N_run_of ["store"] (defScope s_run_of) := ⟨rfl, rfl, rfl, by decide +kernel, rfl, by decide +kernel, by decide +kernel⟩
def st_run_of_1 : DV.Env → Out := sAsg (gTupD 5 (gsCons (gSet 3) (gsCons (gSet 4) (gsCons (gSet 5) (gsCons (gSet 6) (gsCons (gSet 7) (gsNil))))))) (eVar 0)
def st_run_of_5 : DV.Env → Out := sIf (tOf (e2 geD (eVar 8) (eVar 6))) (sSet 3 (e2 addD (eVar 3) (e2 mulD (eVar 5) (e2 ixD (eOwn 1) (e2 subD (eVar 8) (eVar 6)))))) (sNext)
def st_run_of_9 : DV.Env → Out := sSet 11 (e2 mulD (eVar 5) (eB sumD (aCons (eL (nCut (eOwn 1) (oSome (eB max2D (aCons (eC (.int 0)) (aCons (e2 addD (e2 subD (eVar 8) (eVar 6)) (eC (.int 1))) (aNil))))) (oNone))) (aNil))))
def st_run_of_10 : DV.Env → Out := sSet 12 (eB max2D (aCons (eC (.int 0)) (aCons (e1 negD (e2 fdivD (e2 subD (e2 addD (eVar 3) (eVar 11)) (eVar 4)) (eVar 5))) (aNil))))
def lg_run_of_4 : D → DV.Env → R DV.Env := gTupD 2 (gsCons (gSet 8) (gsCons (gSet 9) (gsNil)))
def lb_run_of_4 : DV.Env → Out := sSeq (st_run_of_5) (sSeq (sSet 10 (eB min2D (aCons (eVar 3) (aCons (eVar 9) (aNil))))) (sSeq (sSet 3 (e2 subD (eVar 3) (eVar 10))) (sSeq (st_run_of_9) (sSeq (st_run_of_10) (sSeq (sApp 1 (eVar 12)) (sApp 2 (eTup (aCons (eVar 3) (aCons (e2 subD (eVar 9) (eVar 10)) (aCons (eVar 12) (aNil)))))))))))
def b_run_of : DV.Env → Out := sSeq (st_run_of_1) (sSeq (sNew 1 (nLst (aNil))) (sSeq (sNew 2 (nLst (aNil))) (sSeq (sFor (iEnumD (aCons (eVar 7) (aNil))) (lg_run_of_4) (lb_run_of_4) [8, 9, 10, 11, 12]) (sRetO 2))))
def F_run_of : List D → FR := fnD 13 1 b_run_of
abbrev s_run : Stmt := top 10
abbrev N_run : List Str := ["store"]
theorem sc_run : FnScope N_run ["store"] (defScope s_run) := ⟨rfl, rfl, rfl, by decide +kernel, rfl, by decide +kernel, by decide +kernel⟩
def b_run : DV.Env → Out := sSeq (sDrop (eCall F_check_store (aCons (eVar 0) (aNil)))) (sRetC F_run_of (aCons (eVar 0) (aNil)))
def F_run : List D → FR := fnD 1 1 b_run
abbrev s_lost_of : Stmt := top 11
abbrev N_lost_of : List Str := ["store", "_", "missing"]
theorem sc_lost_of : FnScope N_lost_of ["store"] (defScope s_lost_of) := ⟨rfl, rfl, rfl, by decide +kernel, rfl, by decide +kernel, by decide +kernel⟩
def cg_lost_of_1 : D → DV.Env → R DV.Env := gTupD 3 (gsCons (gSet 1) (gsCons (gSet 2) (gsCons (gSet 1) (gsNil))))
def ce_lost_of_1 : DV.Env → R D := eVar 2
def b_lost_of : DV.Env → Out := sRet (eB sumD (aCons (eL (nLc (iLst (eCall F_run_of (aCons (eVar 0) (aNil)))) (cg_lost_of_1) (tYes') (ce_lost_of_1) [1, 2])) (aNil)))
def F_lost_of : List D → FR := fnD 3 1 b_lost_of
abbrev s_lost : Stmt := top 12
abbrev N_lost : List Str := ["store"]
theorem sc_lost : FnScope N_lost ["store"] (defScope s_lost) := ⟨rfl, rfl, rfl, by decide +kernel, rfl, by decide +kernel, by decide +kernel⟩
def b_lost : DV.Env → Out := sSeq (sDrop (eCall F_check_store (aCons (eVar 0) (aNil)))) (sRetC F_lost_of (aCons (eVar 0) (aNil)))
def F_lost : List D → FR := fnD 1 1 b_lost
abbrev s_ordered : Stmt := top 13
abbrev N_ordered : List Str := ["store", "_", "packs"]
theorem sc_ordered : FnScope N_ordered ["store"] (defScope s_ordered) := ⟨rfl, rfl, rfl, by decide +kernel, rfl, by decide +kernel, by decide +kernel⟩
def cg_ordered_2 : D → DV.Env → R DV.Env := gTupD 3 (gsCons (gSet 1) (gsCons (gSet 1) (gsCons (gSet 2) (gsNil))))
def ce_ordered_2 : DV.Env → R D := eVar 2
def st_ordered_2b : DV.Env → Out := sRet (eB sumD (aCons (eL (nLc (iLst (eCall F_run_of (aCons (eVar 0) (aNil)))) (cg_ordered_2) (tYes') (ce_ordered_2) [1, 2])) (aNil)))
def b_ordered : DV.Env → Out := sSeq (sDrop (eCall F_check_store (aCons (eVar 0) (aNil)))) (st_ordered_2b)
def F_ordered : List D → FR := fnD 3 1 b_ordered
abbrev s_least_stock : Stmt := top 14
abbrev N_least_stock : List Str := ["store", "due", "least", "there", "_", "pack", "wait", "asked"]
theorem sc_least_stock : FnScope N_least_stock ["store"] (defScope s_least_stock) := ⟨rfl, rfl, rfl, by decide +kernel, rfl, by decide +kernel, by decide +kernel⟩
def st_least_stock_2 : DV.Env → Out := sAsg (gTupD 5 (gsCons (gSet 3) (gsCons (gSet 4) (gsCons (gSet 5) (gsCons (gSet 6) (gsCons (gSet 7) (gsNil))))))) (eVar 0)
def st_least_stock_3 : DV.Env → Out := sSet 1 (eCall F_lost_of (aCons (eTup (aCons (eVar 3) (aCons (eC (.int 1000)) (aCons (eVar 5) (aCons (eVar 6) (aCons (eVar 7) (aNil))))))) (aNil)))
def wt_least_stock_5 : DV.Env → R Bool := tOf (e2 gtD (eCall F_lost_of (aCons (eTup (aCons (eVar 3) (aCons (eVar 2) (aCons (eVar 5) (aCons (eVar 6) (aCons (eVar 7) (aNil))))))) (aNil))) (eVar 1))
def wb_least_stock_5 : DV.Env → Out := sSet 2 (e2 addD (eVar 2) (eC (.int 1)))
def b_least_stock : DV.Env → Out := sSeq (sDrop (eCall F_check_store (aCons (eVar 0) (aNil)))) (sSeq (st_least_stock_2) (sSeq (st_least_stock_3) (sSeq (sSet 2 (eC (.int 0))) (sSeq (sWhile (wt_least_stock_5) (wb_least_stock_5) [] 5000) (sRet (eVar 2))))))
def F_least_stock : List D → FR := fnD 8 1 b_least_stock
abbrev s__law_draws : Stmt := top 16
abbrev N__law_draws : List Str := ["script", "draws", "k", "rest", "turn", "mixed"]
theorem sc__law_draws : FnScope N__law_draws ["script"] (defScope s__law_draws) := ⟨rfl, rfl, rfl, by decide +kernel, rfl, by decide +kernel, by decide +kernel⟩
def lg__law_draws_5 : D → DV.Env → R DV.Env := gSet 4
def lb__law_draws_5 : DV.Env → Out := sIf (tOf (e2 gtD (eVar 3) (eC (.int 0)))) (sSeq (sApp 1 (e2 modD (eB intD (aCons (eVar 3) (aNil))) (eC (.int 65536)))) (sSet 3 (e2 fdivD (eVar 3) (eC (.int 65536))))) (sNext)
def st__law_draws_10 : DV.Env → Out := sSet 5 (e2 modD (eB intD (aCons (e2 addD (e2 mulD (eVar 3) (eC (.int 48271))) (e2 mulD (e2 addD (eVar 2) (eC (.int 1))) (eC (.int 69621)))) (aNil))) (eC (.int 2147483647)))
def st__law_draws_11 : DV.Env → Out := sSet 5 (e2 modD (eB intD (aCons (e2 addD (e2 addD (e2 mulD (eVar 5) (eC (.int 16807))) (e2 mulD (eC (.int 11)) (eVar 2))) (eC (.int 5))) (aNil))) (eC (.int 2147483629)))
def st__law_draws_4 : DV.Env → Out := sIf (tOf (e2 geD (eVar 3) (e2 powD (eC (.int 10)) (eC (.int 18))))) (sFor (iRange1 (aCons (eC (.int 60)) (aNil))) (lg__law_draws_5) (lb__law_draws_5) [4]) (sSeq (st__law_draws_10) (sSeq (st__law_draws_11) (sSeq (sApp 1 (e2 modD (eB intD (aCons (eVar 5) (aNil))) (eC (.int 65536)))) (sApp 1 (e2 modD (eB intD (aCons (e2 fdivD (eVar 5) (eC (.int 65536))) (aNil))) (eC (.int 32768)))))))
def lg__law_draws_2 : D → DV.Env → R DV.Env := gSet 2
def lb__law_draws_2 : DV.Env → Out := sSeq (sSet 3 (eB absD (aCons (e2 ixD (eVar 0) (eVar 2)) (aNil)))) (st__law_draws_4)
def st__law_draws_2b : DV.Env → Out := sFor (iRange1 (aCons (eB min2D (aCons (eC (.int 63)) (aCons (eB lenD (aCons (eVar 0) (aNil))) (aNil)))) (aNil))) (lg__law_draws_2) (lb__law_draws_2) [2, 3, 4, 5]
def b__law_draws : DV.Env → Out := sSeq (sNew 1 (nLst (aNil))) (sSeq (st__law_draws_2b) (sRetO 1))
def F__law_draws : List D → FR := fnD 6 1 b__law_draws
abbrev s__law_mix : Stmt := top 17
abbrev N__law_mix : List Str := ["draws", "k", "many", "cell"]
theorem sc__law_mix : FnScope N__law_mix ["draws", "k", "many"] (defScope s__law_mix) := ⟨rfl, rfl, rfl, by decide +kernel, rfl, by decide +kernel, by decide +kernel⟩
def st__law_mix_2 : DV.Env → Out := sIf (tOf (e2 gtD (eB lenD (aCons (eVar 0) (aNil))) (eC (.int 0)))) (sSet 3 (e2 ixD (eVar 0) (e2 modD (eB intD (aCons (eVar 1) (aNil))) (eB lenD (aCons (eVar 0) (aNil)))))) (sNext)
def st__law_mix_4 : DV.Env → Out := sIf (tOf (e2 ltD (eVar 1) (eB lenD (aCons (eVar 0) (aNil))))) (sRet (e2 modD (eB intD (aCons (eVar 3) (aNil))) (eVar 2))) (sNext)
def st__law_mix_6 : DV.Env → Out := sRet (e2 modD (eB intD (aCons (e2 fdivD (eB intD (aCons (e2 addD (e2 mulD (eVar 3) (eC (.int 7919))) (e2 mulD (eVar 1) (eC (.int 104729)))) (aNil))) (eC (.int 3))) (aNil))) (eVar 2))
def b__law_mix : DV.Env → Out := sSeq (sSet 3 (eC (.int 0))) (sSeq (st__law_mix_2) (sSeq (st__law_mix_4) (st__law_mix_6)))
def F__law_mix : List D → FR := fnD 4 3 b__law_mix
abbrev s__law_run : Stmt := top 18
abbrev N__law_run : List Str := ["store", "day", "there", "least", "pack", "wait", "asked", "found", "sold", "packs", "came", "here", "goes", "number", "j"]
theorem sc__law_run : FnScope N__law_run ["store"] (defScope s__law_run) := ⟨rfl, rfl, rfl, by decide +kernel, rfl, by decide +kernel, by decide +kernel⟩
def st__law_run_1 : DV.Env → Out := sAsg (gTupD 5 (gsCons (gSet 2) (gsCons (gSet 3) (gsCons (gSet 4) (gsCons (gSet 5) (gsCons (gSet 6) (gsNil))))))) (eVar 0)
def ct__law_run_4 : DV.Env → R Bool := tOf (e2 leD (e2 addD (eVar 14) (eVar 5)) (eVar 1))
def cg__law_run_4 : D → DV.Env → R DV.Env := gSet 14
def ce__law_run_4 : DV.Env → R D := e2 ixD (eOwn 9) (eVar 14)
def st__law_run_4b : DV.Env → Out := sSet 10 (eB sumD (aCons (eL (nLc (iRange1 (aCons (eVar 1) (aNil))) (cg__law_run_4) (ct__law_run_4) (ce__law_run_4) [14])) (aNil)))
def wt__law_run_9 : DV.Env → R Bool := tOf (e2 ltD (e2 addD (e2 subD (eVar 11) (eVar 12)) (e2 mulD (eVar 4) (e2 addD (e2 subD (eB sumD (aCons (eOwn 9) (aNil))) (eVar 10)) (eVar 13)))) (eVar 3))
def wb__law_run_9 : DV.Env → Out := sSet 13 (e2 addD (eVar 13) (eC (.int 1)))
def st__law_run_12 : DV.Env → Out := sApp 7 (eTup (aCons (e2 subD (eVar 11) (eVar 12)) (aCons (e2 subD (e2 ixD (eVar 6) (eVar 1)) (eVar 12)) (aCons (eVar 13) (aNil)))))
def lg__law_run_3 : D → DV.Env → R DV.Env := gSet 1
def lb__law_run_3 : DV.Env → Out := sSeq (st__law_run_4b) (sSeq (sSet 11 (e2 subD (e2 addD (eVar 2) (e2 mulD (eVar 4) (eVar 10))) (eVar 8))) (sSeq (sSet 12 (eB min2D (aCons (eVar 11) (aCons (e2 ixD (eVar 6) (eVar 1)) (aNil))))) (sSeq (sSet 8 (e2 addD (eVar 8) (eVar 12))) (sSeq (sSet 13 (eC (.int 0))) (sSeq (sWhile (wt__law_run_9) (wb__law_run_9) [] 5000) (sSeq (sApp 9 (eVar 13)) (st__law_run_12)))))))
def b__law_run : DV.Env → Out := sSeq (st__law_run_1) (sSeq (sStore [7, 8, 9] (wNew (nLst (aNil)) (wCons (eC (.int 0)) (wNew (nLst (aNil)) (wNil))))) (sSeq (sFor (iRange1 (aCons (eB lenD (aCons (eVar 6) (aNil))) (aNil))) (lg__law_run_3) (lb__law_run_3) [1, 10, 11, 12, 13]) (sRetO 7)))
def F__law_run : List D → FR := fnD 15 1 b__law_run
abbrev s__law_lost : Stmt := top 19
abbrev N__law_lost : List Str := ["store", "row"]
theorem sc__law_lost : FnScope N__law_lost ["store"] (defScope s__law_lost) := ⟨rfl, rfl, rfl, by decide +kernel, rfl, by decide +kernel, by decide +kernel⟩
def cg__law_lost_1 : D → DV.Env → R DV.Env := gSet 1
def ce__law_lost_1 : DV.Env → R D := e2 ixD (eVar 1) (eC (.int 1))
def b__law_lost : DV.Env → Out := sRet (eB sumD (aCons (eL (nLc (iLst (eCall F__law_run (aCons (eVar 0) (aNil)))) (cg__law_lost_1) (tYes') (ce__law_lost_1) [1])) (aNil)))
def F__law_lost : List D → FR := fnD 2 1 b__law_lost
abbrev s_law : Stmt := top 20
abbrev N_law : List Str := ["script", "draws", "turn", "wide", "asked", "store", "kept", "due", "told", "came", "number", "goal", "there", "least", "pack", "wait", "days", "t", "row"]
theorem sc_law : FnScope N_law ["script"] (defScope s_law) := ⟨rfl, rfl, rfl, by decide +kernel, rfl, by decide +kernel, by decide +kernel⟩
def st_law_3 : DV.Env → Out := sSet 3 (e2 ixD (eL (nLst (aCons (eC (.int 6)) (aCons (eC (.int 30)) (aNil))))) (eCall F__law_mix (aCons (eVar 1) (aCons (eVar 2) (aCons (eC (.int 2)) (aNil))))))
def cg_law_4 : D → DV.Env → R DV.Env := gSet 17
def ce_law_4 : DV.Env → R D := eCall F__law_mix (aCons (eVar 1) (aCons (e2 addD (e2 addD (eC (.int 30)) (e2 mulD (eC (.int 25)) (eVar 2))) (eVar 17)) (aCons (eVar 3) (aNil))))
def st_law_4b : DV.Env → Out := sSet 4 (eL (nLc (iRange1 (aCons (e2 addD (eC (.int 1)) (eCall F__law_mix (aCons (eVar 1) (aCons (e2 addD (eC (.int 3)) (eVar 2)) (aCons (eC (.int 20)) (aNil)))))) (aNil))) (cg_law_4) (tYes') (ce_law_4) [17]))
def st_law_5 : DV.Env → Out := sSet 5 (eTup (aCons (eCall F__law_mix (aCons (eVar 1) (aCons (e2 addD (eC (.int 6)) (eVar 2)) (aCons (eC (.int 60)) (aNil))))) (aCons (eCall F__law_mix (aCons (eVar 1) (aCons (e2 addD (eC (.int 9)) (eVar 2)) (aCons (eC (.int 80)) (aNil))))) (aCons (e2 addD (eC (.int 1)) (eCall F__law_mix (aCons (eVar 1) (aCons (e2 addD (eC (.int 12)) (eVar 2)) (aCons (eC (.int 12)) (aNil)))))) (aCons (e2 addD (eC (.int 1)) (eCall F__law_mix (aCons (eVar 1) (aCons (e2 addD (eC (.int 15)) (eVar 2)) (aCons (eC (.int 4)) (aNil)))))) (aCons (eVar 4) (aNil)))))))
def st_law_6 : DV.Env → Out := sAsg (gTupD 5 (gsCons (gSet 12) (gsCons (gSet 13) (gsCons (gSet 14) (gsCons (gSet 15) (gsCons (gSet 16) (gsNil))))))) (eVar 5)
def cg_law_10 : D → DV.Env → R DV.Env := gSet 18
def ce_law_10 : DV.Env → R D := e2 ixD (eVar 18) (eC (.int 1))
def cg_law_10b : D → DV.Env → R DV.Env := gSet 18
def ce_law_10b : DV.Env → R D := e2 ixD (eVar 18) (eC (.int 2))
def st_law_10c : DV.Env → Out := sIf (tOr' (tOf (e2 neD (eB reprD (aCons (eOwn 8) (aNil))) (eB reprD (aCons (eVar 7) (aNil))))) (tOr' (tOf (e2 neD (eB reprD (aCons (eCall F_lost (aCons (eVar 5) (aNil))) (aNil))) (eB reprD (aCons (eB sumD (aCons (eL (nLc (iLst (eVar 7)) (cg_law_10) (tYes') (ce_law_10) [18])) (aNil))) (aNil))))) (tOf (e2 neD (eB reprD (aCons (eCall F_ordered (aCons (eVar 5) (aNil))) (aNil))) (eB reprD (aCons (eB sumD (aCons (eL (nLc (iLst (eVar 7)) (cg_law_10b) (tYes') (ce_law_10b) [18])) (aNil))) (aNil))))))) (sRet (eC (.bl false))) (sNext)
def cg_law_12 : D → DV.Env → R DV.Env := gSet 18
def ce_law_12 : DV.Env → R D := e2 ixD (eVar 18) (eC (.int 2))
def st_law_12b : DV.Env → Out := sSet 9 (e2 mulD (eVar 14) (eB sumD (aCons (eL (nLc (iLst (eL (nCut (eVar 7) (oNone) (oSome (eB max2D (aCons (eC (.int 0)) (aCons (e2 subD (eB lenD (aCons (eVar 7) (aNil))) (eVar 15)) (aNil)))))))) (cg_law_12) (tYes') (ce_law_12) [18])) (aNil))))
def st_law_13 : DV.Env → Out := sIf (tOf (e2 neD (e2 ixD (e2 ixD (eOwn 8) (e1 negD (eC (.int 1)))) (eC (.int 0))) (e2 addD (e2 subD (e2 addD (eVar 12) (eVar 9)) (eB sumD (aCons (eVar 4) (aNil)))) (eCall F_lost (aCons (eVar 5) (aNil)))))) (sRet (eC (.bl false))) (sNext)
def st_law_15 : DV.Env → Out := sIf (tOf (e2 gtD (eCall F_lost (aCons (eTup (aCons (eVar 12) (aCons (e2 addD (e2 addD (eVar 13) (eC (.int 1))) (eCall F__law_mix (aCons (eVar 1) (aCons (e2 addD (eC (.int 18)) (eVar 2)) (aCons (eC (.int 30)) (aNil)))))) (aCons (eVar 14) (aCons (eVar 15) (aCons (eVar 4) (aNil))))))) (aNil))) (eCall F_lost (aCons (eVar 5) (aNil))))) (sRet (eC (.bl false))) (sNext)
def st_law_18 : DV.Env → Out := sSet 11 (eCall F__law_lost (aCons (eTup (aCons (eVar 12) (aCons (eC (.int 1000)) (aCons (eVar 14) (aCons (eVar 15) (aCons (eVar 4) (aNil))))))) (aNil)))
def st_law_19 : DV.Env → Out := sIf (tOr' (tOf (e2 neD (eCall F__law_lost (aCons (eTup (aCons (eVar 12) (aCons (eVar 10) (aCons (eVar 14) (aCons (eVar 15) (aCons (eVar 4) (aNil))))))) (aNil))) (eVar 11))) (tAnd' (tOf (e2 gtD (eVar 10) (eC (.int 0)))) (tOf (e2 eqD (eCall F__law_lost (aCons (eTup (aCons (eVar 12) (aCons (e2 subD (eVar 10) (eC (.int 1))) (aCons (eVar 14) (aCons (eVar 15) (aCons (eVar 4) (aNil))))))) (aNil))) (eVar 11))))) (sRet (eC (.bl false))) (sNext)
def st_law_21 : DV.Env → Out := sIf (tOr' (tOf (e2 neD (eB reprD (aCons (eVar 10) (aNil))) (eB reprD (aCons (eCall F_least_stock (aCons (eTup (aCons (eVar 12) (aCons (eC (.int 0)) (aCons (eVar 14) (aCons (eVar 15) (aCons (eVar 4) (aNil))))))) (aNil))) (aNil))))) (tAnd' (tOf (e2 leD (eB sumD (aCons (eVar 4) (aNil))) (eC (.int 1000)))) (tOf (e2 neD (eCall F_lost (aCons (eTup (aCons (eB sumD (aCons (eVar 4) (aNil))) (aCons (eVar 13) (aCons (eVar 14) (aCons (eVar 15) (aCons (eVar 4) (aNil))))))) (aNil))) (eC (.int 0)))))) (sRet (eC (.bl false))) (sNext)
def st_law_24 : DV.Env → Out := sIf (tOr' (tOf (e2 neD (eCall F_run (aCons (eVar 5) (aNil))) (eVar 7))) (tOf (e2 neD (eB reprD (aCons (eVar 5) (aNil))) (eVar 6)))) (sRet (eC (.bl false))) (sNext)
def lg_law_2 : D → DV.Env → R DV.Env := gSet 2
def lb_law_2 : DV.Env → Out := sSeq (st_law_3) (sSeq (st_law_4b) (sSeq (st_law_5) (sSeq (st_law_6) (sSeq (sSet 6 (eB reprD (aCons (eVar 5) (aNil)))) (sSeq (sSet 7 (eCall F__law_run (aCons (eVar 5) (aNil)))) (sSeq (sNew 8 (nCall F_run (aCons (eVar 5) (aNil)))) (sSeq (st_law_10c) (sSeq (st_law_12b) (sSeq (st_law_13) (sSeq (st_law_15) (sSeq (sSet 10 (eCall F_least_stock (aCons (eVar 5) (aNil)))) (sSeq (st_law_18) (sSeq (st_law_19) (sSeq (st_law_21) (sSeq (sApp 8 (eTup (aNil))) (st_law_24))))))))))))))))
def st_law_26 : DV.Env → Out := sRet (eAndV (e2 eqD (eCall F_run (aCons (eTup (aCons (eC (.int 5)) (aCons (eC (.int 4)) (aCons (eC (.int 3)) (aCons (eC (.int 1)) (aCons (eL (nLst (aCons (eC (.int 2)) (aCons (eC (.int 9)) (aNil))))) (aNil))))))) (aNil))) (eL (nLst (aCons (eTup (aCons (eC (.int 3)) (aCons (eC (.int 0)) (aCons (eC (.int 1)) (aNil))))) (aCons (eTup (aCons (eC (.int 0)) (aCons (eC (.int 3)) (aCons (eC (.int 2)) (aNil))))) (aNil)))))) (e2 eqD (eCall F_least_stock (aCons (eTup (aCons (eC (.int 10)) (aCons (eC (.int 0)) (aCons (eC (.int 1)) (aCons (eC (.int 1)) (aCons (eL (nLst (aCons (eC (.int 5)) (aNil)))) (aNil))))))) (aNil))) (eC (.int 0))))
def b_law : DV.Env → Out := sSeq (sSet 1 (eCall F__law_draws (aCons (eVar 0) (aNil)))) (sSeq (sFor (iRange1 (aCons (eC (.int 3)) (aNil))) (lg_law_2) (lb_law_2) [2, 3, 4, 5, 6, 7, 8, 9, 10, 11, 12, 13, 14, 15, 16]) (st_law_26))
def F_law : List D → FR := fnD 19 1 b_law
def FunAt (K : PySem.W.Frag) (mg : Str → Option Value) (x : Str) (st : Stmt) (ps : List Str) : Prop := ∃ f fd, Fun K x x st f fd ∧ mg x = some (.ref f) ∧ Binds K fd ps []
structure Txt (K : PySem.W.Frag) (mg : Str → Option Value) : Prop where
  f_check_store : FunAt K mg "check_store" s_check_store ["store"]
  f_run_of : FunAt K mg "run_of" s_run_of ["store"]
  f_run : FunAt K mg "run" s_run ["store"]
  f_lost_of : FunAt K mg "lost_of" s_lost_of ["store"]
  f_lost : FunAt K mg "lost" s_lost ["store"]
  f_ordered : FunAt K mg "ordered" s_ordered ["store"]
  f_least_stock : FunAt K mg "least_stock" s_least_stock ["store"]
  f__law_draws : FunAt K mg "_law_draws" s__law_draws ["script"]
  f__law_mix : FunAt K mg "_law_mix" s__law_mix ["draws", "k", "many"]
  f__law_run : FunAt K mg "_law_run" s__law_run ["store"]
  f__law_lost : FunAt K mg "_law_lost" s__law_lost ["store"]
  f_law : FunAt K mg "law" s_law ["script"]
  b_abs : mg "abs" = none
  b_all : mg "all" = none
  b_enumerate : mg "enumerate" = none
  b_int : mg "int" = none
  b_len : mg "len" = none
  b_max : mg "max" = none
  b_min : mg "min" = none
  b_range : mg "range" = none
  b_repr : mg "repr" = none
  b_sum : mg "sum" = none
  g_MOST_DAYS : ∃ u, mg "MOST_DAYS" = some (.int 30 u)
  g_MOST_PACK : ∃ u, mg "MOST_PACK" = some (.int 100 u)
  g_MOST_PIECES : ∃ u, mg "MOST_PIECES" = some (.int 1000 u)
  g_MOST_WAIT : ∃ u, mg "MOST_WAIT" = some (.int 10 u)
section
variable {P : Program} {w : World} {K : PySem.W.Frag} {mg : Str → Option Value} {base : Heap} {f : Addr}
theorem ok_check_store (T : Txt K mg) : BodyOk P w K mg base N_check_store "check_store" s_check_store f 1 False b_check_store := by
  intro cdv A outer s H E B hr hg
  exact (dss_cons (ds_asg (fun t u h1 h2 => ps_asg h1 h2) (de_var (pv 0)) (dg_tup (by rfl) (dgs_cons (dg_name (pg_name (i := 2) sc_check_store.nd (by rfl) (by first | exact Or.inl rfl | exact Or.inr rfl))) (dgs_cons (dg_name (pg_name (i := 3) sc_check_store.nd (by rfl) (by first | exact Or.inl rfl | exact Or.inr rfl))) (dgs_cons (dg_name (pg_name (i := 4) sc_check_store.nd (by rfl) (by first | exact Or.inl rfl | exact Or.inr rfl))) (dgs_cons (dg_name (pg_name (i := 5) sc_check_store.nd (by rfl) (by first | exact Or.inl rfl | exact Or.inr rfl))) (dgs_cons (dg_name (pg_name (i := 6) sc_check_store.nd (by rfl) (by first | exact Or.inl rfl | exact Or.inr rfl))) dgs_nil))))))) (dss_cons (ds_new (fun t h => ps_set (i := 1) sc_check_store.nd rfl (Or.inl rfl) h) (dn_lst (da_cons (de_chain op_le op_le o2_le o2_le leD_nx leD_nx de_int (de_var (pv 2)) (de_glob T.g_MOST_PIECES (by rfl))) (da_cons (de_chain op_le op_le o2_le o2_le leD_nx leD_nx de_int (de_var (pv 3)) (de_glob T.g_MOST_PIECES (by rfl))) (da_cons (de_chain op_le op_le o2_le o2_le leD_nx leD_nx de_int (de_var (pv 4)) (de_glob T.g_MOST_PACK (by rfl))) (da_cons (de_chain op_le op_le o2_le o2_le leD_nx leD_nx de_int (de_var (pv 5)) (de_glob T.g_MOST_WAIT (by rfl))) da_nil)))))) (dss_cons (ds_append (i := 1) (fun t h => ps_expr (pe_bm PySem.F.plainAttrs_list PySem.F.slot_list_append PySem.F.type_list_append mt_append (pv 1) h)) (de_and (de_chain op_le op_le o2_le o2_le leD_nx leD_nx de_int (de_len T.b_len (da_cons (de_var (pv 6)) da_nil)) (de_glob T.g_MOST_DAYS (by rfl))) (de_one (de_all T.b_all (by rfl) (da_cons (DN.de (dn_lc (m := true) (by rfl) sc_check_store.nd (di_list (de_var (pv 6))) (blkOk_by (own := [("number", 9)]) (N := N_check_store) (sc := defScope s_check_store) (by decide +kernel)) (fun _ _ _ _ _ => (dg_name (pg_name (i := 9) sc_check_store.nd (by rfl) (by first | exact Or.inl rfl | exact Or.inr rfl)))) (fun _ _ _ _ _ => dts_nil) (fun _ _ _ _ _ => (de_chain op_le op_le o2_le o2_le leD_nx leD_nx de_int (de_var (pv 9)) (de_glob T.g_MOST_PIECES (by rfl)))) (by decide))) da_nil))))) (dss_one (ds_frz 1 (ds_for [7, 8] (passes_of (by rfl)) rfl (di_enum T.b_enumerate (da_cons (de_var (pv 1)) da_nil)) (dg_tup (by rfl) (dgs_cons (dg_name (pg_name (i := 7) sc_check_store.nd (by rfl) (by first | exact Or.inl rfl | exact Or.inr rfl))) (dgs_cons (dg_name (pg_name (i := 8) sc_check_store.nd (by rfl) (by first | exact Or.inl rfl | exact Or.inr rfl))) dgs_nil))) (dss_one (ds_if (dt_not (dt_of (de_var (pv 8)))) (dss_one ds_never) dss_nil))))))))
theorem c_check_store (T : Txt K mg) : CallOk P w K mg base 2 1 "check_store" F_check_store := by
  obtain ⟨f, fd, FF, hm, hb⟩ := T.f_check_store
  exact ⟨f, fd, _, fn_ok FF sc_check_store (ok_check_store T), hm, FF.kp, hb⟩
theorem ok_run_of (T : Txt K mg) : BodyOk P w K mg base N_run_of "run_of" s_run_of f 1 False b_run_of := by
  intro cdv A outer s H E B hr hg
  exact (dss_cons (ds_asg (fun t u h1 h2 => ps_asg h1 h2) (de_var (pv 0)) (dg_tup (by rfl) (dgs_cons (dg_name (pg_name (i := 3) sc_run_of.nd (by rfl) (by first | exact Or.inl rfl | exact Or.inr rfl))) (dgs_cons (dg_name (pg_name (i := 4) sc_run_of.nd (by rfl) (by first | exact Or.inl rfl | exact Or.inr rfl))) (dgs_cons (dg_name (pg_name (i := 5) sc_run_of.nd (by rfl) (by first | exact Or.inl rfl | exact Or.inr rfl))) (dgs_cons (dg_name (pg_name (i := 6) sc_run_of.nd (by rfl) (by first | exact Or.inl rfl | exact Or.inr rfl))) (dgs_cons (dg_name (pg_name (i := 7) sc_run_of.nd (by rfl) (by first | exact Or.inl rfl | exact Or.inr rfl))) dgs_nil))))))) (dss_cons (ds_new (fun t h => ps_set (i := 1) sc_run_of.nd rfl (Or.inl rfl) h) (dn_lst da_nil)) (dss_cons (ds_new (fun t h => ps_set (i := 2) sc_run_of.nd rfl (Or.inl rfl) h) (dn_lst da_nil)) (dss_cons (ds_for [8, 9, 10, 11, 12] (passes_of (by rfl)) rfl (di_enum T.b_enumerate (da_cons (de_var (pv 7)) da_nil)) (dg_tup (by rfl) (dgs_cons (dg_name (pg_name (i := 8) sc_run_of.nd (by rfl) (by first | exact Or.inl rfl | exact Or.inr rfl))) (dgs_cons (dg_name (pg_name (i := 9) sc_run_of.nd (by rfl) (by first | exact Or.inl rfl | exact Or.inr rfl))) dgs_nil))) (dss_cons (ds_if (dt_cmp op_ge o2_ge geD_nx (nomark _) (de_var (pv 8)) (de_var (pv 6))) (dss_one (ds_set (fun t h => ps_set (i := 3) sc_run_of.nd rfl (Or.inl rfl) h) (de_add (de_var (pv 3)) (de_mul (de_var (pv 5)) (de_ix (de_own (pv 1)) (de_sub (de_var (pv 8)) (de_var (pv 6)))))))) dss_nil) (dss_cons (ds_set (fun t h => ps_set (i := 10) sc_run_of.nd rfl (Or.inl rfl) h) (de_min2 T.b_min (by rfl) (da_cons (de_var (pv 3)) (da_cons (de_var (pv 9)) da_nil)))) (dss_cons (ds_set (fun t h => ps_set (i := 3) sc_run_of.nd rfl (Or.inl rfl) h) (de_sub (de_var (pv 3)) (de_var (pv 10)))) (dss_cons (ds_set (fun t h => ps_set (i := 11) sc_run_of.nd rfl (Or.inl rfl) h) (de_mul (de_var (pv 5)) (de_sum T.b_sum (by rfl) (da_cons (DN.de (dn_slice (de_own (pv 1)) (do_some (de_max2 T.b_max (by rfl) (da_cons de_int (da_cons (de_add (de_sub (de_var (pv 8)) (de_var (pv 6))) de_int) da_nil)))) do_none)) da_nil)))) (dss_cons (ds_set (fun t h => ps_set (i := 12) sc_run_of.nd rfl (Or.inl rfl) h) (de_max2 T.b_max (by rfl) (da_cons de_int (da_cons (de_neg (de_fdiv (de_sub (de_add (de_var (pv 3)) (de_var (pv 11))) (de_var (pv 4))) (de_var (pv 5)))) da_nil)))) (dss_cons (ds_append (i := 1) (fun t h => ps_expr (pe_bm PySem.F.plainAttrs_list PySem.F.slot_list_append PySem.F.type_list_append mt_append (pv 1) h)) (de_var (pv 12))) (dss_one (ds_append (i := 2) (fun t h => ps_expr (pe_bm PySem.F.plainAttrs_list PySem.F.slot_list_append PySem.F.type_list_append mt_append (pv 2) h)) (de_tup (da_cons (de_var (pv 3)) (da_cons (de_sub (de_var (pv 9)) (de_var (pv 10))) (da_cons (de_var (pv 12)) da_nil))))))))))))) (dss_one (ds_retO (pv 2)))))))
theorem c_run_of (T : Txt K mg) : CallOk P w K mg base 2 1 "run_of" F_run_of := by
  obtain ⟨f, fd, FF, hm, hb⟩ := T.f_run_of
  exact ⟨f, fd, _, fn_ok FF sc_run_of (ok_run_of T), hm, FF.kp, hb⟩
theorem ok_run (T : Txt K mg) : BodyOk P w K mg base N_run "run" s_run f 2 False b_run := by
  intro cdv A outer s H E B hr hg
  exact (dss_cons (ds_expr (fun t h => ps_expr h) (de_call (c_check_store T) fnD_arity (hr.mono (by decide)) (takes_of (by rfl) (by rfl) (by rfl) (by rfl)) (da_cons (de_var (pv 0)) da_nil) (by rfl))) (dss_one (ds_retC (c_run_of T) fnD_arity (hr.mono (by decide)) (takes_of (by rfl) (by rfl) (by rfl) (by rfl)) (da_cons (de_var (pv 0)) da_nil) (by rfl))))
theorem c_run (T : Txt K mg) : CallOk P w K mg base 3 1 "run" F_run := by
  obtain ⟨f, fd, FF, hm, hb⟩ := T.f_run
  exact ⟨f, fd, _, fn_ok FF sc_run (ok_run T), hm, FF.kp, hb⟩
theorem ok_lost_of (T : Txt K mg) : BodyOk P w K mg base N_lost_of "lost_of" s_lost_of f 2 False b_lost_of := by
  intro cdv A outer s H E B hr hg
  exact (dss_one (ds_ret (de_sum T.b_sum (by rfl) (da_cons (DN.de (dn_lc (m := true) (by rfl) sc_lost_of.nd (di_list (de_call (c_run_of T) fnD_arity (hr.mono (by decide)) (takes_of (by rfl) (by rfl) (by rfl) (by rfl)) (da_cons (de_var (pv 0)) da_nil) (by rfl))) (blkOk_by (own := [("_", 1), ("missing", 2)]) (N := N_lost_of) (sc := defScope s_lost_of) (by decide +kernel)) (fun _ _ _ _ _ => (dg_tup (by rfl) (dgs_cons (dg_name (pg_name (i := 1) sc_lost_of.nd (by rfl) (by first | exact Or.inl rfl | exact Or.inr rfl))) (dgs_cons (dg_name (pg_name (i := 2) sc_lost_of.nd (by rfl) (by first | exact Or.inl rfl | exact Or.inr rfl))) (dgs_cons (dg_name (pg_name (i := 1) sc_lost_of.nd (by rfl) (by first | exact Or.inl rfl | exact Or.inr rfl))) dgs_nil))))) (fun _ _ _ _ _ => dts_nil) (fun _ _ _ _ _ => (de_var (pv 2))) (by decide))) da_nil))))
theorem c_lost_of (T : Txt K mg) : CallOk P w K mg base 3 1 "lost_of" F_lost_of := by
  obtain ⟨f, fd, FF, hm, hb⟩ := T.f_lost_of
  exact ⟨f, fd, _, fn_ok FF sc_lost_of (ok_lost_of T), hm, FF.kp, hb⟩
theorem ok_lost (T : Txt K mg) : BodyOk P w K mg base N_lost "lost" s_lost f 3 False b_lost := by
  intro cdv A outer s H E B hr hg
  exact (dss_cons (ds_expr (fun t h => ps_expr h) (de_call (c_check_store T) fnD_arity (hr.mono (by decide)) (takes_of (by rfl) (by rfl) (by rfl) (by rfl)) (da_cons (de_var (pv 0)) da_nil) (by rfl))) (dss_one (ds_retC (c_lost_of T) fnD_arity (hr.mono (by decide)) (takes_of (by rfl) (by rfl) (by rfl) (by rfl)) (da_cons (de_var (pv 0)) da_nil) (by rfl))))
theorem c_lost (T : Txt K mg) : CallOk P w K mg base 4 1 "lost" F_lost := by
  obtain ⟨f, fd, FF, hm, hb⟩ := T.f_lost
  exact ⟨f, fd, _, fn_ok FF sc_lost (ok_lost T), hm, FF.kp, hb⟩
theorem ok_ordered (T : Txt K mg) : BodyOk P w K mg base N_ordered "ordered" s_ordered f 2 False b_ordered := by
  intro cdv A outer s H E B hr hg
  exact (dss_cons (ds_expr (fun t h => ps_expr h) (de_call (c_check_store T) fnD_arity (hr.mono (by decide)) (takes_of (by rfl) (by rfl) (by rfl) (by rfl)) (da_cons (de_var (pv 0)) da_nil) (by rfl))) (dss_one (ds_ret (de_sum T.b_sum (by rfl) (da_cons (DN.de (dn_lc (m := true) (by rfl) sc_ordered.nd (di_list (de_call (c_run_of T) fnD_arity (hr.mono (by decide)) (takes_of (by rfl) (by rfl) (by rfl) (by rfl)) (da_cons (de_var (pv 0)) da_nil) (by rfl))) (blkOk_by (own := [("_", 1), ("packs", 2)]) (N := N_ordered) (sc := defScope s_ordered) (by decide +kernel)) (fun _ _ _ _ _ => (dg_tup (by rfl) (dgs_cons (dg_name (pg_name (i := 1) sc_ordered.nd (by rfl) (by first | exact Or.inl rfl | exact Or.inr rfl))) (dgs_cons (dg_name (pg_name (i := 1) sc_ordered.nd (by rfl) (by first | exact Or.inl rfl | exact Or.inr rfl))) (dgs_cons (dg_name (pg_name (i := 2) sc_ordered.nd (by rfl) (by first | exact Or.inl rfl | exact Or.inr rfl))) dgs_nil))))) (fun _ _ _ _ _ => dts_nil) (fun _ _ _ _ _ => (de_var (pv 2))) (by decide))) da_nil)))))
theorem c_ordered (T : Txt K mg) : CallOk P w K mg base 3 1 "ordered" F_ordered := by
  obtain ⟨f, fd, FF, hm, hb⟩ := T.f_ordered
  exact ⟨f, fd, _, fn_ok FF sc_ordered (ok_ordered T), hm, FF.kp, hb⟩
theorem ok_least_stock (T : Txt K mg) : BodyOk P w K mg base N_least_stock "least_stock" s_least_stock f 3 False b_least_stock := by
  intro cdv A outer s H E B hr hg
  exact (dss_cons (ds_expr (fun t h => ps_expr h) (de_call (c_check_store T) fnD_arity (hr.mono (by decide)) (takes_of (by rfl) (by rfl) (by rfl) (by rfl)) (da_cons (de_var (pv 0)) da_nil) (by rfl))) (dss_cons (ds_asg (fun t u h1 h2 => ps_asg h1 h2) (de_var (pv 0)) (dg_tup (by rfl) (dgs_cons (dg_name (pg_name (i := 3) sc_least_stock.nd (by rfl) (by first | exact Or.inl rfl | exact Or.inr rfl))) (dgs_cons (dg_name (pg_name (i := 4) sc_least_stock.nd (by rfl) (by first | exact Or.inl rfl | exact Or.inr rfl))) (dgs_cons (dg_name (pg_name (i := 5) sc_least_stock.nd (by rfl) (by first | exact Or.inl rfl | exact Or.inr rfl))) (dgs_cons (dg_name (pg_name (i := 6) sc_least_stock.nd (by rfl) (by first | exact Or.inl rfl | exact Or.inr rfl))) (dgs_cons (dg_name (pg_name (i := 7) sc_least_stock.nd (by rfl) (by first | exact Or.inl rfl | exact Or.inr rfl))) dgs_nil))))))) (dss_cons (ds_set (fun t h => ps_set (i := 1) sc_least_stock.nd rfl (Or.inl rfl) h) (de_call (c_lost_of T) fnD_arity (hr.mono (by decide)) (takes_of (by rfl) (by rfl) (by rfl) (by rfl)) (da_cons (de_tup (da_cons (de_var (pv 3)) (da_cons (de_glob T.g_MOST_PIECES (by rfl)) (da_cons (de_var (pv 5)) (da_cons (de_var (pv 6)) (da_cons (de_var (pv 7)) da_nil)))))) da_nil) (by rfl))) (dss_cons (ds_set (fun t h => ps_set (i := 2) sc_least_stock.nd rfl (Or.inl rfl) h) de_int) (dss_cons (ds_while [] (fun _ => 5000) (passes_of (by rfl)) (dt_cmp op_gt o2_gt gtD_nx (nomark _) (de_call (c_lost_of T) fnD_arity (hr.mono (by decide)) (takes_of (by rfl) (by rfl) (by rfl) (by rfl)) (da_cons (de_tup (da_cons (de_var (pv 3)) (da_cons (de_var (pv 2)) (da_cons (de_var (pv 5)) (da_cons (de_var (pv 6)) (da_cons (de_var (pv 7)) da_nil)))))) da_nil) (by rfl)) (de_var (pv 1))) (dss_one (ds_set (fun t h => ps_set (i := 2) sc_least_stock.nd rfl (Or.inl rfl) h) (de_add (de_var (pv 2)) de_int)))) (dss_one (ds_ret (de_var (pv 2)))))))))
theorem c_least_stock (T : Txt K mg) : CallOk P w K mg base 4 1 "least_stock" F_least_stock := by
  obtain ⟨f, fd, FF, hm, hb⟩ := T.f_least_stock
  exact ⟨f, fd, _, fn_ok FF sc_least_stock (ok_least_stock T), hm, FF.kp, hb⟩
theorem ok__law_draws (T : Txt K mg) : BodyOk P w K mg base N__law_draws "_law_draws" s__law_draws f 1 False b__law_draws := by
  intro cdv A outer s H E B hr hg
  exact (dss_cons (ds_new (fun t h => ps_set (i := 1) sc__law_draws.nd rfl (Or.inl rfl) h) (dn_lst da_nil)) (dss_cons (ds_for [2, 3, 4, 5] (passes_of (by rfl)) rfl (di_range1 T.b_range (da_cons (de_min2 T.b_min (by rfl) (da_cons de_int (da_cons (de_len T.b_len (da_cons (de_var (pv 0)) da_nil)) da_nil))) da_nil)) (dg_name (pg_name (i := 2) sc__law_draws.nd (by rfl) (by first | exact Or.inl rfl | exact Or.inr rfl))) (dss_cons (ds_set (fun t h => ps_set (i := 3) sc__law_draws.nd rfl (Or.inl rfl) h) (de_abs T.b_abs (da_cons (de_ix (de_var (pv 0)) (de_var (pv 2))) da_nil))) (dss_one (ds_if (dt_cmp op_ge o2_ge geD_nx (nomark _) (de_var (pv 3)) (de_pow de_int de_int)) (dss_one (ds_for [4] (passes_of (by rfl)) rfl (di_range1 T.b_range (da_cons de_int da_nil)) (dg_name (pg_name (i := 4) sc__law_draws.nd (by rfl) (by first | exact Or.inl rfl | exact Or.inr rfl))) (dss_one (ds_if (dt_cmp op_gt o2_gt gtD_nx (nomark _) (de_var (pv 3)) de_int) (dss_cons (ds_append (i := 1) (fun t h => ps_expr (pe_bm PySem.F.plainAttrs_list PySem.F.slot_list_append PySem.F.type_list_append mt_append (pv 1) h)) (de_mod (de_int1 T.b_int (da_cons (de_var (pv 3)) da_nil)) de_int)) (dss_one (ds_set (fun t h => ps_set (i := 3) sc__law_draws.nd rfl (Or.inl rfl) h) (de_fdiv (de_var (pv 3)) de_int)))) dss_nil)))) (dss_cons (ds_set (fun t h => ps_set (i := 5) sc__law_draws.nd rfl (Or.inl rfl) h) (de_mod (de_int1 T.b_int (da_cons (de_add (de_mul (de_var (pv 3)) de_int) (de_mul (de_add (de_var (pv 2)) de_int) de_int)) da_nil)) de_int)) (dss_cons (ds_set (fun t h => ps_set (i := 5) sc__law_draws.nd rfl (Or.inl rfl) h) (de_mod (de_int1 T.b_int (da_cons (de_add (de_add (de_mul (de_var (pv 5)) de_int) (de_mul de_int (de_var (pv 2)))) de_int) da_nil)) de_int)) (dss_cons (ds_append (i := 1) (fun t h => ps_expr (pe_bm PySem.F.plainAttrs_list PySem.F.slot_list_append PySem.F.type_list_append mt_append (pv 1) h)) (de_mod (de_int1 T.b_int (da_cons (de_var (pv 5)) da_nil)) de_int)) (dss_one (ds_append (i := 1) (fun t h => ps_expr (pe_bm PySem.F.plainAttrs_list PySem.F.slot_list_append PySem.F.type_list_append mt_append (pv 1) h)) (de_mod (de_int1 T.b_int (da_cons (de_fdiv (de_var (pv 5)) de_int) da_nil)) de_int)))))))))) (dss_one (ds_retO (pv 1)))))
theorem c__law_draws (T : Txt K mg) : CallOk P w K mg base 2 1 "_law_draws" F__law_draws := by
  obtain ⟨f, fd, FF, hm, hb⟩ := T.f__law_draws
  exact ⟨f, fd, _, fn_ok FF sc__law_draws (ok__law_draws T), hm, FF.kp, hb⟩
theorem ok__law_mix (T : Txt K mg) : BodyOk P w K mg base N__law_mix "_law_mix" s__law_mix f 1 False b__law_mix := by
  intro cdv A outer s H E B hr hg
  exact (dss_cons (ds_set (fun t h => ps_set (i := 3) sc__law_mix.nd rfl (Or.inl rfl) h) de_int) (dss_cons (ds_if (dt_cmp op_gt o2_gt gtD_nx (nomark _) (de_len T.b_len (da_cons (de_var (pv 0)) da_nil)) de_int) (dss_one (ds_set (fun t h => ps_set (i := 3) sc__law_mix.nd rfl (Or.inl rfl) h) (de_ix (de_var (pv 0)) (de_mod (de_int1 T.b_int (da_cons (de_var (pv 1)) da_nil)) (de_len T.b_len (da_cons (de_var (pv 0)) da_nil)))))) dss_nil) (dss_cons (ds_if (dt_cmp op_lt o2_lt ltD_nx (nomark _) (de_var (pv 1)) (de_len T.b_len (da_cons (de_var (pv 0)) da_nil))) (dss_one (ds_ret (de_mod (de_int1 T.b_int (da_cons (de_var (pv 3)) da_nil)) (de_var (pv 2))))) dss_nil) (dss_one (ds_ret (de_mod (de_int1 T.b_int (da_cons (de_fdiv (de_int1 T.b_int (da_cons (de_add (de_mul (de_var (pv 3)) de_int) (de_mul (de_var (pv 1)) de_int)) da_nil)) de_int) da_nil)) (de_var (pv 2))))))))
theorem c__law_mix (T : Txt K mg) : CallOk P w K mg base 2 3 "_law_mix" F__law_mix := by
  obtain ⟨f, fd, FF, hm, hb⟩ := T.f__law_mix
  exact ⟨f, fd, _, fn_ok FF sc__law_mix (ok__law_mix T), hm, FF.kp, hb⟩
theorem ok__law_run (T : Txt K mg) : BodyOk P w K mg base N__law_run "_law_run" s__law_run f 1 False b__law_run := by
  intro cdv A outer s H E B hr hg
  exact (dss_cons (ds_asg (fun t u h1 h2 => ps_asg h1 h2) (de_var (pv 0)) (dg_tup (by rfl) (dgs_cons (dg_name (pg_name (i := 2) sc__law_run.nd (by rfl) (by first | exact Or.inl rfl | exact Or.inr rfl))) (dgs_cons (dg_name (pg_name (i := 3) sc__law_run.nd (by rfl) (by first | exact Or.inl rfl | exact Or.inr rfl))) (dgs_cons (dg_name (pg_name (i := 4) sc__law_run.nd (by rfl) (by first | exact Or.inl rfl | exact Or.inr rfl))) (dgs_cons (dg_name (pg_name (i := 5) sc__law_run.nd (by rfl) (by first | exact Or.inl rfl | exact Or.inr rfl))) (dgs_cons (dg_name (pg_name (i := 6) sc__law_run.nd (by rfl) (by first | exact Or.inl rfl | exact Or.inr rfl))) dgs_nil))))))) (dss_cons (ds_store (is := [7, 8, 9]) (by first | exact store3 (fun t h => ps_par3 rfl sc__law_run.nd rfl rfl rfl (by decide) (by decide) (by decide) rfl rfl rfl h (by rfl)) | exact storeT (by rfl) (pn_cons (pg_name (i := 7) sc__law_run.nd (by rfl) (by first | exact Or.inl rfl | exact Or.inr rfl)) (pn_cons (pg_name (i := 8) sc__law_run.nd (by rfl) (by first | exact Or.inl rfl | exact Or.inr rfl)) (pn_cons (pg_name (i := 9) sc__law_run.nd (by rfl) (by first | exact Or.inl rfl | exact Or.inr rfl)) pn_nil))) (by decide) (fun t u h1 h2 => ps_asg h1 h2)) (dw_new (dn_lst da_nil) (dw_cons de_int (dw_new (dn_lst da_nil) dw_nil)))) (dss_cons (ds_for [1, 10, 11, 12, 13] (passes_of (by rfl)) rfl (di_range1 T.b_range (da_cons (de_len T.b_len (da_cons (de_var (pv 6)) da_nil)) da_nil)) (dg_name (pg_name (i := 1) sc__law_run.nd (by rfl) (by first | exact Or.inl rfl | exact Or.inr rfl))) (dss_cons (ds_set (fun t h => ps_set (i := 10) sc__law_run.nd rfl (Or.inl rfl) h) (de_sum T.b_sum (by rfl) (da_cons (DN.de (dn_lc (m := true) (by rfl) sc__law_run.nd (di_range1 T.b_range (da_cons (de_var (pv 1)) da_nil)) (blkOk_by (own := [("j", 14)]) (N := N__law_run) (sc := defScope s__law_run) (by decide +kernel)) (fun _ _ _ _ _ => (dg_name (pg_name (i := 14) sc__law_run.nd (by rfl) (by first | exact Or.inl rfl | exact Or.inr rfl)))) (fun _ _ _ _ _ => (dts_one (dt_cmp op_le o2_le leD_nx (nomark _) (de_add (de_var (pv 14)) (de_var (pv 5))) (de_var (pv 1))))) (fun _ _ _ _ _ => (de_ix (de_own (pv 9)) (de_var (pv 14)))) (by decide))) da_nil))) (dss_cons (ds_set (fun t h => ps_set (i := 11) sc__law_run.nd rfl (Or.inl rfl) h) (de_sub (de_add (de_var (pv 2)) (de_mul (de_var (pv 4)) (de_var (pv 10)))) (de_var (pv 8)))) (dss_cons (ds_set (fun t h => ps_set (i := 12) sc__law_run.nd rfl (Or.inl rfl) h) (de_min2 T.b_min (by rfl) (da_cons (de_var (pv 11)) (da_cons (de_ix (de_var (pv 6)) (de_var (pv 1))) da_nil)))) (dss_cons (ds_set (fun t h => ps_set (i := 8) sc__law_run.nd rfl (Or.inl rfl) h) (de_add (de_var (pv 8)) (de_var (pv 12)))) (dss_cons (ds_set (fun t h => ps_set (i := 13) sc__law_run.nd rfl (Or.inl rfl) h) de_int) (dss_cons (ds_while [] (fun _ => 5000) (passes_of (by rfl)) (dt_cmp op_lt o2_lt ltD_nx (nomark _) (de_add (de_sub (de_var (pv 11)) (de_var (pv 12))) (de_mul (de_var (pv 4)) (de_add (de_sub (de_sum T.b_sum (by rfl) (da_cons (de_own (pv 9)) da_nil)) (de_var (pv 10))) (de_var (pv 13))))) (de_var (pv 3))) (dss_one (ds_set (fun t h => ps_set (i := 13) sc__law_run.nd rfl (Or.inl rfl) h) (de_add (de_var (pv 13)) de_int)))) (dss_cons (ds_append (i := 9) (fun t h => ps_expr (pe_bm PySem.F.plainAttrs_list PySem.F.slot_list_append PySem.F.type_list_append mt_append (pv 9) h)) (de_var (pv 13))) (dss_one (ds_append (i := 7) (fun t h => ps_expr (pe_bm PySem.F.plainAttrs_list PySem.F.slot_list_append PySem.F.type_list_append mt_append (pv 7) h)) (de_tup (da_cons (de_sub (de_var (pv 11)) (de_var (pv 12))) (da_cons (de_sub (de_ix (de_var (pv 6)) (de_var (pv 1))) (de_var (pv 12))) (da_cons (de_var (pv 13)) da_nil)))))))))))))) (dss_one (ds_retO (pv 7))))))
theorem c__law_run (T : Txt K mg) : CallOk P w K mg base 2 1 "_law_run" F__law_run := by
  obtain ⟨f, fd, FF, hm, hb⟩ := T.f__law_run
  exact ⟨f, fd, _, fn_ok FF sc__law_run (ok__law_run T), hm, FF.kp, hb⟩
theorem ok__law_lost (T : Txt K mg) : BodyOk P w K mg base N__law_lost "_law_lost" s__law_lost f 2 False b__law_lost := by
  intro cdv A outer s H E B hr hg
  exact (dss_one (ds_ret (de_sum T.b_sum (by rfl) (da_cons (DN.de (dn_lc (m := true) (by rfl) sc__law_lost.nd (di_list (de_call (c__law_run T) fnD_arity (hr.mono (by decide)) (takes_of (by rfl) (by rfl) (by rfl) (by rfl)) (da_cons (de_var (pv 0)) da_nil) (by rfl))) (blkOk_by (own := [("row", 1)]) (N := N__law_lost) (sc := defScope s__law_lost) (by decide +kernel)) (fun _ _ _ _ _ => (dg_name (pg_name (i := 1) sc__law_lost.nd (by rfl) (by first | exact Or.inl rfl | exact Or.inr rfl)))) (fun _ _ _ _ _ => dts_nil) (fun _ _ _ _ _ => (de_ix (de_var (pv 1)) de_int)) (by decide))) da_nil))))
theorem c__law_lost (T : Txt K mg) : CallOk P w K mg base 3 1 "_law_lost" F__law_lost := by
  obtain ⟨f, fd, FF, hm, hb⟩ := T.f__law_lost
  exact ⟨f, fd, _, fn_ok FF sc__law_lost (ok__law_lost T), hm, FF.kp, hb⟩
theorem ok_law (T : Txt K mg) : BodyOk P w K mg base N_law "law" s_law f 4 True b_law := by
  intro cdv A outer s H E B hr hg
  exact (dss_cons (ds_set (fun t h => ps_set (i := 1) sc_law.nd rfl (Or.inr rfl) h) (de_call (c__law_draws T) fnD_arity (hr.mono (by decide)) (takes_of (by rfl) (by rfl) (by rfl) (by rfl)) (da_cons (de_var (pv 0)) da_nil) (by rfl))) (dss_cons (ds_for [2, 3, 4, 5, 6, 7, 8, 9, 10, 11, 12, 13, 14, 15, 16] (passes_of (by rfl)) rfl (di_range1 T.b_range (da_cons de_int da_nil)) (dg_name (pg_name (i := 2) sc_law.nd (by rfl) (by first | exact Or.inl rfl | exact Or.inr rfl))) (dss_cons (ds_set (fun t h => ps_set (i := 3) sc_law.nd rfl (Or.inr rfl) h) (de_ix (DN.de (dn_lst (da_cons de_int (da_cons de_int da_nil)))) (de_call (c__law_mix T) fnD_arity (hr.mono (by decide)) (takes_of (by rfl) (by rfl) (by rfl) (by rfl)) (da_cons (de_var (pv 1)) (da_cons (de_var (pv 2)) (da_cons de_int da_nil))) (by rfl)))) (dss_cons (ds_setLc (ps_lcD (m := true) (i := 4) (by rfl) sc_law.nd (by rfl) (by rfl) (sw_true (by rfl) (by rfl) (by rfl) (by decide +kernel)) (di_range1 T.b_range (da_cons (de_add de_int (de_call (c__law_mix T) fnD_arity (hr.mono (by decide)) (takes_of (by rfl) (by rfl) (by rfl) (by rfl)) (da_cons (de_var (pv 1)) (da_cons (de_add de_int (de_var (pv 2))) (da_cons de_int da_nil))) (by rfl))) da_nil)) (blkOk_by (own := [("t", 17)]) (N := N_law) (sc := defScope s_law) (by decide +kernel)) (fun _ _ _ _ _ => (dg_name (pg_name (i := 17) sc_law.nd (by rfl) (by first | exact Or.inl rfl | exact Or.inr rfl)))) (fun _ _ _ _ _ => dts_nil) (fun _ _ _ _ _ => (de_call (c__law_mix T) fnD_arity (hr.mono (by decide)) takes0 (da_cons (de_var (pv 1)) (da_cons (de_add (de_add de_int (de_mul de_int (de_var (pv 2)))) (de_var (pv 17))) (da_cons (de_var (pv 3)) da_nil))) (by rfl))) (by decide))) (dss_cons (ds_set (fun t h => ps_set (i := 5) sc_law.nd rfl (Or.inl rfl) h) (de_tup (da_cons (de_call (c__law_mix T) fnD_arity (hr.mono (by decide)) (takes_of (by rfl) (by rfl) (by rfl) (by rfl)) (da_cons (de_var (pv 1)) (da_cons (de_add de_int (de_var (pv 2))) (da_cons de_int da_nil))) (by rfl)) (da_cons (de_call (c__law_mix T) fnD_arity (hr.mono (by decide)) (takes_of (by rfl) (by rfl) (by rfl) (by rfl)) (da_cons (de_var (pv 1)) (da_cons (de_add de_int (de_var (pv 2))) (da_cons de_int da_nil))) (by rfl)) (da_cons (de_add de_int (de_call (c__law_mix T) fnD_arity (hr.mono (by decide)) (takes_of (by rfl) (by rfl) (by rfl) (by rfl)) (da_cons (de_var (pv 1)) (da_cons (de_add de_int (de_var (pv 2))) (da_cons de_int da_nil))) (by rfl))) (da_cons (de_add de_int (de_call (c__law_mix T) fnD_arity (hr.mono (by decide)) (takes_of (by rfl) (by rfl) (by rfl) (by rfl)) (da_cons (de_var (pv 1)) (da_cons (de_add de_int (de_var (pv 2))) (da_cons de_int da_nil))) (by rfl))) (da_cons (de_var (pv 4)) da_nil))))))) (dss_cons (ds_asg (fun t u h1 h2 => ps_asg h1 h2) (de_var (pv 5)) (dg_tup (by rfl) (dgs_cons (dg_name (pg_name (i := 12) sc_law.nd (by rfl) (by first | exact Or.inl rfl | exact Or.inr rfl))) (dgs_cons (dg_name (pg_name (i := 13) sc_law.nd (by rfl) (by first | exact Or.inl rfl | exact Or.inr rfl))) (dgs_cons (dg_name (pg_name (i := 14) sc_law.nd (by rfl) (by first | exact Or.inl rfl | exact Or.inr rfl))) (dgs_cons (dg_name (pg_name (i := 15) sc_law.nd (by rfl) (by first | exact Or.inl rfl | exact Or.inr rfl))) (dgs_cons (dg_name (pg_name (i := 16) sc_law.nd (by rfl) (by first | exact Or.inl rfl | exact Or.inr rfl))) dgs_nil))))))) (dss_cons (ds_set (fun t h => ps_set (i := 6) sc_law.nd rfl (Or.inl rfl) h) (de_repr T.b_repr hr (hg trivial) (da_cons (de_var (pv 5)) da_nil))) (dss_cons (ds_set (fun t h => ps_set (i := 7) sc_law.nd rfl (Or.inl rfl) h) (de_call (c__law_run T) fnD_arity (hr.mono (by decide)) (takes_of (by rfl) (by rfl) (by rfl) (by rfl)) (da_cons (de_var (pv 5)) da_nil) (by rfl))) (dss_cons (ds_new (fun t h => ps_set (i := 8) sc_law.nd rfl (Or.inl rfl) h) (dn_call (c_run T) fnD_arity (hr.mono (by decide)) (takes_of (by rfl) (by rfl) (by rfl) (by rfl)) (da_cons (de_var (pv 5)) da_nil) (by rfl))) (dss_cons (ds_if (DW.dt (dw_or (dt_cmp (op_neP hr.units) o2_ne neD_nx (nomark _) (de_repr T.b_repr hr (hg trivial) (da_cons (de_own (pv 8)) da_nil)) (de_repr T.b_repr hr (hg trivial) (da_cons (de_var (pv 7)) da_nil))) (dw_or (dt_cmp (op_neP hr.units) o2_ne neD_nx (nomark _) (de_repr T.b_repr hr (hg trivial) (da_cons (de_call (c_lost T) fnD_arity (hr.mono (by decide)) (takes_of (by rfl) (by rfl) (by rfl) (by rfl)) (da_cons (de_var (pv 5)) da_nil) (by rfl)) da_nil)) (de_repr T.b_repr hr (hg trivial) (da_cons (de_sum T.b_sum (by rfl) (da_cons (DN.de (dn_lc (m := true) (by rfl) sc_law.nd (di_list (de_var (pv 7))) (blkOk_by (own := [("row", 18)]) (N := N_law) (sc := defScope s_law) (by decide +kernel)) (fun _ _ _ _ _ => (dg_name (pg_name (i := 18) sc_law.nd (by rfl) (by first | exact Or.inl rfl | exact Or.inr rfl)))) (fun _ _ _ _ _ => dts_nil) (fun _ _ _ _ _ => (de_ix (de_var (pv 18)) de_int)) (by decide))) da_nil)) da_nil))) (dw_or1 (dt_cmp (op_neP hr.units) o2_ne neD_nx (nomark _) (de_repr T.b_repr hr (hg trivial) (da_cons (de_call (c_ordered T) fnD_arity (hr.mono (by decide)) (takes_of (by rfl) (by rfl) (by rfl) (by rfl)) (da_cons (de_var (pv 5)) da_nil) (by rfl)) da_nil)) (de_repr T.b_repr hr (hg trivial) (da_cons (de_sum T.b_sum (by rfl) (da_cons (DN.de (dn_lc (m := true) (by rfl) sc_law.nd (di_list (de_var (pv 7))) (blkOk_by (own := [("row", 18)]) (N := N_law) (sc := defScope s_law) (by decide +kernel)) (fun _ _ _ _ _ => (dg_name (pg_name (i := 18) sc_law.nd (by rfl) (by first | exact Or.inl rfl | exact Or.inr rfl)))) (fun _ _ _ _ _ => dts_nil) (fun _ _ _ _ _ => (de_ix (de_var (pv 18)) de_int)) (by decide))) da_nil)) da_nil))))))) (dss_one (ds_ret de_bl)) dss_nil) (dss_cons (ds_set (fun t h => ps_set (i := 9) sc_law.nd rfl (Or.inl rfl) h) (de_mul (de_var (pv 14)) (de_sum T.b_sum (by rfl) (da_cons (DN.de (dn_lc (m := true) (by rfl) sc_law.nd (di_list (DN.de (dn_slice (de_var (pv 7)) do_none (do_some (de_max2 T.b_max (by rfl) (da_cons de_int (da_cons (de_sub (de_len T.b_len (da_cons (de_var (pv 7)) da_nil)) (de_var (pv 15))) da_nil))))))) (blkOk_by (own := [("row", 18)]) (N := N_law) (sc := defScope s_law) (by decide +kernel)) (fun _ _ _ _ _ => (dg_name (pg_name (i := 18) sc_law.nd (by rfl) (by first | exact Or.inl rfl | exact Or.inr rfl)))) (fun _ _ _ _ _ => dts_nil) (fun _ _ _ _ _ => (de_ix (de_var (pv 18)) de_int)) (by decide))) da_nil)))) (dss_cons (ds_if (dt_cmp (op_neP hr.units) o2_ne neD_nx (nomark _) (de_ix (de_ix (de_own (pv 8)) (de_neg de_int)) de_int) (de_add (de_sub (de_add (de_var (pv 12)) (de_var (pv 9))) (de_sum T.b_sum (by rfl) (da_cons (de_var (pv 4)) da_nil))) (de_call (c_lost T) fnD_arity (hr.mono (by decide)) (takes_of (by rfl) (by rfl) (by rfl) (by rfl)) (da_cons (de_var (pv 5)) da_nil) (by rfl)))) (dss_one (ds_ret de_bl)) dss_nil) (dss_cons (ds_if (dt_cmp op_gt o2_gt gtD_nx (nomark _) (de_call (c_lost T) fnD_arity (hr.mono (by decide)) (takes_of (by rfl) (by rfl) (by rfl) (by rfl)) (da_cons (de_tup (da_cons (de_var (pv 12)) (da_cons (de_add (de_add (de_var (pv 13)) de_int) (de_call (c__law_mix T) fnD_arity (hr.mono (by decide)) (takes_of (by rfl) (by rfl) (by rfl) (by rfl)) (da_cons (de_var (pv 1)) (da_cons (de_add de_int (de_var (pv 2))) (da_cons de_int da_nil))) (by rfl))) (da_cons (de_var (pv 14)) (da_cons (de_var (pv 15)) (da_cons (de_var (pv 4)) da_nil)))))) da_nil) (by rfl)) (de_call (c_lost T) fnD_arity (hr.mono (by decide)) (takes_of (by rfl) (by rfl) (by rfl) (by rfl)) (da_cons (de_var (pv 5)) da_nil) (by rfl))) (dss_one (ds_ret de_bl)) dss_nil) (dss_cons (ds_set (fun t h => ps_set (i := 10) sc_law.nd rfl (Or.inl rfl) h) (de_call (c_least_stock T) fnD_arity (hr.mono (by decide)) (takes_of (by rfl) (by rfl) (by rfl) (by rfl)) (da_cons (de_var (pv 5)) da_nil) (by rfl))) (dss_cons (ds_set (fun t h => ps_set (i := 11) sc_law.nd rfl (Or.inl rfl) h) (de_call (c__law_lost T) fnD_arity (hr.mono (by decide)) (takes_of (by rfl) (by rfl) (by rfl) (by rfl)) (da_cons (de_tup (da_cons (de_var (pv 12)) (da_cons de_int (da_cons (de_var (pv 14)) (da_cons (de_var (pv 15)) (da_cons (de_var (pv 4)) da_nil)))))) da_nil) (by rfl))) (dss_cons (ds_if (DW.dt (dw_or (dt_cmp (op_neP hr.units) o2_ne neD_nx (nomark _) (de_call (c__law_lost T) fnD_arity (hr.mono (by decide)) (takes_of (by rfl) (by rfl) (by rfl) (by rfl)) (da_cons (de_tup (da_cons (de_var (pv 12)) (da_cons (de_var (pv 10)) (da_cons (de_var (pv 14)) (da_cons (de_var (pv 15)) (da_cons (de_var (pv 4)) da_nil)))))) da_nil) (by rfl)) (de_var (pv 11))) (dw_or1 (DW.dt (dw_and (dt_cmp op_gt o2_gt gtD_nx (nomark _) (de_var (pv 10)) de_int) (dw_and1 (dt_cmp (op_eqP hr.units) o2_eq eqD_nx (nomark _) (de_call (c__law_lost T) fnD_arity (hr.mono (by decide)) (takes_of (by rfl) (by rfl) (by rfl) (by rfl)) (da_cons (de_tup (da_cons (de_var (pv 12)) (da_cons (de_sub (de_var (pv 10)) de_int) (da_cons (de_var (pv 14)) (da_cons (de_var (pv 15)) (da_cons (de_var (pv 4)) da_nil)))))) da_nil) (by rfl)) (de_var (pv 11))))))))) (dss_one (ds_ret de_bl)) dss_nil) (dss_cons (ds_if (DW.dt (dw_or (dt_cmp (op_neP hr.units) o2_ne neD_nx (nomark _) (de_repr T.b_repr hr (hg trivial) (da_cons (de_var (pv 10)) da_nil)) (de_repr T.b_repr hr (hg trivial) (da_cons (de_call (c_least_stock T) fnD_arity (hr.mono (by decide)) (takes_of (by rfl) (by rfl) (by rfl) (by rfl)) (da_cons (de_tup (da_cons (de_var (pv 12)) (da_cons de_int (da_cons (de_var (pv 14)) (da_cons (de_var (pv 15)) (da_cons (de_var (pv 4)) da_nil)))))) da_nil) (by rfl)) da_nil))) (dw_or1 (DW.dt (dw_and (dt_cmp op_le o2_le leD_nx (nomark _) (de_sum T.b_sum (by rfl) (da_cons (de_var (pv 4)) da_nil)) de_int) (dw_and1 (dt_cmp (op_neP hr.units) o2_ne neD_nx (nomark _) (de_call (c_lost T) fnD_arity (hr.mono (by decide)) (takes_of (by rfl) (by rfl) (by rfl) (by rfl)) (da_cons (de_tup (da_cons (de_sum T.b_sum (by rfl) (da_cons (de_var (pv 4)) da_nil)) (da_cons (de_var (pv 13)) (da_cons (de_var (pv 14)) (da_cons (de_var (pv 15)) (da_cons (de_var (pv 4)) da_nil)))))) da_nil) (by rfl)) de_int))))))) (dss_one (ds_ret de_bl)) dss_nil) (dss_cons (ds_append (i := 8) (fun t h => ps_expr (pe_bm PySem.F.plainAttrs_list PySem.F.slot_list_append PySem.F.type_list_append mt_append (pv 8) h)) (de_tup da_nil)) (dss_one (ds_if (DW.dt (dw_or (dt_cmp (op_neP hr.units) o2_ne neD_nx (nomark _) (de_call (c_run T) fnD_arity (hr.mono (by decide)) (takes_of (by rfl) (by rfl) (by rfl) (by rfl)) (da_cons (de_var (pv 5)) da_nil) (by rfl)) (de_var (pv 7))) (dw_or1 (dt_cmp (op_neP hr.units) o2_ne neD_nx (nomark _) (de_repr T.b_repr hr (hg trivial) (da_cons (de_var (pv 5)) da_nil)) (de_var (pv 6)))))) (dss_one (ds_ret de_bl)) dss_nil))))))))))))))))))) (dss_one (ds_ret (de_and (de_cmp (op_eqP hr.units) o2_eq eqD_nx (nomark _) (de_call (c_run T) fnD_arity (hr.mono (by decide)) (takes_of (by rfl) (by rfl) (by rfl) (by rfl)) (da_cons (de_tup (da_cons de_int (da_cons de_int (da_cons de_int (da_cons de_int (da_cons (DN.de (dn_lst (da_cons de_int (da_cons de_int da_nil)))) da_nil)))))) da_nil) (by rfl)) (DN.de (dn_lst (da_cons (de_tup (da_cons de_int (da_cons de_int (da_cons de_int da_nil)))) (da_cons (de_tup (da_cons de_int (da_cons de_int (da_cons de_int da_nil)))) da_nil))))) (de_one (de_cmp (op_eqP hr.units) o2_eq eqD_nx (nomark _) (de_call (c_least_stock T) fnD_arity (hr.mono (by decide)) (takes_of (by rfl) (by rfl) (by rfl) (by rfl)) (da_cons (de_tup (da_cons de_int (da_cons de_int (da_cons de_int (da_cons de_int (da_cons (DN.de (dn_lst (da_cons de_int da_nil))) da_nil)))))) da_nil) (by rfl)) de_int)))))))
end
end Law

namespace Law
open PySem L2 PySem.Spec PyProof.Rows DV St
def storeD (t l p : Int) (w : Nat) (ns : List Int) : D := .tup [.int t, .int l, .int p, .int (w : Int), .lst (ns.map D.int)]
def rowD (r : Int × Int × Int) : D := .tup [.int r.1, .int r.2.1, .int r.2.2]
structure Okay (t l p : Int) (w : Nat) (ns : List Int) : Prop where
  t0 : 0 ≤ t
  t1 : t ≤ 1000
  l0 : 0 ≤ l
  l1 : l ≤ 1000
  p0 : 1 ≤ p
  p1 : p ≤ 100
  w0 : 1 ≤ w
  w1 : w ≤ 10
  n0 : 1 ≤ ns.length
  n1 : ns.length ≤ 30
  a : ∀ n ∈ ns, 0 ≤ n ∧ n ≤ 1000

theorem cut_from (os : List Int) (j : Nat) (h : j ≤ os.length) : cutG (os.map D.int) (some (j : Int)) none = (os.drop j).map D.int := by
  unfold cutG
  rw [HT.sIx_none, HT.sIx_nat]
  rw [List.length_map, Nat.min_eq_left h, List.take_of_length_le (by simp), List.map_drop]
theorem sum_drop (os : List Int) (j : Nat) : (os.drop j).sum = os.sum - (os.take j).sum := by
  have := congrArg List.sum (List.take_append_drop j os)
  rw [List.sum_append] at this
  omega
theorem take_next (os : List Int) (j : Nat) (h : j < os.length) : (os.take (j + 1)).sum = (os.take j).sum + os[j] := by
  rw [List.take_succ_eq_append_getElem h, List.sum_append]; simp

/-! run_of -/
def stR (t l p : Int) (w : Nat) (ns : List Int) (s : S) : DV.Env :=
  [some (.d (storeD t l p w ns)), some (.ol (s.os.map D.int)), some (.ol (s.fs.map rowD)), some (.d (.int (t + p * (s.os.take (s.os.length - w)).sum - s.sold))), some (.d (.int l)), some (.d (.int p)), some (.d (.int (w : Int))), some (.d (.lst (ns.map D.int))), none, none, none, none, none]
theorem run_turn (t l p : Int) (w : Nat) (ns : List Int) (s : S) (n : Int) (i : Nat) (hi : s.os.length = i) (hf : s.fs.length = i) (hl : i < 1000) (hp : 1 ≤ p) (hp1 : p ≤ 100) (hw : 1 ≤ w) :
    ∃ s1 s2, lg_run_of_4 (.tup [.int (i : Int), .int n]) (stR t l p w ns s) = .ok s1 ∧ (lb_run_of_4 s1 = .nx s2 ∨ lb_run_of_4 s1 = .ct s2) ∧ wipeE s2 [8, 9, 10, 11, 12] = stR t l p w ns (step t l p w s n) := by
  have hh : (if (w : Int) ≤ (i : Int) then (t + p * (s.os.take (s.os.length - w)).sum - s.sold) + p * (s.os[i - w]?.getD 0) else (t + p * (s.os.take (s.os.length - w)).sum - s.sold)) = here t p w s := by
    unfold here came
    rw [hi]
    split
    · rename_i h
      have hj : i - w < s.os.length := by omega
      rw [show i + 1 - w = i - w + 1 by omega, take_next _ _ hj, Int.mul_add]
      rw [List.getElem?_eq_getElem hj]
      simp only [Option.getD_some]
      omega
    · rename_i h
      rw [show i + 1 - w = 0 by omega, show i - w = 0 by omega]
  have hcut : cutG (s.os.map D.int) (some (if (i : Int) - (w : Int) + 1 > 0 then (i : Int) - (w : Int) + 1 else 0)) none = (s.os.drop (i + 1 - w)).map D.int := by
    have : (if (i : Int) - (w : Int) + 1 > 0 then (i : Int) - (w : Int) + 1 else 0) = ((i + 1 - w : Nat) : Int) := by split <;> omega
    rw [this, cut_from _ _ (by omega)]
  have hcome : came w s.os = (s.os.take (i + 1 - w)).sum := by unfold came; rw [hi]
  have hix : (w : Int) ≤ (i : Int) → ixD (.lst (s.os.map D.int)) (.int ((i : Int) - (w : Int))) = .ok (.int (s.os[i - w]?.getD 0)) := fun h => by
    have hj : i - w < s.os.length := by omega
    refine ixD_ints (by omega) ?_
    rw [show ((i : Int) - (w : Int)).toNat = i - w by omega, List.getElem?_eq_getElem hj]; rfl
  have hpb : (-18446744073709551616 < p ∧ p < 18446744073709551616) := by omega
  have hp2 : 0 < p := by omega
  have hl1 : s.os.length < 1000000 := by omega
  have hl2 : s.fs.length < 1000000 := by omega
  refine ⟨[some (.d (storeD t l p w ns)), some (.ol (s.os.map D.int)), some (.ol (s.fs.map rowD)), some (.d (.int (t + p * (s.os.take (s.os.length - w)).sum - s.sold))), some (.d (.int l)), some (.d (.int p)), some (.d (.int (w : Int))), some (.d (.lst (ns.map D.int))), some (.d (.int (i : Int))), some (.d (.int n)), none, none, none], ?_⟩
  refine ⟨[some (.d (storeD t l p w ns)), some (.ol ((step t l p w s n).os.map D.int)), some (.ol ((step t l p w s n).fs.map rowD)), some (.d (.int (here t p w s - goes t p w s n))), some (.d (.int l)), some (.d (.int p)), some (.d (.int (w : Int))), some (.d (.lst (ns.map D.int))), some (.d (.int (i : Int))), some (.d (.int n)), some (.d (.int (goes t p w s n))), some (.d (.int (p * (s.os.sum - came w s.os)))), some (.d (.int (many t l p w s n)))], by simp [lg_run_of_4, stR], .inl ?_, ?_⟩
  · by_cases hd : (w : Int) ≤ (i : Int)
    · rw [if_pos hd] at hh
      simp only [lb_run_of_4, st_run_of_5, st_run_of_9, st_run_of_10]
      simp [-List.map_drop, -List.map_take, hd, hix hd, hpb, hh, goes, many, St.step, hcut, sum_drop, hcome, hp2, hl1, hl2, rowD]
    · rw [if_neg hd] at hh
      simp only [lb_run_of_4, st_run_of_5, st_run_of_9, st_run_of_10]
      simp [-List.map_drop, -List.map_take, hd, hpb, hh, goes, many, St.step, hcut, sum_drop, hcome, hp2, hl1, hl2, rowD]
  · simp [stR, St.step, here, came, rowD, hi]
    rw [take_sum_snoc, if_pos (by omega)]
    omega
theorem sim_take (t l p : Int) (w : Nat) (ns : List Int) (i : Nat) (h : i < ns.length) : sim t l p w (ns.take (i + 1)) = St.step t l p w (sim t l p w (ns.take i)) ns[i] := by
  rw [List.take_succ_eq_append_getElem h, sim_snoc]
theorem run_of_ok {t l p : Int} {w : Nat} {ns : List Int} (hn : ns.length ≤ 30) (hp : 1 ≤ p) (hp1 : p ≤ 100) (hw : 1 ≤ w) : F_run_of [storeD t l p w ns] = .ol ((sim t l p w ns).fs.map rowD) := by
  have key := forD_at (g := lg_run_of_4) (F := lb_run_of_4) (wp := [8, 9, 10, 11, 12]) (enumD (ns.map D.int)) (stR t l p w ns) (fun i => sim t l p w (ns.take i)) fun i x hx => by
    have hi : i < ns.length := by
      have := (List.getElem?_eq_some_iff.mp hx).1
      simpa [enumD_length] using this
    have e : x = .tup [.int (i : Int), .int ns[i]] := by
      simp [enumD, hi] at hx
      exact hx.symm
    subst e
    rw [sim_take _ _ _ _ _ _ hi]
    exact run_turn t l p w ns _ _ i (by rw [os_len]; simp; omega) (by rw [fs_len]; simp; omega) (by omega) hp hp1 hw
  have key2 : forD lg_run_of_4 lb_run_of_4 [8, 9, 10, 11, 12] (enumD (ns.map D.int)) [some (.d (storeD t l p w ns)), some (.ol []), some (.ol []), some (.d (.int t)), some (.d (.int l)), some (.d (.int p)), some (.d (.int (w : Int))), some (.d (.lst (ns.map D.int))), none, none, none, none, none] = .nx (stR t l p w ns (sim t l p w ns)) := by
    have e1 : stR t l p w ns (sim t l p w (ns.take 0)) = [some (.d (storeD t l p w ns)), some (.ol []), some (.ol []), some (.d (.int t)), some (.d (.int l)), some (.d (.int p)), some (.d (.int (w : Int))), some (.d (.lst (ns.map D.int))), none, none, none, none, none] := by
      simp [stR, sim]
    rw [← e1, key, enumD_length, List.length_map, List.take_length]
  simp only [F_run_of, fnD_1]
  simp [b_run_of, st_run_of_1, storeD]
  simp only [storeD] at key2
  rw [key2]
  simp [stR]
theorem check_ok {t l p : Int} {w : Nat} {ns : List Int} (h : Okay t l p w ns) : F_check_store [storeD t l p w ns] = .val .non := by
  obtain ⟨t0, t1, l0, l1, p0, p1, w0, w1, n0, n1, a⟩ := h
  have hall : lcGo cg_check_store_3 tYes' ce_check_store_3 [some (.d (storeD t l p w ns)), some (.ol [.bl true, .bl true, .bl true, .bl true]), some (.d (.int t)), some (.d (.int l)), some (.d (.int p)), some (.d (.int (w : Int))), some (.d (.lst (ns.map D.int))), none, none, none] (ns.map D.int) = .ok (ns.map fun _ => D.bl true) := by
    refine lcGo_map (γ := Unit) D.int (fun _ => D.bl true) ns fun x hx => ⟨[some (.d (storeD t l p w ns)), some (.ol [.bl true, .bl true, .bl true, .bl true]), some (.d (.int t)), some (.d (.int l)), some (.d (.int p)), some (.d (.int (w : Int))), some (.d (.lst (ns.map D.int))), none, none, some (.d (.int x))], by simp [cg_check_store_3], by simp, ?_⟩
    obtain ⟨a0, a1⟩ := a x hx
    simp [ce_check_store_3, a0, a1]
  have hall2 : allD [.lst (ns.map fun _ => D.bl true)] = .ok (.bl true) := by
    have e : (ns.map fun _ => D.bl true) = (ns.map fun _ => true).map D.bl := by simp
    rw [e, allD_map]
    simp
  have hlen : (1 : Int) ≤ ns.length := by omega
  have hlen2 : (ns.length : Int) ≤ 30 := by omega
  have hlen3 : ns.length ≤ 1000000 := by omega
  have hw0 : (1 : Int) ≤ w := by omega
  have hw1 : (w : Int) ≤ 10 := by omega
  simp only [F_check_store, fnD_1]
  simp only [storeD] at hall
  simp [b_check_store, st_check_store_1, st_check_store_2, st_check_store_3b, storeD, t0, t1, l0, l1, p0, p1, hw0, hw1, hlen, hlen2, hlen3, hall, hall2, enumD, lg_check_store_4, lb_check_store_4, forD]
theorem run_ok {t l p : Int} {w : Nat} {ns : List Int} (h : Okay t l p w ns) : F_run [storeD t l p w ns] = .ol ((sim t l p w ns).fs.map rowD) := by
  have h1 := check_ok h
  have h2 := run_of_ok (t := t) (l := l) h.n1 h.p0 h.p1 h.w0
  simp only [F_run, fnD_1]
  simp [b_run, h1, h2]
theorem lost_of_ok {t l p : Int} {w : Nat} {ns : List Int} (hn : ns.length ≤ 30) (hp : 1 ≤ p) (hp1 : p ≤ 100) (hw : 1 ≤ w) : F_lost_of [storeD t l p w ns] = .val (.int (lost t l p w ns)) := by
  have h2 := run_of_ok (t := t) (l := l) hn hp hp1 hw
  have hlc : lcGo cg_lost_of_1 tYes' ce_lost_of_1 [some (.d (storeD t l p w ns)), none, none] ((sim t l p w ns).fs.map rowD) = .ok ((sim t l p w ns).fs.map fun r => .int r.2.1) :=
    lcGo_map (γ := Unit) rowD (fun r => .int r.2.1) _ fun x hx => ⟨[some (.d (storeD t l p w ns)), some (.d (.int x.2.2)), some (.d (.int x.2.1))], by simp [cg_lost_of_1, rowD], by simp, by simp [ce_lost_of_1]⟩
  have hl := fs_len t l p w ns
  have hl2 : (sim t l p w ns).fs.length ≤ 1000000 := by omega
  have e : ((sim t l p w ns).fs.map fun r => D.int r.2.1) = ((sim t l p w ns).fs.map fun r => r.2.1).map D.int := by simp
  simp only [F_lost_of, fnD_1]
  simp [b_lost_of, h2, hl2, hlc]
  rw [e, sumD_map]
  simp [lost]
theorem lost_ok {t l p : Int} {w : Nat} {ns : List Int} (h : Okay t l p w ns) : F_lost [storeD t l p w ns] = .val (.int (lost t l p w ns)) := by
  have h1 := check_ok h
  have h2 := lost_of_ok (t := t) (l := l) h.n1 h.p0 h.p1 h.w0
  simp only [F_lost, fnD_1]
  simp [b_lost, h1, h2]
theorem ordered_ok {t l p : Int} {w : Nat} {ns : List Int} (h : Okay t l p w ns) : F_ordered [storeD t l p w ns] = .val (.int ((sim t l p w ns).fs.map fun r => r.2.2).sum) := by
  have h1 := check_ok h
  have h2 := run_of_ok (t := t) (l := l) h.n1 h.p0 h.p1 h.w0
  have hlc : lcGo cg_ordered_2 tYes' ce_ordered_2 [some (.d (storeD t l p w ns)), none, none] ((sim t l p w ns).fs.map rowD) = .ok ((sim t l p w ns).fs.map fun r => .int r.2.2) :=
    lcGo_map (γ := Unit) rowD (fun r => .int r.2.2) _ fun x hx => ⟨[some (.d (storeD t l p w ns)), some (.d (.int x.2.1)), some (.d (.int x.2.2))], by simp [cg_ordered_2, rowD], by simp, by simp [ce_ordered_2]⟩
  have hl := fs_len t l p w ns
  have hl2 : (sim t l p w ns).fs.length ≤ 1000000 := by have := h.n1; omega
  have e : ((sim t l p w ns).fs.map fun r => D.int r.2.2) = ((sim t l p w ns).fs.map fun r => r.2.2).map D.int := by simp
  simp only [F_ordered, fnD_1]
  simp [b_ordered, st_ordered_2b, h1, h2, hl2, hlc]
  rw [e, sumD_map]
  simp

/-- the least stock that loses no more than 1000 -/
theorem least_ex (t p : Int) (w : Nat) (ns : List Int) : ∃ m : Nat, m ≤ 1000 ∧ lost t m p w ns ≤ lost t 1000 p w ns ∧ ∀ i, i < m → lost t 1000 p w ns < lost t i p w ns := by
  have go : ∀ k : Nat, k ≤ 1000 → (∀ i : Nat, i < k → lost t 1000 p w ns < lost t i p w ns) → ∃ m : Nat, m ≤ 1000 ∧ lost t m p w ns ≤ lost t 1000 p w ns ∧ ∀ i : Nat, i < m → lost t 1000 p w ns < lost t i p w ns := by
    intro k
    induction hd : 1000 - k generalizing k with
    | zero =>
      intro hk hi
      have : k = 1000 := by omega
      subst this
      exact ⟨1000, by omega, Int.le_refl _, hi⟩
    | succ d ih =>
      intro hk hi
      by_cases hc : lost t k p w ns ≤ lost t 1000 p w ns
      · exact ⟨k, hk, hc, hi⟩
      · refine ih (k + 1) (by omega) (by omega) fun i h => ?_
        by_cases e : i = k
        · subst e; omega
        · exact hi i (by omega)
  exact go 0 (by omega) (fun i h => by omega)
theorem least_ok {t l p : Int} {w : Nat} {ns : List Int} (h : Okay t l p w ns) {m : Nat} (hm : m ≤ 1000) (h1 : lost t m p w ns ≤ lost t 1000 p w ns) (h2 : ∀ i : Nat, i < m → lost t 1000 p w ns < lost t i p w ns) : F_least_stock [storeD t l p w ns] = .val (.int m) := by
  have hc := check_ok h
  have hl : ∀ x : Int, F_lost_of [storeD t x p w ns] = .val (.int (lost t x p w ns)) := fun x => lost_of_ok h.n1 h.p0 h.p1 h.w0
  simp only [storeD] at hl
  let st : Nat → DV.Env := fun i => [some (.d (storeD t l p w ns)), some (.d (.int (lost t 1000 p w ns))), some (.d (.int (i : Int))), some (.d (.int t)), some (.d (.int l)), some (.d (.int p)), some (.d (.int (w : Int))), some (.d (.lst (ns.map D.int)))]
  have loop : whileD wt_least_stock_5 wb_least_stock_5 [] 5000 (st 0) = .nx (st m) := whileD_count (α := Unit) st m
    (fun i hi => ⟨by simp [st, wt_least_stock_5, hl, h2 i hi], st (i + 1), .inl (by simp [st, wb_least_stock_5]), by simp⟩)
    (by simp [st, wt_least_stock_5, hl]; omega) m 0 5000 (by omega) (by omega)
  simp only [F_least_stock, fnD_1]
  simp [b_least_stock, hc]
  simp only [st] at loop
  simp [st_least_stock_2, st_least_stock_3, storeD, hl]
  simp only [storeD] at loop
  have : ((0 : Nat) : Int) = 0 := rfl
  rw [this] at loop
  rw [loop]
  simp

/-! the law's own run -/
theorem filter_range (i k : Nat) : (List.range i).filter (fun j => decide (j < k)) = List.range (min i k) := by
  induction i with
  | zero => simp
  | succ i ih =>
    rw [List.range_succ, List.filter_append, ih]
    by_cases h : i < k
    · rw [Nat.min_eq_left (by omega), Nat.min_eq_left (by omega), List.range_succ]
      simp [h]
    · rw [Nat.min_eq_right (by omega), Nat.min_eq_right (by omega)]
      simp [h]
theorem map_range_take (os : List Int) (k : Nat) (h : k ≤ os.length) : (List.range k).map (fun j => os[j]?.getD 0) = os.take k := by
  apply List.ext_getElem?
  intro j
  by_cases hj : j < k
  · have : j < os.length := by omega
    simp [hj, this, List.getElem?_take]
  · simp [hj, List.getElem?_take]
theorem many_pos {p x l : Int} (hp : 1 ≤ p) (i : Int) (h : i < -((x - l) / p)) : x + p * i < l := by
  have e := Int.emod_add_mul_ediv (x - l) p
  have r1 := Int.emod_lt_of_pos (x - l) (by omega : 0 < p)
  have h1 : (x - l) / p ≤ -i - 1 := by omega
  have h2 := Int.mul_le_mul_of_nonneg_left h1 (by omega : 0 ≤ p)
  have h3 : p * (-i - 1) = -(p * i) - p := by rw [Int.mul_sub, Int.mul_neg, Int.mul_one]
  omega
theorem many_end {p x l : Int} (hp : 1 ≤ p) (i : Int) (h : -((x - l) / p) ≤ i) : l ≤ x + p * i := by
  have e := Int.emod_add_mul_ediv (x - l) p
  have r1 := Int.emod_nonneg (x - l) (by omega : p ≠ 0)
  have h1 : -i ≤ (x - l) / p := by omega
  have h2 := Int.mul_le_mul_of_nonneg_left h1 (by omega : 0 ≤ p)
  have h3 : p * (-i) = -(p * i) := by rw [Int.mul_neg]
  omega
theorem many_le {p x l : Int} (hp : 1 ≤ p) (hx : 0 ≤ x) (hl : 0 ≤ l) : -((x - l) / p) ≤ l := by
  have e := Int.emod_add_mul_ediv (x - l) p
  have r1 := Int.emod_lt_of_pos (x - l) (by omega : 0 < p)
  by_cases h : -((x - l) / p) ≤ 0
  · omega
  · have := many_pos hp (-((x - l) / p) - 1) (x := x) (l := l) (by omega)
    have h2 := Int.mul_le_mul_of_nonneg_right hp (by omega : 0 ≤ -((x - l) / p) - 1)
    omega
def stL (t l p : Int) (w : Nat) (ns : List Int) (s : S) : DV.Env :=
  [some (.d (storeD t l p w ns)), none, some (.d (.int t)), some (.d (.int l)), some (.d (.int p)), some (.d (.int (w : Int))), some (.d (.lst (ns.map D.int))), some (.ol (s.fs.map rowD)), some (.d (.int s.sold)), some (.ol (s.os.map D.int)), none, none, none, none, none]
theorem law_turn (t l p : Int) (w : Nat) (ns : List Int) (s : S) (n : Int) (i : Nat) (hn : ns[i]? = some n) (hi : s.os.length = i) (hf : s.fs.length = i) (hl : i < 1000) (hp : 1 ≤ p) (hp1 : p ≤ 100) (hw : 1 ≤ w) (hl0 : 0 ≤ l) (hl1 : l ≤ 1000) (hos : ∀ k ∈ s.os, 0 ≤ k) :
    ∃ s1 s2, lg__law_run_3 (.int (i : Int)) (stL t l p w ns s) = .ok s1 ∧ (lb__law_run_3 s1 = .nx s2 ∨ lb__law_run_3 s1 = .ct s2) ∧ wipeE s2 [1, 10, 11, 12, 13] = stL t l p w ns (St.step t l p w s n) := by
  have hlc : lcGo cg__law_run_4 ct__law_run_4 ce__law_run_4 [some (.d (storeD t l p w ns)), some (.d (.int (i : Int))), some (.d (.int t)), some (.d (.int l)), some (.d (.int p)), some (.d (.int (w : Int))), some (.d (.lst (ns.map D.int))), some (.ol (s.fs.map rowD)), some (.d (.int s.sold)), some (.ol (s.os.map D.int)), none, none, none, none, none] (rngD 0 i) = .ok ((s.os.take (i + 1 - w)).map D.int) := by
    unfold rngD
    rw [lcGo_filter (fun j : Nat => D.int (0 + (j : Int))) (fun j => decide (j < i + 1 - w)) (fun j => D.int (s.os[j]?.getD 0)) (List.range i) fun j hj => ?_]
    · rw [filter_range, Nat.min_eq_right (by omega), ← map_range_take _ _ (by omega)]
      simp
    · have hj' : j < i := by simpa using hj
      have hj2 : j < s.os.length := by omega
      have hix : ixD (.lst (s.os.map D.int)) (.int (j : Int)) = .ok (.int s.os[j]) := ixD_ints (by omega) (by simp [hj2])
      refine ⟨[some (.d (storeD t l p w ns)), some (.d (.int (i : Int))), some (.d (.int t)), some (.d (.int l)), some (.d (.int p)), some (.d (.int (w : Int))), some (.d (.lst (ns.map D.int))), some (.ol (s.fs.map rowD)), some (.d (.int s.sold)), some (.ol (s.os.map D.int)), none, none, none, none, some (.d (.int (j : Int)))], by simp [cg__law_run_4], ?_, fun _ => ?_⟩
      · simp [ct__law_run_4]
        omega
      · simp [ce__law_run_4, hix, hj2]
  have hcome : came w s.os = (s.os.take (i + 1 - w)).sum := by unfold came; rw [hi]
  have hnx : ixD (.lst (ns.map D.int)) (.int (i : Int)) = .ok (.int n) := ixD_ints (by omega) (by simpa using hn)
  have hlen : (rngD 0 i).length ≤ 1000000 := by rw [rngD_length]; omega
  have hir : (i : Int) < 4611686018427387904 := by omega
  have hir2 : (-4611686018427387904 : Int) ≤ i := by omega
  have hpb : (-18446744073709551616 < p ∧ p < 18446744073709551616) := by omega
  have hgoes : goes t p w s n = if n < here t p w s then n else here t p w s := rfl
  generalize hx : here t p w s - goes t p w s n + p * (s.os.sum - came w s.os) = x
  have hx0 : 0 ≤ x := by
    rw [← hx]
    have h1 : came w s.os ≤ s.os.sum := by
      rw [hcome]
      have h2 := sum_drop s.os (i + 1 - w)
      have h3 := St.sum_nonneg (ns := s.os.drop (i + 1 - w)) fun k hk => hos k (List.mem_of_mem_drop hk)
      omega
    have h4 := Int.mul_nonneg (by omega : 0 ≤ p) (by omega : 0 ≤ s.os.sum - came w s.os)
    rw [hgoes]
    split <;> omega
  have hmany : many t l p w s n = if -((x - l) / p) > 0 then -((x - l) / p) else 0 := by
    unfold many; dsimp only; rw [hx]
  have hm0 := many_nonneg t l p w s n
  have hm1 : many t l p w s n ≤ 1000 := by
    have := many_le (x := x) hp hx0 hl0
    rw [hmany]; split <;> omega
  let st : Nat → DV.Env := fun k => [some (.d (storeD t l p w ns)), some (.d (.int (i : Int))), some (.d (.int t)), some (.d (.int l)), some (.d (.int p)), some (.d (.int (w : Int))), some (.d (.lst (ns.map D.int))), some (.ol (s.fs.map rowD)), some (.d (.int (s.sold + goes t p w s n))), some (.ol (s.os.map D.int)), some (.d (.int (came w s.os))), some (.d (.int (here t p w s))), some (.d (.int (goes t p w s n))), some (.d (.int (k : Int))), none]
  have hxk : ∀ k : Int, here t p w s - goes t p w s n + p * (s.os.sum - came w s.os + k) = x + p * k := fun k => by
    rw [Int.mul_add, ← hx]; omega
  have loop : whileD wt__law_run_9 wb__law_run_9 [] 5000 (st 0) = .nx (st (many t l p w s n).toNat) := whileD_count (α := Unit) st _
    (fun k hk => ⟨by
      have : x + p * (k : Int) < l := many_pos hp _ (by rw [hmany] at hk; split at hk <;> omega)
      simp [st, wt__law_run_9, hpb, hxk, this], st (k + 1), .inl (by simp [st, wb__law_run_9]), by simp⟩)
    (by
      have : l ≤ x + p * ((many t l p w s n).toNat : Int) := many_end hp _ (by rw [Int.toNat_of_nonneg hm0, hmany]; split <;> omega)
      have h3 : ¬ (x + p * ((many t l p w s n).toNat : Int) < l) := by omega
      simp only [st, wt__law_run_9]
      simp [-Int.ofNat_toNat, hpb, hxk, h3]) (many t l p w s n).toNat 0 5000 (by omega) (by omega)
  have hl1 : s.os.length < 1000000 := by omega
  have hl2 : s.fs.length < 1000000 := by omega
  refine ⟨[some (.d (storeD t l p w ns)), some (.d (.int (i : Int))), some (.d (.int t)), some (.d (.int l)), some (.d (.int p)), some (.d (.int (w : Int))), some (.d (.lst (ns.map D.int))), some (.ol (s.fs.map rowD)), some (.d (.int s.sold)), some (.ol (s.os.map D.int)), none, none, none, none, none], ?_⟩
  refine ⟨[some (.d (storeD t l p w ns)), some (.d (.int (i : Int))), some (.d (.int t)), some (.d (.int l)), some (.d (.int p)), some (.d (.int (w : Int))), some (.d (.lst (ns.map D.int))), some (.ol ((St.step t l p w s n).fs.map rowD)), some (.d (.int (s.sold + goes t p w s n))), some (.ol ((St.step t l p w s n).os.map D.int)), some (.d (.int (came w s.os))), some (.d (.int (here t p w s))), some (.d (.int (goes t p w s n))), some (.d (.int (many t l p w s n))), none], by simp [lg__law_run_3, stL], .inl ?_, by simp [stL, St.step]⟩
  have z0 : ((0 : Nat) : Int) = 0 := rfl
  simp only [st, z0, Int.toNat_of_nonneg hm0] at loop
  have hhere : t + p * came w s.os - s.sold = here t p w s := rfl
  simp only [lb__law_run_3, st__law_run_4b, st__law_run_12]
  simp [-List.map_take, hir, hir2, hlc, hlen, ← hcome, hpb, hhere, hnx, ← hgoes, loop, hl1, hl2, St.step, rowD]
theorem law_run_ok {t l p : Int} {w : Nat} {ns : List Int} (hn : ns.length ≤ 30) (hp : 1 ≤ p) (hp1 : p ≤ 100) (hw : 1 ≤ w) (hl0 : 0 ≤ l) (hl1 : l ≤ 1000) : F__law_run [storeD t l p w ns] = .ol ((sim t l p w ns).fs.map rowD) := by
  have key := forD_at (g := lg__law_run_3) (F := lb__law_run_3) (wp := [1, 10, 11, 12, 13]) (rngD 0 ns.length) (stL t l p w ns) (fun i => sim t l p w (ns.take i)) fun i x hx => by
    have hi : i < ns.length := by
      have := (List.getElem?_eq_some_iff.mp hx).1
      simpa [rngD_length] using this
    have e : x = .int (i : Int) := by
      simp [rngD, hi] at hx
      exact hx.symm
    subst e
    rw [sim_take _ _ _ _ _ _ hi]
    exact law_turn t l p w ns _ _ i (by simp [hi]) (by rw [os_len]; simp; omega) (by rw [fs_len]; simp; omega) (by omega) hp hp1 hw hl0 hl1 (os_nonneg _ _ _ _ _)
  have e1 : stL t l p w ns (sim t l p w (ns.take 0)) = [some (.d (storeD t l p w ns)), none, some (.d (.int t)), some (.d (.int l)), some (.d (.int p)), some (.d (.int (w : Int))), some (.d (.lst (ns.map D.int))), some (.ol []), some (.d (.int 0)), some (.ol []), none, none, none, none, none] := by
    simp [stL, sim]
  rw [e1, rngD_length, List.take_length] at key
  have hir : (ns.length : Int) < 4611686018427387904 := by omega
  have hir2 : (-4611686018427387904 : Int) ≤ ns.length := by omega
  simp only [F__law_run, fnD_1]
  simp only [storeD] at key
  simp [b__law_run, st__law_run_1, storeD, hir, hir2, key]
  simp [stL]
theorem law_lost_ok {t l p : Int} {w : Nat} {ns : List Int} (hn : ns.length ≤ 30) (hp : 1 ≤ p) (hp1 : p ≤ 100) (hw : 1 ≤ w) (hl0 : 0 ≤ l) (hl1 : l ≤ 1000) : F__law_lost [storeD t l p w ns] = .val (.int (lost t l p w ns)) := by
  have h2 := law_run_ok (t := t) (l := l) hn hp hp1 hw hl0 hl1
  have hlc : lcGo cg__law_lost_1 tYes' ce__law_lost_1 [some (.d (storeD t l p w ns)), none] ((sim t l p w ns).fs.map rowD) = .ok ((sim t l p w ns).fs.map fun r => .int r.2.1) :=
    lcGo_map (γ := Unit) rowD (fun r => .int r.2.1) _ fun x hx => ⟨[some (.d (storeD t l p w ns)), some (.d (rowD x))], by simp [cg__law_lost_1], by simp, by
      have : ixD (rowD x) (.int 1) = .ok (.int x.2.1) := ixD_tup (by omega) (by simp)
      simp [ce__law_lost_1, this]⟩
  have hl := fs_len t l p w ns
  have hl2 : (sim t l p w ns).fs.length ≤ 1000000 := by omega
  have e : ((sim t l p w ns).fs.map fun r => D.int r.2.1) = ((sim t l p w ns).fs.map fun r => r.2.1).map D.int := by simp
  simp only [F__law_lost, fnD_1]
  simp [b__law_lost, h2, hl2, hlc]
  rw [e, sumD_map]
  simp [lost]

/-! the law -/
theorem ixD_last {xs : List D} {d : D} (h : xs.getLast? = some d) : ixD (.lst xs) (.int (-1)) = .ok d := by
  have hne : 0 < xs.length := by
    cases xs with
    | nil => simp at h
    | cons a r => simp
  have : atI xs (-1) = some d := by
    unfold atI ixN
    rw [if_neg (by omega), if_pos (by omega)]
    rw [List.getLast?_eq_getElem?] at h
    simp only [Option.bind_some]
    rw [show ((-1 : Int) + (xs.length : Int)).toNat = xs.length - 1 by omega]
    exact h
  simp only [ixD, this]
theorem cut_to {xs : List D} (j : Nat) (h : j ≤ xs.length) : cutG xs none (some (j : Int)) = xs.take j := by
  unfold cutG
  rw [HT.sIx_none, HT.sIx_nat, Nat.min_eq_left h]
  simp
theorem rows_fit {t l p : Int} {w : Nat} {ns : List Int} (h : Okay t l p w ns) : Fit 2 200 (.lst ((sim t l p w ns).fs.map rowD)) := by
  have hb := (bounds h.t0 h.t1 h.l0 h.l1 h.p0 h.p1 h.w0 ns h.a h.n1).2.2.2
  refine .lst (n := 3) (fun x hx => ?_) (by have := fs_len t l p w ns; have := h.n1; simp; omega)
  obtain ⟨r, hr, rfl⟩ := List.mem_map.mp hx
  obtain ⟨a, b, c⟩ := hb r hr
  refine .tup (n := 0) (fun y hy => ?_) (by simp)
  simp only [List.mem_cons, List.not_mem_nil, or_false] at hy
  rcases hy with rfl | rfl | rfl <;> exact .int (by omega)
theorem store_fit {t l p : Int} {w : Nat} {ns : List Int} (h : Okay t l p w ns) : Fit 2 200 (storeD t l p w ns) := by
  obtain ⟨t0, t1, l0, l1, p0, p1, w0, w1, n0, n1, a⟩ := h
  refine .tup (n := 30) (fun y hy => ?_) (by simp)
  simp only [List.mem_cons, List.not_mem_nil, or_false] at hy
  rcases hy with rfl | rfl | rfl | rfl | rfl
  · exact .int (by omega)
  · exact .int (by omega)
  · exact .int (by omega)
  · exact .int (by omega)
  · refine .lst (n := 0) (fun x hx => ?_) (by simpa using n1)
    obtain ⟨r, hr, rfl⟩ := List.mem_map.mp hx
    have := a r hr
    exact .int (by omega)
theorem lost_bound {t l p : Int} {w : Nat} {ns : List Int} (h : Okay t l p w ns) : (lost t l p w ns).natAbs < 1000000000000 := by
  have hb := (bounds h.t0 h.t1 h.l0 h.l1 h.p0 h.p1 h.w0 ns h.a h.n1).2.2.2
  have h1 : 0 ≤ lost t l p w ns := sum_nonneg fun k hk => by
    obtain ⟨r, hr, rfl⟩ := List.mem_map.mp hk
    exact (hb r hr).2.1.1
  have h2 : lost t l p w ns ≤ 1000 * ((sim t l p w ns).fs.map fun r => r.2.1).length := sum_le fun k hk => by
    obtain ⟨r, hr, rfl⟩ := List.mem_map.mp hk
    exact (hb r hr).2.1.2
  have := fs_len t l p w ns
  have := h.n1
  simp at h2
  omega
theorem ord_bound {t l p : Int} {w : Nat} {ns : List Int} (h : Okay t l p w ns) : (((sim t l p w ns).fs.map fun (r : Int × Int × Int) => r.2.2).sum : Int).natAbs < 1000000000000 := by
  have hb := (bounds h.t0 h.t1 h.l0 h.l1 h.p0 h.p1 h.w0 ns h.a h.n1).2.2.2
  have h1 : 0 ≤ ((sim t l p w ns).fs.map fun r => r.2.2).sum := sum_nonneg fun k hk => by
    obtain ⟨r, hr, rfl⟩ := List.mem_map.mp hk
    exact (hb r hr).2.2.1
  have h2 : ((sim t l p w ns).fs.map fun r => r.2.2).sum ≤ 1000 * ((sim t l p w ns).fs.map fun r => r.2.2).length := sum_le fun k hk => by
    obtain ⟨r, hr, rfl⟩ := List.mem_map.mp hk
    exact (hb r hr).2.2.2
  have := fs_len t l p w ns
  have := h.n1
  simp at h2
  omega
open DV.Draw in
theorem turn_ok (ns ds : List Int) (hd : Drawn ds) (i : Nat) (hi : i < 3) :
    ∃ s2, lb_law_2 [some (.d (.scr ns)), some (.d (.lst (ds.map D.int))), some (.d (.int (i : Int))), none, none, none, none, none, none, none, none, none, none, none, none, none, none, none, none] = .nx s2 ∧
      wipeE s2 [2, 3, 4, 5, 6, 7, 8, 9, 10, 11, 12, 13, 14, 15, 16] = [some (.d (.scr ns)), some (.d (.lst (ds.map D.int))), none, none, none, none, none, none, none, none, none, none, none, none, none, none, none, none, none] := by
  -- the draws
  have M : ∀ k many : Int, 0 ≤ k → 0 < many → F__law_mix [.lst (ds.map D.int), .int k, .int many] = .val (.int (mixV ds k many)) ∧ 0 ≤ mixV ds k many ∧ mixV ds k many < many := fun k many hk hm => mixV_ok ds hd k many hk hm
  obtain ⟨e0, a0, b0⟩ := M (i : Int) 2 (by omega) (by omega)
  obtain ⟨e1, a1, b1⟩ := M (3 + (i : Int)) 20 (by omega) (by omega)
  obtain ⟨et, t0, t1⟩ := M (6 + (i : Int)) 60 (by omega) (by omega)
  obtain ⟨el, l0, l1⟩ := M (9 + (i : Int)) 80 (by omega) (by omega)
  obtain ⟨ep, p0, p1⟩ := M (12 + (i : Int)) 12 (by omega) (by omega)
  obtain ⟨ew, w0, w1⟩ := M (15 + (i : Int)) 4 (by omega) (by omega)
  obtain ⟨ex, x0, x1⟩ := M (18 + (i : Int)) 30 (by omega) (by omega)
  generalize mixV ds (6 + (i : Int)) 60 = t at et t0 t1
  generalize mixV ds (9 + (i : Int)) 80 = l at el l0 l1
  generalize mixV ds (18 + (i : Int)) 30 = x at ex x0 x1
  generalize mixV ds (i : Int) 2 = wi at e0 a0 b0
  generalize mixV ds (3 + (i : Int)) 20 = many1 at e1 a1 b1
  generalize mixV ds (12 + (i : Int)) 12 = p' at ep p0 p1
  generalize mixV ds (15 + (i : Int)) 4 = w' at ew w0 w1
  obtain ⟨wide, hwide, wd0, wd1⟩ : ∃ wide : Int, ixD (.lst [.int 6, .int 30]) (.int wi) = .ok (.int wide) ∧ 0 < wide ∧ wide ≤ 30 := by
    by_cases hz : wi = 0
    · subst hz; exact ⟨6, ixD_lst (by omega) (by simp), by omega, by omega⟩
    · have : wi = 1 := by omega
      subst this; exact ⟨30, ixD_lst (by omega) (by simp), by omega, by omega⟩
  obtain ⟨n1, hn1⟩ := Int.eq_ofNat_of_zero_le a1
  obtain ⟨w, hw⟩ : ∃ w : Nat, 1 + w' = (w : Int) := ⟨(1 + w').toNat, by omega⟩
  generalize hp : 1 + p' = p
  generalize hq : (List.range (1 + n1)).map (fun j : Nat => mixV ds (30 + 25 * (i : Int) + (j : Int)) wide) = qs
  have hql : qs.length = 1 + n1 := by rw [← hq]; simp
  have hqa : ∀ n ∈ qs, 0 ≤ n ∧ n ≤ 1000 := by
    intro n hn
    rw [← hq] at hn
    obtain ⟨j, _, rfl⟩ := List.mem_map.mp hn
    have := M (30 + 25 * (i : Int) + (j : Int)) wide (by omega) wd0
    omega
  have hlc : lcGo cg_law_4 tYes' ce_law_4 [some (.d (.scr ns)), some (.d (.lst (ds.map D.int))), some (.d (.int (i : Int))), some (.d (.int wide)), none, none, none, none, none, none, none, none, none, none, none, none, none, none, none] (rngD 0 (1 + n1)) = .ok (qs.map D.int) := by
    unfold rngD
    rw [lcGo_map (γ := Unit) (fun j : Nat => D.int (0 + (j : Int))) (fun j : Nat => D.int (mixV ds (30 + 25 * (i : Int) + (j : Int)) wide)) (List.range (1 + n1)) fun j hj => ?_]
    · rw [← hq]; simp
    · refine ⟨[some (.d (.scr ns)), some (.d (.lst (ds.map D.int))), some (.d (.int (i : Int))), some (.d (.int wide)), none, none, none, none, none, none, none, none, none, none, none, none, none, some (.d (.int (j : Int))), none], by simp [cg_law_4], by simp, ?_⟩
      have := (M (30 + 25 * (i : Int) + (j : Int)) wide (by omega) wd0).1
      simp [ce_law_4, this]
  have hr : ((rngD 0 (1 + n1)).length ≤ 1000000) := by rw [rngD_length]; omega
  have hrn : (1 + many1).toNat = 1 + n1 := by omega
  have hir : 1 + many1 < 4611686018427387904 := by omega
  have hir2 : (-4611686018427387904 : Int) ≤ 1 + many1 := by omega
  have hO : ∀ (t' l' : Int), 0 ≤ t' → t' ≤ 1000 → 0 ≤ l' → l' ≤ 1000 → Okay t' l' p w qs := fun t' l' u1 u2 u3 u4 => ⟨u1, u2, u3, u4, by omega, by omega, by omega, by omega, by omega, by omega, hqa⟩
  have hS := hO t l t0 (by omega) l0 (by omega)
  have hp0 : 0 < p := by omega
  -- what the defs tell
  have f1 := law_run_ok (t := t) (l := l) hS.n1 hS.p0 hS.p1 hS.w0 hS.l0 hS.l1
  have f2 := run_ok hS
  have f3 := lost_ok hS
  have f4 := ordered_ok hS
  have f5 := lost_ok (hO t (l + 1 + x) t0 (by omega) (by omega) (by omega))
  obtain ⟨m, m1, m2, m3⟩ := least_ex t p w qs
  have f6 := least_ok hS m1 m2 m3
  have f7 := least_ok (hO t 0 t0 (by omega) (by omega) (by omega)) m1 m2 m3
  have f8 : ∀ l' : Int, 0 ≤ l' → l' ≤ 1000 → F__law_lost [storeD t l' p w qs] = .val (.int (lost t l' p w qs)) := fun l' u1 u2 => law_lost_ok hS.n1 hS.p0 hS.p1 hS.w0 u1 u2
  have f8a := f8 1000 (by omega) (by omega)
  have f8b := f8 (m : Int) (by omega) (by omega)
  have r1 := (rows_fit hS).repr (by omega) (by omega)
  have r2 := (rows_fit hS).nes (by omega)
  have r3 := (store_fit hS).repr (by omega) (by omega)
  have r4 := (Fit.int (k := 0) (n := 0) (lost_bound hS)).repr (by omega) (by omega)
  have r5 := (Fit.int (k := 0) (n := 0) (ord_bound hS)).repr (by omega) (by omega)
  have r6 := (Fit.int (k := 0) (n := 0) (i := (m : Int)) (by omega)).repr (by omega) (by omega)
  have hlen := fs_len t l p w qs
  have hlen1 : (sim t l p w qs).fs.length ≤ 1000000 := by omega
  have hlen2 : (sim t l p w qs).fs.length < 1000000 := by omega
  -- sums of what was found
  have c1 : ∀ env : DV.Env, env.length = 19 → lcGo cg_law_10 tYes' ce_law_10 env ((sim t l p w qs).fs.map rowD) = .ok (((sim t l p w qs).fs.map fun r => r.2.1).map D.int) := fun env he => by
    rw [List.map_map]
    refine lcGo_map (γ := Unit) rowD _ _ fun r hr => ⟨env.set 18 (some (.d (rowD r))), by simp [cg_law_10, he], by simp, ?_⟩
    have : ixD (rowD r) (.int 1) = .ok (.int r.2.1) := ixD_tup (by omega) (by simp)
    simp [ce_law_10, he, this]
  have c2 : ∀ env : DV.Env, env.length = 19 → lcGo cg_law_10b tYes' ce_law_10b env ((sim t l p w qs).fs.map rowD) = .ok (((sim t l p w qs).fs.map fun r => r.2.2).map D.int) := fun env he => by
    rw [List.map_map]
    refine lcGo_map (γ := Unit) rowD _ _ fun r hr => ⟨env.set 18 (some (.d (rowD r))), by simp [cg_law_10b, he], by simp, ?_⟩
    have : ixD (rowD r) (.int 2) = .ok (.int r.2.2) := ixD_tup (by omega) (by simp)
    simp [ce_law_10b, he, this]
  have c3 : ∀ env : DV.Env, env.length = 19 → lcGo cg_law_12 tYes' ce_law_12 env (((sim t l p w qs).fs.take (qs.length - w)).map rowD) = .ok ((((sim t l p w qs).os.take (qs.length - w))).map D.int) := fun env he => by
    rw [← orders_eq, ← List.map_take, List.map_map]
    refine lcGo_map (γ := Unit) rowD _ _ fun r hr => ⟨env.set 18 (some (.d (rowD r))), by simp [cg_law_12, he], by simp, ?_⟩
    have : ixD (rowD r) (.int 2) = .ok (.int r.2.2) := ixD_tup (by omega) (by simp)
    simp [ce_law_12, he, this]
  have hcut : cutG ((sim t l p w qs).fs.map rowD) none (some (if ((sim t l p w qs).fs.length : Int) - (w : Int) > 0 then ((sim t l p w qs).fs.length : Int) - (w : Int) else 0)) = ((sim t l p w qs).fs.take (qs.length - w)).map rowD := by
    have : (if ((sim t l p w qs).fs.length : Int) - (w : Int) > 0 then ((sim t l p w qs).fs.length : Int) - (w : Int) else 0) = ((qs.length - w : Nat) : Int) := by
      rw [hlen]; split <;> omega
    rw [this, cut_to _ (by simp; omega), List.map_take]
  -- the statements
  let A : List (Option SV) := [some (.d (.scr ns)), some (.d (.lst (ds.map D.int))), some (.d (.int (i : Int))), some (.d (.int wide)), some (.d (.lst (qs.map D.int))), some (.d (storeD t l p w qs))]
  have s1 : (sSeq st_law_3 (sSeq st_law_4b (sSeq st_law_5 st_law_6))) [some (.d (.scr ns)), some (.d (.lst (ds.map D.int))), some (.d (.int (i : Int))), none, none, none, none, none, none, none, none, none, none, none, none, none, none, none, none] =
      .nx (A ++ [none, none, none, none, none, none, some (.d (.int t)), some (.d (.int l)), some (.d (.int p)), some (.d (.int (w : Int))), some (.d (.lst (qs.map D.int))), none, none]) := by
    simp only [A, storeD]
    simp [st_law_3, st_law_4b, st_law_5, st_law_6, e0, hwide, e1, hir, hir2, hrn, hr, hlc, et, el, ep, ew, hp, hw]
  generalize hR : (sim t l p w qs).fs.map rowD = rows at *
  generalize hK : (storeD t l p w qs).pd.shown = K at *
  generalize hRK : (D.lst rows).pd.shown = RK at *
  generalize hLk : (D.int (lost t l p w qs)).pd.shown = Lk at *
  generalize hOk : (D.int (((sim t l p w qs).fs.map fun r => r.2.2).sum)).pd.shown = Ok at *
  generalize hMk : (D.int (m : Int)).pd.shown = Mk at *
  have hrl : rows.length ≤ 1000000 := by rw [← hR]; simpa using hlen1
  have hrl2 : rows.length < 1000000 := by rw [← hR]; simpa using hlen2
  have hrl3 : (rows.length : Int) = ((sim t l p w qs).fs.length : Int) := by rw [← hR]; simp
  let B : List (Option SV) := [some (.d (.int t)), some (.d (.int l)), some (.d (.int p)), some (.d (.int (w : Int))), some (.d (.lst (qs.map D.int))), none, none]
  have s2 : (sSeq (sSet 6 (eB reprD (aCons (eVar 5) (aNil)))) (sSeq (sSet 7 (eCall F__law_run (aCons (eVar 5) (aNil)))) (sNew 8 (nCall F_run (aCons (eVar 5) (aNil)))))) (A ++ [none, none, none, none, none, none] ++ B) =
      .nx (A ++ [some (.d (.str K)), some (.d (.lst rows)), some (.ol rows), none, none, none] ++ B) := by
    simp [A, B, r3, f1, f2]
  have s3 : st_law_10c (A ++ [some (.d (.str K)), some (.d (.lst rows)), some (.ol rows), none, none, none] ++ B) = .nx (A ++ [some (.d (.str K)), some (.d (.lst rows)), some (.ol rows), none, none, none] ++ B) := by
    simp only [A, B]
    have : ((sim t l p w qs).fs.map fun r => r.2.1).sum = lost t l p w qs := rfl
    simp [-List.map_map, st_law_10c, r1, f3, r4, f4, r5, hrl, c1, c2, this]
  have hpb : (-18446744073709551616 < p ∧ p < 18446744073709551616) := by omega
  obtain ⟨j, hj⟩ : ∃ j, j = qs.length - w := ⟨_, rfl⟩
  rw [← hj] at c3
  have hrl4 : min j (sim t l p w qs).fs.length ≤ 1000000 := by omega
  have hmax : max2D [.int 0, .int ((rows.length : Int) - (w : Int))] = .ok (.int (j : Int)) := by
    rw [max2D_int, hrl3, hlen, hj]; split <;> simp <;> omega
  have hc : cutG rows none (some (j : Int)) = ((sim t l p w qs).fs.take j).map rowD := by
    rw [← hR, cut_to _ (by simp; omega), List.map_take]
  have s4 : st_law_12b (A ++ [some (.d (.str K)), some (.d (.lst rows)), some (.ol rows), none, none, none] ++ B) = .nx (A ++ [some (.d (.str K)), some (.d (.lst rows)), some (.ol rows), some (.d (.int (p * ((sim t l p w qs).os.take j).sum))), none, none] ++ B) := by
    simp only [A, B]
    simp [-List.map_take, -max2D_int, st_law_12b, hmax, hc, hrl4, c3, hpb]
  -- the last day
  have hz : ∃ r, rows.getLast? = some (rowD r) ∧ r.1 = t + p * ((sim t l p w qs).os.take j).sum - (sim t l p w qs).sold := by
    have hne : qs ≠ [] := by intro e; rw [e] at hql; simp at hql; omega
    obtain ⟨r, h1, h2⟩ := last_there t l p w qs.dropLast (qs.getLast hne) hS.w0
    rw [List.dropLast_concat_getLast hne] at h1 h2
    rw [← hj] at h2
    exact ⟨r, by rw [← hR, List.getLast?_map, h1]; rfl, h2⟩
  obtain ⟨r, hr1, hr2⟩ := hz
  have hlast := ixD_last hr1
  have hfst : ixD (rowD r) (.int 0) = .ok (.int r.1) := ixD_tup (by omega) (by simp)
  have hloss := lost_eq t l p w qs
  let C : List (Option SV) := [some (.d (.str K)), some (.d (.lst rows)), some (.ol rows), some (.d (.int (p * ((sim t l p w qs).os.take j).sum)))]
  have s5 : st_law_13 (A ++ C ++ [none, none] ++ B) = .nx (A ++ C ++ [none, none] ++ B) := by
    have : r.1 = t + p * ((sim t l p w qs).os.take j).sum - qs.sum + lost t l p w qs := by omega
    simp only [A, B, C]
    simp [-List.map_take, st_law_13, hlast, hfst, f3, ← this]
  have hmono := lost_mono (t := t) (w := w) hp0 (by omega : l ≤ l + 1 + x) qs
  simp only [storeD] at f3 f5 f8a f8b f7
  have s6 : st_law_15 (A ++ C ++ [none, none] ++ B) = .nx (A ++ C ++ [none, none] ++ B) := by
    have h2 : ¬ (lost t l p w qs < lost t (l + 1 + x) p w qs) := by omega
    simp only [A, B, C, storeD]
    simp [-List.map_take, st_law_15, ex, f5, f3, h2]
  have hgoal : lost t m p w qs = lost t 1000 p w qs := by
    have := lost_mono (t := t) (w := w) hp0 (by omega : (m : Int) ≤ 1000) qs
    omega
  have s7 : (sSeq (sSet 10 (eCall F_least_stock (aCons (eVar 5) (aNil)))) st_law_18) (A ++ C ++ [none, none] ++ B) = .nx (A ++ C ++ [some (.d (.int m)), some (.d (.int (lost t 1000 p w qs)))] ++ B) := by
    simp only [A, B, C]
    simp [-List.map_take, st_law_18, f6, f8a]
  let G : List (Option SV) := [some (.d (.int m)), some (.d (.int (lost t 1000 p w qs)))]
  have s8 : st_law_19 (A ++ C ++ G ++ B) = .nx (A ++ C ++ G ++ B) := by
    simp only [A, B, C, G]
    by_cases hm : 0 < m
    · have f8c := f8 ((m : Int) - 1) (by omega) (by omega)
      simp only [storeD] at f8c
      have h3 := m3 (m - 1) (by omega)
      rw [show ((m - 1 : Nat) : Int) = (m : Int) - 1 by omega] at h3
      have h4 : ¬ (lost t ((m : Int) - 1) p w qs = lost t 1000 p w qs) := by omega
      simp [-List.map_take, st_law_19, f8b, hgoal, f8c, h4]
    · simp [-List.map_take, st_law_19, f8b, hgoal, hm]
  have s9 : st_law_21 (A ++ C ++ G ++ B) = .nx (A ++ C ++ G ++ B) := by
    simp only [A, B, C, G]
    by_cases hs : qs.sum ≤ 1000
    · have h0 : 0 ≤ qs.sum := sum_nonneg fun k hk => (hqa k hk).1
      have f9 := lost_ok (hO qs.sum l h0 hs l0 (by omega))
      have h1 := all_there (l := l) (w := w) hp0 qs fun k hk => (hqa k hk).1
      rw [h1] at f9
      simp only [storeD] at f9
      simp [-List.map_take, st_law_21, f7, r6, hs, f9]
    · simp [-List.map_take, st_law_21, f7, r6, hs]
  have s10 : (sSeq (sApp 8 (eTup (aNil))) st_law_24) (A ++ C ++ G ++ B) = .nx (A ++ [some (.d (.str K)), some (.d (.lst rows)), some (.ol (rows ++ [.tup []])), some (.d (.int (p * ((sim t l p w qs).os.take j).sum)))] ++ G ++ B) := by
    simp only [A, B, C, G]
    simp [-List.map_take, st_law_24, hrl2, f2, r2, r3]
  refine ⟨A ++ [some (.d (.str K)), some (.d (.lst rows)), some (.ol (rows ++ [.tup []])), some (.d (.int (p * ((sim t l p w qs).os.take j).sum)))] ++ G ++ B, ?_, by simp [A, B, G]⟩
  have s1' : (sSeq st_law_3 (sSeq st_law_4b (sSeq st_law_5 st_law_6))) [some (.d (.scr ns)), some (.d (.lst (ds.map D.int))), some (.d (.int (i : Int))), none, none, none, none, none, none, none, none, none, none, none, none, none, none, none, none] =
      .nx (A ++ [none, none, none, none, none, none] ++ B) := s1
  have s3' : st_law_10c (A ++ [some (.d (.str K)), some (.d (.lst rows)), some (.ol rows), none, none, none] ++ B) = _ := s3
  have s4' : st_law_12b (A ++ [some (.d (.str K)), some (.d (.lst rows)), some (.ol rows), none, none, none] ++ B) = .nx (A ++ C ++ [none, none] ++ B) := s4
  have s7' : (sSeq (sSet 10 (eCall F_least_stock (aCons (eVar 5) (aNil)))) st_law_18) (A ++ C ++ [none, none] ++ B) = .nx (A ++ C ++ G ++ B) := s7
  rw [lb_law_2, run4 s1', run3 s2, run1 s3', run1 s4', run1 s5, run1 s6, run2 s7', run1 s8, run1 s9, s10]
theorem law_true : DV.Holds1 Law.N_law.length Law.b_law 63 := by
  intro ns hns
  obtain ⟨ds, hds, hd, _⟩ := DV.Draw.draws_ok ns hns
  have hds : F__law_draws [.scr ns] = .ol (ds.map D.int) := hds
  refine ⟨_, rfl, ?_⟩
  have loop := forD_inv (g := lg_law_2) (F := lb_law_2) (wp := [2, 3, 4, 5, 6, 7, 8, 9, 10, 11, 12, 13, 14, 15, 16])
    (fun xs s => (∃ k, xs = (rngD 0 3).drop k) ∧ s = [some (.d (.scr ns)), some (.d (.lst (ds.map D.int))), none, none, none, none, none, none, none, none, none, none, none, none, none, none, none, none, none]) ?step (rngD 0 3) _ ⟨⟨0, rfl⟩, rfl⟩
  · obtain ⟨s', h1, _, rfl⟩ := loop
    have z1 := run_ok (t := 5) (l := 4) (p := 3) (w := 1) (ns := [2, 9]) ⟨by decide, by decide, by decide, by decide, by decide, by decide, by decide, by decide, by decide, by decide, by decide⟩
    have z2 := least_ok (t := 10) (l := 0) (p := 1) (w := 1) (ns := [5]) ⟨by decide, by decide, by decide, by decide, by decide, by decide, by decide, by decide, by decide, by decide, by decide⟩ (m := 0) (by decide) (by decide) (fun i hi => absurd hi (by omega))
    have z3 : (sim 5 4 3 1 [2, 9]).fs = [(3, 0, 1), (0, 3, 2)] := by decide
    rw [z3] at z1
    simp only [storeD, List.map_cons, List.map_nil, rowD] at z1 z2
    have z4 : eqD (.lst [.tup [.int 3, .int 0, .int 1], .tup [.int 0, .int 3, .int 2]]) (.lst [.tup [.int 3, .int 0, .int 1], .tup [.int 0, .int 3, .int 2]]) = .ok (.bl true) := by
      refine Fit.eqs (k := 2) (n := 8) (.lst (n := 3) (fun x hx => ?_) (by simp)) (by omega)
      simp only [List.mem_cons, List.not_mem_nil, or_false] at hx
      rcases hx with rfl | rfl
      · refine .tup (n := 0) (fun y hy => ?_) (by simp)
        simp only [List.mem_cons, List.not_mem_nil, or_false] at hy
        rcases hy with rfl | rfl | rfl <;> exact .int (by decide)
      · refine .tup (n := 0) (fun y hy => ?_) (by simp)
        simp only [List.mem_cons, List.not_mem_nil, or_false] at hy
        rcases hy with rfl | rfl | rfl <;> exact .int (by decide)
    have z1' : F_run [.tup [.int 5, .int 4, .int 3, .int 1, .lst [.int 2, .int 9]]] = .ol [.tup [.int 3, .int 0, .int 1], .tup [.int 0, .int 3, .int 2]] := z1
    have z2' : F_least_stock [.tup [.int 10, .int 0, .int 1, .int 1, .lst [.int 5]]] = .val (.int 0) := z2
    simp [b_law, hds, h1, st_law_26, z1', z2', z4]
  · rintro x xs s ⟨⟨k, e⟩, rfl⟩
    have hk : k < 3 := by
      have := congrArg List.length e
      simp [rngD_length] at this
      omega
    have hx : x = .int (k : Int) := by
      have := congrArg List.head? e
      simp [rngD, List.head?_drop, hk] at this
      exact this
    subst hx
    obtain ⟨s2, h1, h2⟩ := turn_ok ns ds hd k hk
    refine ⟨_, s2, by simp [lg_law_2], .inl h1, ⟨k + 1, ?_⟩, h2⟩
    have := congrArg List.tail e
    simpa using this
end Law

namespace Law
open PySem L2 PySem.Spec PyProof.Rows DV
theorem all_mk {P : Program} {w : World} {K : PySem.W.Frag} {h : Heap} {mg : Str → Option Value} {fa : Addr} (X : K.In h) (G : h.Ns mainGlobals mg) (hfa : mg "law" = some (.ref fa))
    {f0 : Addr} {od0 an0 : Option Addr} {sl0 : Array (Option Value)} {oc0 kV0 dc0 pm0 cd0 ct0 : Value}
    {f1 : Addr} {od1 an1 : Option Addr} {sl1 : Array (Option Value)} {oc1 kV1 dc1 pm1 cd1 ct1 : Value}
    {f2 : Addr} {od2 an2 : Option Addr} {sl2 : Array (Option Value)} {oc2 kV2 dc2 pm2 cd2 ct2 : Value}
    {f3 : Addr} {od3 an3 : Option Addr} {sl3 : Array (Option Value)} {oc3 kV3 dc3 pm3 cd3 ct3 : Value}
    {f4 : Addr} {od4 an4 : Option Addr} {sl4 : Array (Option Value)} {oc4 kV4 dc4 pm4 cd4 ct4 : Value}
    {f5 : Addr} {od5 an5 : Option Addr} {sl5 : Array (Option Value)} {oc5 kV5 dc5 pm5 cd5 ct5 : Value}
    {f6 : Addr} {od6 an6 : Option Addr} {sl6 : Array (Option Value)} {oc6 kV6 dc6 pm6 cd6 ct6 : Value}
    {f7 : Addr} {od7 an7 : Option Addr} {sl7 : Array (Option Value)} {oc7 kV7 dc7 pm7 cd7 ct7 : Value}
    {f8 : Addr} {od8 an8 : Option Addr} {sl8 : Array (Option Value)} {oc8 kV8 dc8 pm8 cd8 ct8 : Value}
    {f9 : Addr} {od9 an9 : Option Addr} {sl9 : Array (Option Value)} {oc9 kV9 dc9 pm9 cd9 ct9 : Value}
    {f10 : Addr} {od10 an10 : Option Addr} {sl10 : Array (Option Value)} {oc10 kV10 dc10 pm10 cd10 ct10 : Value}
    {f11 : Addr} {od11 an11 : Option Addr} {sl11 : Array (Option Value)} {oc11 kV11 dc11 pm11 cd11 ct11 : Value}
    (a0 : PySem.W.nsIn K mainGlobals "check_store" = some (some (.ref f0))) (l0 : K.lookup f0 = some ⟨oc0, od0, .func (PySem.W.fnOf "check_store" "check_store" (defArgs s_check_store) (defBody s_check_store) (defScope s_check_store) .none kV0 dc0 pm0 an0 cd0 ct0), sl0⟩) (c0 : PySem.W.codeIn K cd0 "check_store" = true) (k0 : PySem.W.keepIn K (.ref f0) = true)
    (a1 : PySem.W.nsIn K mainGlobals "run_of" = some (some (.ref f1))) (l1 : K.lookup f1 = some ⟨oc1, od1, .func (PySem.W.fnOf "run_of" "run_of" (defArgs s_run_of) (defBody s_run_of) (defScope s_run_of) .none kV1 dc1 pm1 an1 cd1 ct1), sl1⟩) (c1 : PySem.W.codeIn K cd1 "run_of" = true) (k1 : PySem.W.keepIn K (.ref f1) = true)
    (a2 : PySem.W.nsIn K mainGlobals "run" = some (some (.ref f2))) (l2 : K.lookup f2 = some ⟨oc2, od2, .func (PySem.W.fnOf "run" "run" (defArgs s_run) (defBody s_run) (defScope s_run) .none kV2 dc2 pm2 an2 cd2 ct2), sl2⟩) (c2 : PySem.W.codeIn K cd2 "run" = true) (k2 : PySem.W.keepIn K (.ref f2) = true)
    (a3 : PySem.W.nsIn K mainGlobals "lost_of" = some (some (.ref f3))) (l3 : K.lookup f3 = some ⟨oc3, od3, .func (PySem.W.fnOf "lost_of" "lost_of" (defArgs s_lost_of) (defBody s_lost_of) (defScope s_lost_of) .none kV3 dc3 pm3 an3 cd3 ct3), sl3⟩) (c3 : PySem.W.codeIn K cd3 "lost_of" = true) (k3 : PySem.W.keepIn K (.ref f3) = true)
    (a4 : PySem.W.nsIn K mainGlobals "lost" = some (some (.ref f4))) (l4 : K.lookup f4 = some ⟨oc4, od4, .func (PySem.W.fnOf "lost" "lost" (defArgs s_lost) (defBody s_lost) (defScope s_lost) .none kV4 dc4 pm4 an4 cd4 ct4), sl4⟩) (c4 : PySem.W.codeIn K cd4 "lost" = true) (k4 : PySem.W.keepIn K (.ref f4) = true)
    (a5 : PySem.W.nsIn K mainGlobals "ordered" = some (some (.ref f5))) (l5 : K.lookup f5 = some ⟨oc5, od5, .func (PySem.W.fnOf "ordered" "ordered" (defArgs s_ordered) (defBody s_ordered) (defScope s_ordered) .none kV5 dc5 pm5 an5 cd5 ct5), sl5⟩) (c5 : PySem.W.codeIn K cd5 "ordered" = true) (k5 : PySem.W.keepIn K (.ref f5) = true)
    (a6 : PySem.W.nsIn K mainGlobals "least_stock" = some (some (.ref f6))) (l6 : K.lookup f6 = some ⟨oc6, od6, .func (PySem.W.fnOf "least_stock" "least_stock" (defArgs s_least_stock) (defBody s_least_stock) (defScope s_least_stock) .none kV6 dc6 pm6 an6 cd6 ct6), sl6⟩) (c6 : PySem.W.codeIn K cd6 "least_stock" = true) (k6 : PySem.W.keepIn K (.ref f6) = true)
    (a7 : PySem.W.nsIn K mainGlobals "_law_draws" = some (some (.ref f7))) (l7 : K.lookup f7 = some ⟨oc7, od7, .func (PySem.W.fnOf "_law_draws" "_law_draws" (defArgs s__law_draws) (defBody s__law_draws) (defScope s__law_draws) .none kV7 dc7 pm7 an7 cd7 ct7), sl7⟩) (c7 : PySem.W.codeIn K cd7 "_law_draws" = true) (k7 : PySem.W.keepIn K (.ref f7) = true)
    (a8 : PySem.W.nsIn K mainGlobals "_law_mix" = some (some (.ref f8))) (l8 : K.lookup f8 = some ⟨oc8, od8, .func (PySem.W.fnOf "_law_mix" "_law_mix" (defArgs s__law_mix) (defBody s__law_mix) (defScope s__law_mix) .none kV8 dc8 pm8 an8 cd8 ct8), sl8⟩) (c8 : PySem.W.codeIn K cd8 "_law_mix" = true) (k8 : PySem.W.keepIn K (.ref f8) = true)
    (a9 : PySem.W.nsIn K mainGlobals "_law_run" = some (some (.ref f9))) (l9 : K.lookup f9 = some ⟨oc9, od9, .func (PySem.W.fnOf "_law_run" "_law_run" (defArgs s__law_run) (defBody s__law_run) (defScope s__law_run) .none kV9 dc9 pm9 an9 cd9 ct9), sl9⟩) (c9 : PySem.W.codeIn K cd9 "_law_run" = true) (k9 : PySem.W.keepIn K (.ref f9) = true)
    (a10 : PySem.W.nsIn K mainGlobals "_law_lost" = some (some (.ref f10))) (l10 : K.lookup f10 = some ⟨oc10, od10, .func (PySem.W.fnOf "_law_lost" "_law_lost" (defArgs s__law_lost) (defBody s__law_lost) (defScope s__law_lost) .none kV10 dc10 pm10 an10 cd10 ct10), sl10⟩) (c10 : PySem.W.codeIn K cd10 "_law_lost" = true) (k10 : PySem.W.keepIn K (.ref f10) = true)
    (a11 : PySem.W.nsIn K mainGlobals "law" = some (some (.ref f11))) (l11 : K.lookup f11 = some ⟨oc11, od11, .func (PySem.W.fnOf "law" "law" (defArgs s_law) (defBody s_law) (defScope s_law) .none kV11 dc11 pm11 an11 cd11 ct11), sl11⟩) (c11 : PySem.W.codeIn K cd11 "law" = true) (k11 : PySem.W.keepIn K (.ref f11) = true)
    (z_abs : PySem.W.nsIn K mainGlobals "abs" = some none)
    (z_all : PySem.W.nsIn K mainGlobals "all" = some none)
    (z_enumerate : PySem.W.nsIn K mainGlobals "enumerate" = some none)
    (z_int : PySem.W.nsIn K mainGlobals "int" = some none)
    (z_len : PySem.W.nsIn K mainGlobals "len" = some none)
    (z_max : PySem.W.nsIn K mainGlobals "max" = some none)
    (z_min : PySem.W.nsIn K mainGlobals "min" = some none)
    (z_range : PySem.W.nsIn K mainGlobals "range" = some none)
    (z_repr : PySem.W.nsIn K mainGlobals "repr" = some none)
    (z_sum : PySem.W.nsIn K mainGlobals "sum" = some none)
    {u_MOST_DAYS : Tok} (y_MOST_DAYS : PySem.W.nsIn K mainGlobals "MOST_DAYS" = some (some (.int 30 u_MOST_DAYS)))
    {u_MOST_PACK : Tok} (y_MOST_PACK : PySem.W.nsIn K mainGlobals "MOST_PACK" = some (some (.int 100 u_MOST_PACK)))
    {u_MOST_PIECES : Tok} (y_MOST_PIECES : PySem.W.nsIn K mainGlobals "MOST_PIECES" = some (some (.int 1000 u_MOST_PIECES)))
    {u_MOST_WAIT : Tok} (y_MOST_WAIT : PySem.W.nsIn K mainGlobals "MOST_WAIT" = some (some (.int 10 u_MOST_WAIT))) : ∃ fd : FuncData, (∀ (s : Shared) (u : Value), BindsTo s fd ⟨[u], []⟩ [("script", u)]) ∧ Fun K "law" "law" s_law fa fd ∧ ∀ base : Heap, K.In base → base.Ns mainGlobals mg → BodyOk P w K mg base N_law "law" s_law fa 4 True b_law := by
  have e := hfa.symm.trans (PySem.W.mg_of X G a11)
  cases e
  have T : Txt K mg := {
    f_check_store := ⟨_, _, fun_mk (st := s_check_store) l0 c0 k0, PySem.W.mg_of X G a0, (fun_mk (st := s_check_store) l0 c0 k0).binds (ps := ["store"]) fun _ _ _ _ _ _ us hl => (match us, hl with | [_], _ => rfl)⟩,
    f_run_of := ⟨_, _, fun_mk (st := s_run_of) l1 c1 k1, PySem.W.mg_of X G a1, (fun_mk (st := s_run_of) l1 c1 k1).binds (ps := ["store"]) fun _ _ _ _ _ _ us hl => (match us, hl with | [_], _ => rfl)⟩,
    f_run := ⟨_, _, fun_mk (st := s_run) l2 c2 k2, PySem.W.mg_of X G a2, (fun_mk (st := s_run) l2 c2 k2).binds (ps := ["store"]) fun _ _ _ _ _ _ us hl => (match us, hl with | [_], _ => rfl)⟩,
    f_lost_of := ⟨_, _, fun_mk (st := s_lost_of) l3 c3 k3, PySem.W.mg_of X G a3, (fun_mk (st := s_lost_of) l3 c3 k3).binds (ps := ["store"]) fun _ _ _ _ _ _ us hl => (match us, hl with | [_], _ => rfl)⟩,
    f_lost := ⟨_, _, fun_mk (st := s_lost) l4 c4 k4, PySem.W.mg_of X G a4, (fun_mk (st := s_lost) l4 c4 k4).binds (ps := ["store"]) fun _ _ _ _ _ _ us hl => (match us, hl with | [_], _ => rfl)⟩,
    f_ordered := ⟨_, _, fun_mk (st := s_ordered) l5 c5 k5, PySem.W.mg_of X G a5, (fun_mk (st := s_ordered) l5 c5 k5).binds (ps := ["store"]) fun _ _ _ _ _ _ us hl => (match us, hl with | [_], _ => rfl)⟩,
    f_least_stock := ⟨_, _, fun_mk (st := s_least_stock) l6 c6 k6, PySem.W.mg_of X G a6, (fun_mk (st := s_least_stock) l6 c6 k6).binds (ps := ["store"]) fun _ _ _ _ _ _ us hl => (match us, hl with | [_], _ => rfl)⟩,
    f__law_draws := ⟨_, _, fun_mk (st := s__law_draws) l7 c7 k7, PySem.W.mg_of X G a7, (fun_mk (st := s__law_draws) l7 c7 k7).binds (ps := ["script"]) fun _ _ _ _ _ _ us hl => (match us, hl with | [_], _ => rfl)⟩,
    f__law_mix := ⟨_, _, fun_mk (st := s__law_mix) l8 c8 k8, PySem.W.mg_of X G a8, (fun_mk (st := s__law_mix) l8 c8 k8).binds (ps := ["draws", "k", "many"]) fun _ _ _ _ _ _ us hl => (match us, hl with | [_, _, _], _ => rfl)⟩,
    f__law_run := ⟨_, _, fun_mk (st := s__law_run) l9 c9 k9, PySem.W.mg_of X G a9, (fun_mk (st := s__law_run) l9 c9 k9).binds (ps := ["store"]) fun _ _ _ _ _ _ us hl => (match us, hl with | [_], _ => rfl)⟩,
    f__law_lost := ⟨_, _, fun_mk (st := s__law_lost) l10 c10 k10, PySem.W.mg_of X G a10, (fun_mk (st := s__law_lost) l10 c10 k10).binds (ps := ["store"]) fun _ _ _ _ _ _ us hl => (match us, hl with | [_], _ => rfl)⟩,
    f_law := ⟨_, _, fun_mk (st := s_law) l11 c11 k11, PySem.W.mg_of X G a11, (fun_mk (st := s_law) l11 c11 k11).binds (ps := ["script"]) fun _ _ _ _ _ _ us hl => (match us, hl with | [_], _ => rfl)⟩,
    b_abs := PySem.W.mg_none_of X G z_abs,
    b_all := PySem.W.mg_none_of X G z_all,
    b_enumerate := PySem.W.mg_none_of X G z_enumerate,
    b_int := PySem.W.mg_none_of X G z_int,
    b_len := PySem.W.mg_none_of X G z_len,
    b_max := PySem.W.mg_none_of X G z_max,
    b_min := PySem.W.mg_none_of X G z_min,
    b_range := PySem.W.mg_none_of X G z_range,
    b_repr := PySem.W.mg_none_of X G z_repr,
    b_sum := PySem.W.mg_none_of X G z_sum,
    g_MOST_DAYS := ⟨_, PySem.W.mg_of X G y_MOST_DAYS⟩,
    g_MOST_PACK := ⟨_, PySem.W.mg_of X G y_MOST_PACK⟩,
    g_MOST_PIECES := ⟨_, PySem.W.mg_of X G y_MOST_PIECES⟩,
    g_MOST_WAIT := ⟨_, PySem.W.mg_of X G y_MOST_WAIT⟩ }
  exact ⟨_, fun s u => .of_eq rfl, fun_mk (st := s_law) l11 c11 k11, fun base _ _ => ok_law T⟩
end Law
open PySem PySem.W PyProof.Rows
set_option maxHeartbeats 0 in
theorem PySem.Challenge.cw_bargainstold_k57_whole_orders_for_stores_holds : PySem.Challenge.rw_bargainstold_k57_whole_orders_for_stores.Holds := by
  w_on; o_law; k_head; (case hw => w_witness2)
  k_fill
  refine DV.law_end (l := PySem.Challenge.rw_bargainstold_k57_whole_orders_for_stores) (n := 63) (k := 4) (N := Law.N_law) (x := "law") (qual := "law") (st := Law.s_law) (Fb := Law.b_law) rfl (by decide) rfl ⟨rfl, by decide, by decide⟩ Law.sc_law (fun w h Y => PySem.W.kIn_of Y) Law.law_true ?F
  case F =>
    intro w mg fa h KX G hmg
    refine' Law.all_mk KX G hmg ?a0 ?l0 ?c0 ?k0 ?a1 ?l1 ?c1 ?k1 ?a2 ?l2 ?c2 ?k2 ?a3 ?l3 ?c3 ?k3 ?a4 ?l4 ?c4 ?k4 ?a5 ?l5 ?c5 ?k5 ?a6 ?l6 ?c6 ?k6 ?a7 ?l7 ?c7 ?k7 ?a8 ?l8 ?c8 ?k8 ?a9 ?l9 ?c9 ?k9 ?a10 ?l10 ?c10 ?k10 ?a11 ?l11 ?c11 ?k11 ?z_abs ?z_all ?z_enumerate ?z_int ?z_len ?z_max ?z_min ?z_range ?z_repr ?z_sum ?y_MOST_DAYS ?y_MOST_PACK ?y_MOST_PIECES ?y_MOST_WAIT
    (case a0 => k_is); (case l0 => k_is); (case c0 => k_is); (case k0 => k_is); (case a1 => k_is); (case l1 => k_is); (case c1 => k_is); (case k1 => k_is); (case a2 => k_is); (case l2 => k_is); (case c2 => k_is); (case k2 => k_is); (case a3 => k_is); (case l3 => k_is); (case c3 => k_is); (case k3 => k_is); (case a4 => k_is); (case l4 => k_is); (case c4 => k_is); (case k4 => k_is); (case a5 => k_is); (case l5 => k_is); (case c5 => k_is); (case k5 => k_is); (case a6 => k_is); (case l6 => k_is); (case c6 => k_is); (case k6 => k_is); (case a7 => k_is); (case l7 => k_is); (case c7 => k_is); (case k7 => k_is); (case a8 => k_is); (case l8 => k_is); (case c8 => k_is); (case k8 => k_is); (case a9 => k_is); (case l9 => k_is); (case c9 => k_is); (case k9 => k_is); (case a10 => k_is); (case l10 => k_is); (case c10 => k_is); (case k10 => k_is); (case a11 => k_is); (case l11 => k_is); (case c11 => k_is); (case k11 => k_is); (case z_abs => k_is); (case z_all => k_is); (case z_enumerate => k_is); (case z_int => k_is); (case z_len => k_is); (case z_max => k_is); (case z_min => k_is); (case z_range => k_is); (case z_repr => k_is); (case z_sum => k_is); (case y_MOST_DAYS => k_is); (case y_MOST_PACK => k_is); (case y_MOST_PIECES => k_is); (case y_MOST_WAIT => k_is)

