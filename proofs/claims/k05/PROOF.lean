import PyProof.Rows.All
import Wide.All
import OpenK.AllK
import Wide.FinOn
import HandS.ForMost
import HandS.IsInst
import HandS.StrMore
import HandS.Style
import HandS.Flow
import HandS.TupAny
import HandS.Wide
import HandS.TupMul
import HandS.Zip
import HandS.Conv
import PyProof.ListStr
import HandS.Words
import HandS.Ends
import HandS.Deep
import HandS.Rev
import KE.GoesMore
import PyProof.StrLawsIn
import PySem.Challenge.RW_threescribes_k05_first_texts
set_option Elab.async false
set_option linter.all false
set_option maxRecDepth 100000
/-! T3: plain values Va over the hand layer: what a def computes, as a total function over plain values and a store of the lists and dicts that may change -/
namespace T3
open PySem PySem.Spec PyProof.Rows L2

/-- plain values; ref n: the n-th thing of the store -/
inductive Va where
  | non | bl (b : Bool) | int (i : Int) | str (s : List Nat) | tup (ws : List Va) | ktp (ws : List Va) | ref (n : Nat) | ty (n : String)
/-- things of the store -/
inductive Ob where
  | lst (ws : List Va)
  | rol (ws : List Va)
  | dic (kvs : List (Key × Va))
  | dit (kvs : List (List Key × Va))
abbrev Fm := List (Option Va)
abbrev Sto := List Ob
def Ob.mut : Ob → Bool
  | .rol _ => false
  | _ => true

mutual
def RepV (K : PySem.W.Frag) (ρ : List Addr) (H : Hp) : Va → V → Prop
  | .non, v => v = .non
  | .bl b, v => v = .bl b
  | .int i, v => v = .int i
  | .str s, v => v = .str ⟨s.toArray⟩
  | .ty n, v => v = .ty n
  | .ref n, v => ∃ a, v = .ref a ∧ ρ[n]? = some a
  | .tup ws, v => ∃ a vs, v = .ref a ∧ H a = some (.tup vs) ∧ RepL K ρ H ws vs
  | .ktp ws, v => ∃ a vs, v = .ref a ∧ SqT K (fun _ => none) a vs ∧ RepL K ρ H ws vs
def RepL (K : PySem.W.Frag) (ρ : List Addr) (H : Hp) : List Va → List V → Prop
  | [], vs => vs = []
  | w :: ws, vs => ∃ v r, vs = v :: r ∧ RepV K ρ H w v ∧ RepL K ρ H ws r
end

/-- a list that is only read -/
def Ro (K : PySem.W.Frag) (H : Hp) (a : Addr) (vs : List V) : Prop := (∃ o, H a = some (.frz o (.lst vs))) ∨ SqL K (fun _ => none) a vs
def RepO (K : PySem.W.Frag) (ρ : List Addr) (H : Hp) (a : Addr) : Ob → Prop
  | .lst ws => ∃ vs, H a = some (.lst vs) ∧ RepL K ρ H ws vs
  | .rol ws => ∃ vs, Ro K H a vs ∧ RepL K ρ H ws vs
  | .dic kvs => ∃ ks : List (Key × V), H a = some (.dK ks) ∧ ks.map (·.1) = kvs.map (·.1) ∧ RepL K ρ H (kvs.map (·.2)) (ks.map (·.2))
  | .dit kvs => ∃ ks : List (List Key × V), H a = some (.dT ks) ∧ ks.map (·.1) = kvs.map (·.1) ∧ RepL K ρ H (kvs.map (·.2)) (ks.map (·.2))

/-- the tuples stay -/
def Kp (_ : PySem.W.Frag) (H H' : Hp) : Prop := ∀ a xs, H a = some (.tup xs) → H' a = some (.tup xs)
theorem Kp.refl {K : PySem.W.Frag} {H : Hp} : Kp K H H := fun _ _ h => h
theorem Kp.trans {K : PySem.W.Frag} {H H1 H2 : Hp} (a : Kp K H H1) (b : Kp K H1 H2) : Kp K H H2 := fun x y h => b x y (a x y h)
theorem Kp.upd {K : PySem.W.Frag} {H : Hp} {p : Addr} {o : HO} (h1 : ∀ xs, H p ≠ some (.tup xs)) : Kp K H (upd H p o) := by
  intro a xs h
  rw [upd_ne (fun e => h1 xs (by rw [← e]; exact h))]; exact h
theorem Kp.new {K : PySem.W.Frag} {H : Hp} {p : Addr} {o : HO} (h : H p = none) : Kp K H (L2.upd H p o) :=
  Kp.upd (fun xs => by rw [h]; simp)

section
variable {K : PySem.W.Frag} {ρ ρ' : List Addr} {H H' : Hp}
theorem pre_get {α : Type} {l l' : List α} (h : l <+: l') {i : Nat} {a : α} (e : l[i]? = some a) : l'[i]? = some a := by
  obtain ⟨t, rfl⟩ := h
  obtain ⟨hi, _⟩ := List.getElem?_eq_some_iff.mp e
  rw [List.getElem?_append_left hi]; exact e
mutual
theorem RepV.mono (hp : ρ <+: ρ') (hk : Kp K H H') : ∀ (w : Va) (v : V), RepV K ρ H w v → RepV K ρ' H' w v
  | .non, _, h => by simp only [RepV] at h ⊢; exact h
  | .bl _, _, h => by simp only [RepV] at h ⊢; exact h
  | .int _, _, h => by simp only [RepV] at h ⊢; exact h
  | .str _, _, h => by simp only [RepV] at h ⊢; exact h
  | .ty _, _, h => by simp only [RepV] at h ⊢; exact h
  | .ref n, _, h => by
    simp only [RepV] at h ⊢
    obtain ⟨a, e, q⟩ := h
    exact ⟨a, e, pre_get hp q⟩
  | .tup ws, _, h => by
    simp only [RepV] at h ⊢
    obtain ⟨a, vs, e, q, r⟩ := h
    exact ⟨a, vs, e, hk _ _ q, RepL.mono hp hk ws vs r⟩
  | .ktp ws, _, h => by
    simp only [RepV] at h ⊢
    obtain ⟨a, vs, e, q, r⟩ := h
    exact ⟨a, vs, e, q, RepL.mono hp hk ws vs r⟩
theorem RepL.mono (hp : ρ <+: ρ') (hk : Kp K H H') : ∀ (ws : List Va) (vs : List V), RepL K ρ H ws vs → RepL K ρ' H' ws vs
  | [], _, h => by simp only [RepL] at h ⊢; exact h
  | w :: ws, _, h => by
    simp only [RepL] at h ⊢
    obtain ⟨v, r, e, q, z⟩ := h
    exact ⟨v, r, e, RepV.mono hp hk w v q, RepL.mono hp hk ws r z⟩
end
mutual
/-- no ref at or above n -/
def Va.und (n : Nat) : Va → Bool
  | .ref m => decide (m < n)
  | .tup ws => Va.undL n ws
  | .ktp ws => Va.undL n ws
  | _ => true
def Va.undL (n : Nat) : List Va → Bool
  | [] => true
  | w :: ws => w.und n && Va.undL n ws
end
def Ob.und (n : Nat) : Ob → Bool
  | .lst ws => Va.undL n ws
  | .rol ws => Va.undL n ws
  | .dic kvs => Va.undL n (kvs.map (·.2))
  | .dit kvs => Va.undL n (kvs.map (·.2))
mutual
theorem RepV.cut {n : Nat} : ∀ (w : Va) (v : V), w.und n = true → RepV K ρ H w v → RepV K (ρ.take n) H w v
  | .non, _, _, h => by simp only [RepV] at h ⊢; exact h
  | .bl _, _, _, h => by simp only [RepV] at h ⊢; exact h
  | .int _, _, _, h => by simp only [RepV] at h ⊢; exact h
  | .str _, _, _, h => by simp only [RepV] at h ⊢; exact h
  | .ty _, _, _, h => by simp only [RepV] at h ⊢; exact h
  | .ref m, _, b, h => by
    simp only [RepV] at h ⊢
    obtain ⟨a, e, q⟩ := h
    refine ⟨a, e, ?_⟩
    have : m < n := by simpa [Va.und] using b
    rw [List.getElem?_take]; simp [this, q]
  | .tup ws, _, b, h => by
    simp only [RepV] at h ⊢
    obtain ⟨a, vs, e, q, r⟩ := h
    exact ⟨a, vs, e, q, RepL.cut ws vs (by simpa [Va.und] using b) r⟩
  | .ktp ws, _, b, h => by
    simp only [RepV] at h ⊢
    obtain ⟨a, vs, e, q, r⟩ := h
    exact ⟨a, vs, e, q, RepL.cut ws vs (by simpa [Va.und] using b) r⟩
theorem RepL.cut {n : Nat} : ∀ (ws : List Va) (vs : List V), Va.undL n ws = true → RepL K ρ H ws vs → RepL K (ρ.take n) H ws vs
  | [], _, _, h => by simp only [RepL] at h ⊢; exact h
  | w :: ws, _, b, h => by
    simp only [RepL] at h ⊢
    obtain ⟨v, r, e, q, z⟩ := h
    have b' : w.und n = true ∧ Va.undL n ws = true := by simpa [Va.undL] using b
    exact ⟨v, r, e, RepV.cut w v b'.1 q, RepL.cut ws r b'.2 z⟩
end
mutual
theorem RepV.has : ∀ (w : Va) (v : V), RepV K ρ H w v → w.und ρ.length = true
  | .non, _, _ => rfl
  | .bl _, _, _ => rfl
  | .int _, _, _ => rfl
  | .str _, _, _ => rfl
  | .ty _, _, _ => rfl
  | .ref m, _, h => by
    simp only [RepV] at h
    obtain ⟨a, e, q⟩ := h
    simp only [Va.und, decide_eq_true_eq]
    exact (List.getElem?_eq_some_iff.mp q).1
  | .tup ws, _, h => by
    simp only [RepV] at h
    obtain ⟨a, vs, e, q, r⟩ := h
    simp only [Va.und]
    exact RepL.has ws vs r
  | .ktp ws, _, h => by
    simp only [RepV] at h
    obtain ⟨a, vs, e, q, r⟩ := h
    simp only [Va.und]
    exact RepL.has ws vs r
theorem RepL.has : ∀ (ws : List Va) (vs : List V), RepL K ρ H ws vs → Va.undL ρ.length ws = true
  | [], _, _ => rfl
  | w :: ws, _, h => by
    simp only [RepL] at h
    obtain ⟨v, r, e, q, z⟩ := h
    simp only [Va.undL, Bool.and_eq_true]
    exact ⟨RepV.has w v q, RepL.has ws r z⟩
end
theorem RepL.length : ∀ {ws : List Va} {vs : List V}, RepL K ρ H ws vs → ws.length = vs.length
  | [], _, h => by simp only [RepL] at h; simp [h]
  | w :: ws, _, h => by
    simp only [RepL] at h
    obtain ⟨v, r, rfl, q, z⟩ := h
    simp [RepL.length z]
theorem RepL.get : ∀ {ws : List Va} {vs : List V} {i : Nat} {w : Va}, RepL K ρ H ws vs → ws[i]? = some w → ∃ v, vs[i]? = some v ∧ RepV K ρ H w v
  | [], _, _, _, h, e => by simp at e
  | w :: ws, _, 0, _, h, e => by
    simp only [RepL] at h
    obtain ⟨v, r, rfl, q, z⟩ := h
    simp at e; subst e
    exact ⟨v, rfl, q⟩
  | w :: ws, _, i + 1, _, h, e => by
    simp only [RepL] at h
    obtain ⟨v, r, rfl, q, z⟩ := h
    obtain ⟨v', e', q'⟩ := RepL.get (i := i) z (by simpa using e)
    exact ⟨v', by simpa using e', q'⟩
theorem RepL.append : ∀ {ws xs : List Va} {vs us : List V}, RepL K ρ H ws vs → RepL K ρ H xs us → RepL K ρ H (ws ++ xs) (vs ++ us)
  | [], _, _, _, h, g => by simp only [RepL] at h; subst h; exact g
  | w :: ws, _, _, _, h, g => by
    simp only [RepL] at h
    obtain ⟨v, r, rfl, q, z⟩ := h
    simp only [List.cons_append, RepL]
    exact ⟨v, _, rfl, q, RepL.append z g⟩
theorem RepL.one {w : Va} {v : V} (h : RepV K ρ H w v) : RepL K ρ H [w] [v] := by
  simp only [RepL]; exact ⟨v, [], rfl, h, rfl⟩
theorem RepL.nil : RepL K ρ H [] [] := by simp only [RepL]
theorem RepL.cons {w : Va} {v : V} {ws : List Va} {vs : List V} (h : RepV K ρ H w v) (t : RepL K ρ H ws vs) : RepL K ρ H (w :: ws) (v :: vs) := by
  simp only [RepL]; exact ⟨v, vs, rfl, h, t⟩
theorem RepL.set : ∀ {ws : List Va} {vs : List V} {i : Nat} {w : Va} {v : V}, RepL K ρ H ws vs → RepV K ρ H w v → RepL K ρ H (ws.set i w) (vs.set i v)
  | [], _, _, _, _, h, _ => by simp only [RepL] at h; subst h; exact RepL.nil
  | w :: ws, _, 0, _, _, h, g => by
    simp only [RepL] at h
    obtain ⟨v, r, rfl, q, z⟩ := h
    exact RepL.cons g z
  | w :: ws, _, i + 1, _, _, h, g => by
    simp only [RepL] at h
    obtain ⟨v, r, rfl, q, z⟩ := h
    exact RepL.cons q (RepL.set z g)
theorem RepL.drop : ∀ {ws : List Va} {vs : List V} (n : Nat), RepL K ρ H ws vs → RepL K ρ H (ws.drop n) (vs.drop n)
  | _, _, 0, h => h
  | [], _, n + 1, h => by simp only [RepL] at h; subst h; exact RepL.nil
  | w :: ws, _, n + 1, h => by
    simp only [RepL] at h
    obtain ⟨v, r, rfl, q, z⟩ := h
    exact RepL.drop n z
theorem RepL.take : ∀ {ws : List Va} {vs : List V} (n : Nat), RepL K ρ H ws vs → RepL K ρ H (ws.take n) (vs.take n)
  | _, _, 0, h => by simp only [List.take_zero]; exact RepL.nil
  | [], _, n + 1, h => by simp only [RepL] at h; subst h; exact RepL.nil
  | w :: ws, _, n + 1, h => by
    simp only [RepL] at h
    obtain ⟨v, r, rfl, q, z⟩ := h
    exact RepL.cons q (RepL.take n z)
theorem RepL.reverse : ∀ {ws : List Va} {vs : List V}, RepL K ρ H ws vs → RepL K ρ H ws.reverse vs.reverse
  | [], _, h => by simp only [RepL] at h; subst h; exact RepL.nil
  | w :: ws, _, h => by
    simp only [RepL] at h
    obtain ⟨v, r, rfl, q, z⟩ := h
    rw [List.reverse_cons, List.reverse_cons]
    exact RepL.append (RepL.reverse z) (RepL.one q)
theorem RepL.dropLast {ws : List Va} {vs : List V} (h : RepL K ρ H ws vs) : RepL K ρ H ws.dropLast vs.dropLast := by
  rw [List.dropLast_eq_take, List.dropLast_eq_take, h.length]; exact h.take _
theorem RepL.ints : ∀ {ns : List Int} {vs : List V}, RepL K ρ H (ns.map Va.int) vs → vs = ns.map V.int
  | [], _, h => by simp only [List.map_nil, RepL] at h; simp [h]
  | n :: ns, _, h => by
    simp only [List.map_cons, RepL, RepV] at h
    obtain ⟨v, r, rfl, rfl, z⟩ := h
    rw [RepL.ints z]; rfl
theorem RepL.of_ints : ∀ (ns : List Int), RepL K ρ H (ns.map Va.int) (ns.map V.int)
  | [] => RepL.nil
  | n :: ns => RepL.cons (by simp only [RepV]) (RepL.of_ints ns)
end

/-- the store is held -/
structure SRel (K : PySem.W.Frag) (ρ : List Addr) (st : Sto) (H : Hp) : Prop where
  rl : ρ.length = st.length
  sto : ∀ (i : Nat) o, st[i]? = some o → ∃ a, ρ[i]? = some a ∧ RepO K ρ H a o
  inj : ∀ (i j : Nat) (a : Addr) o o', ρ[i]? = some a → ρ[j]? = some a → st[i]? = some o → st[j]? = some o' → o.mut = true → o'.mut = true → i = j
def ERel (K : PySem.W.Frag) (ρ : List Addr) (fm : Fm) (σ : L2.St) (H : Hp) : Prop :=
  fm.length = σ.length ∧ ∀ (i : Nat) w, fm[i]? = some (some w) → ∃ v, σ[i]? = some (some v) ∧ RepV K ρ H w v
structure Rel (K : PySem.W.Frag) (ρ : List Addr) (fm : Fm) (st : Sto) (σ : L2.St) (H : Hp) : Prop where
  s : SRel K ρ st H
  e : ERel K ρ fm σ H
section
variable {K : PySem.W.Frag} {ρ ρ' : List Addr} {H H' : Hp} {st : Sto} {fm : Fm} {σ : L2.St}
theorem ERel.mono (h : ERel K ρ fm σ H) (hp : ρ <+: ρ') (hk : Kp K H H') : ERel K ρ' fm σ H' :=
  ⟨h.1, fun i w e => let ⟨v, a, b⟩ := h.2 i w e; ⟨v, a, RepV.mono hp hk w v b⟩⟩
theorem ERel.set (h : ERel K ρ fm σ H) {i : Nat} {w : Va} {v : V} (r : RepV K ρ H w v) : ERel K ρ (fm.set i (some w)) (σ.set i (some v)) H := by
  refine ⟨by rw [List.length_set, List.length_set]; exact h.1, fun j x e => ?_⟩
  by_cases hj : i = j
  · subst hj
    by_cases hl : i < fm.length
    · rw [List.getElem?_set_self hl] at e
      cases e
      exact ⟨v, List.getElem?_set_self (by rw [← h.1]; exact hl), r⟩
    · rw [List.getElem?_eq_none_iff.mpr (by rw [List.length_set]; omega)] at e; cases e
  · rw [List.getElem?_set_ne hj] at e ⊢
    exact h.2 j x e
theorem Ro.keep {a : Addr} {vs : List V} (h : Ro K H a vs) (hs : ∀ o, H a = some (.frz o (.lst vs)) → H' a = some (.frz o (.lst vs))) : Ro K H' a vs := by
  rcases h with ⟨o, h⟩ | h
  · exact .inl ⟨o, hs o h⟩
  · exact .inr h
theorem RepO.mono {a : Addr} {o : Ob} (h : RepO K ρ H a o) (hp : ρ <+: ρ') (hk : Kp K H H') (hs : ∀ u, H a = some u → H' a = some u) : RepO K ρ' H' a o := by
  cases o with
  | lst ws => obtain ⟨vs, e, r⟩ := h; exact ⟨vs, hs _ e, RepL.mono hp hk _ _ r⟩
  | rol ws => obtain ⟨vs, e, r⟩ := h; exact ⟨vs, e.keep fun o q => hs _ q, RepL.mono hp hk _ _ r⟩
  | dic kvs => obtain ⟨ks, e, m, r⟩ := h; exact ⟨ks, hs _ e, m, RepL.mono hp hk _ _ r⟩
  | dit kvs => obtain ⟨ks, e, m, r⟩ := h; exact ⟨ks, hs _ e, m, RepL.mono hp hk _ _ r⟩
theorem RepO.mutH {a : Addr} {o : Ob} (h : RepO K ρ H a o) (m : o.mut = true) : ∃ u, H a = some u ∧ Mut (some u) := by
  cases o with
  | lst ws => obtain ⟨vs, e, r⟩ := h; exact ⟨_, e, trivial⟩
  | rol ws => cases m
  | dic kvs => obtain ⟨ks, e, _, r⟩ := h; exact ⟨_, e, trivial⟩
  | dit kvs => obtain ⟨ks, e, _, r⟩ := h; exact ⟨_, e, trivial⟩
theorem SRel.same (h : SRel K ρ st H) (hs : Same H H') (hk : Kp K H H') : SRel K ρ st H' :=
  ⟨h.rl, fun i o e => let ⟨a, b, c⟩ := h.sto i o e; ⟨a, b, c.mono (List.prefix_refl _) hk fun u q => hs _ _ q⟩, h.inj⟩
theorem same_new {p : Addr} {o : HO} (h : H p = none) : Same H (upd H p o) := fun b x e => by
  rw [upd_ne (ne_of_none e h)]; exact e
/-- a new thing -/
theorem SRel.push (h : SRel K ρ st H) {p : Addr} {o : Ob} {ho : HO} (hn : H p = none) (ho' : RepO K (ρ ++ [p]) (upd H p ho) p o) (hx : upd H p ho p = some ho := upd_same) : SRel K (ρ ++ [p]) (st ++ [o]) (upd H p ho) := by
  have hk : Kp K H (upd H p ho) := Kp.new hn
  have hs := same_new (o := ho) hn
  have old : ∀ (i : Nat) o1, st[i]? = some o1 → ∃ a, ρ[i]? = some a ∧ RepO K ρ H a o1 := h.sto
  refine ⟨by simp [h.rl], fun i o1 e => ?_, fun i j a o1 o2 e1 e2 e3 e4 m1 m2 => ?_⟩
  · by_cases hi : i < st.length
    · rw [List.getElem?_append_left hi] at e
      obtain ⟨a, b, c⟩ := old i o1 e
      exact ⟨a, pre_get (List.prefix_append _ _) b, c.mono (List.prefix_append _ _) hk fun u q => hs _ _ q⟩
    · have hl : i < (st ++ [o]).length := (List.getElem?_eq_some_iff.mp e).1
      have : i = st.length := by simp at hl; omega
      subst this
      rw [List.getElem?_append_right (Nat.le_refl _)] at e
      simp at e; subst e
      exact ⟨p, by rw [← h.rl, List.getElem?_append_right (Nat.le_refl _)]; simp, ho'⟩
  · have key : ∀ (i : Nat) o1, (st ++ [o])[i]? = some o1 → (ρ ++ [p])[i]? = some a → o1.mut = true → (i < st.length ∧ st[i]? = some o1 ∧ ρ[i]? = some a ∧ a ≠ p) ∨ (i = st.length ∧ a = p) := by
      intro i o1 e e' m
      by_cases hi : i < st.length
      · rw [List.getElem?_append_left hi] at e
        rw [List.getElem?_append_left (by rw [h.rl]; exact hi)] at e'
        refine .inl ⟨hi, e, e', ?_⟩
        obtain ⟨b, eb, r⟩ := old i o1 e
        rw [e'] at eb; cases eb
        obtain ⟨u, hu, _⟩ := r.mutH m
        exact ne_of_none hu hn
      · have hl : i < (st ++ [o]).length := (List.getElem?_eq_some_iff.mp e).1
        have : i = st.length := by simp at hl; omega
        subst this
        rw [← h.rl, List.getElem?_append_right (Nat.le_refl _)] at e'
        simp at e'
        exact .inr ⟨rfl, e'.symm⟩
    rcases key i o1 e3 e1 m1 with ⟨a1, a2, a3, a4⟩ | ⟨a1, a2⟩ <;> rcases key j o2 e4 e2 m2 with ⟨b1, b2, b3, b4⟩ | ⟨b1, b2⟩
    · exact h.inj i j a o1 o2 a3 b3 a2 b2 m1 m2
    · exact absurd b2 a4
    · exact absurd a2 b4
    · omega
/-- a thing is changed -/
theorem SRel.write (h : SRel K ρ st H) {i : Nat} {o o' : Ob} {a : Addr} {ho : HO} (hi : st[i]? = some o) (ha : ρ[i]? = some a) (m : o.mut = true) (m' : o'.mut = true) (ho' : RepO K ρ (upd H a ho) a o') :
    SRel K ρ (st.set i o') (upd H a ho) ∧ Kp K H (upd H a ho) := by
  have old := h.sto
  obtain ⟨b, eb, r0⟩ := old i o hi
  rw [ha] at eb; cases eb
  obtain ⟨u0, hu0, hm0⟩ := r0.mutH m
  have hk : Kp K H (upd H a ho) := by
    refine Kp.upd (fun xs q => ?_)
    rw [q] at hu0; cases hu0; exact hm0
  have hl : i < st.length := (List.getElem?_eq_some_iff.mp hi).1
  refine ⟨⟨by rw [List.length_set]; exact h.rl, fun j o1 e => ?_, fun j k b o1 o2 e1 e2 e3 e4 m1 m2 => ?_⟩, hk⟩
  · by_cases hj : i = j
    · subst hj
      rw [List.getElem?_set_self hl] at e
      cases e
      exact ⟨a, ha, ho'⟩
    · rw [List.getElem?_set_ne hj] at e
      obtain ⟨b, eb, r⟩ := old j o1 e
      refine ⟨b, eb, ?_⟩
      by_cases mb : o1.mut = true
      · have hne : b ≠ a := fun z => hj (h.inj i j a o o1 ha (by rw [← z]; exact eb) hi e m mb)
        exact r.mono (List.prefix_refl _) hk fun u q => by rw [upd_ne hne]; exact q
      · cases o1 with
        | rol ws =>
          obtain ⟨vs, e, r⟩ := r
          refine ⟨vs, e.keep fun o q => ?_, RepL.mono (List.prefix_refl _) hk _ _ r⟩
          rw [upd_ne (fun z => ?_)]
          · exact q
          · subst z; rw [q] at hu0; cases hu0; exact hm0
        | lst _ => exact absurd rfl mb
        | dic _ => exact absurd rfl mb
        | dit _ => exact absurd rfl mb
  · have back : ∀ (j : Nat) o1, (st.set i o')[j]? = some o1 → o1.mut = true → ∃ o2, st[j]? = some o2 ∧ o2.mut = true := by
      intro j o1 e m
      by_cases hj : i = j
      · subst hj; exact ⟨o, hi, by assumption⟩
      · rw [List.getElem?_set_ne hj] at e; exact ⟨o1, e, m⟩
    obtain ⟨p1, p2, p3⟩ := back j o1 e3 m1
    obtain ⟨q1, q2, q3⟩ := back k o2 e4 m2
    exact h.inj j k b p1 q1 e1 e2 p2 q2 p3 q3
end

/-! ### what code computes -/
abbrev Ev := Fm → Sto → Option (Va × Sto)
abbrev Evs := Fm → Sto → Option (List Va × Sto)
abbrev Et := Fm → Sto → Option (Bool × Sto)
abbrev Fn := List Va → Sto → Option (Va × Sto)
inductive Fl where
  | nx | rt (w : Va) | bk | ct
abbrev Sm := Fm → Sto → Option (Fl × Fm × Sto)
/-- behind it: the state, a value -/
def Th (K : PySem.W.Frag) (ρ : List Addr) (fm : Fm) (σ : L2.St) (H : Hp) (st' : Sto) (Q : List Addr → Hp → Prop) : Prop :=
  ∀ ρ' H', ρ <+: ρ' → Kp K H H' → Rel K ρ' fm st' σ H' → Q ρ' H'
def tD (K : PySem.W.Frag) (f : Ev) : TE := fun σ H Q => ∃ ρ fm st w st', Rel K ρ fm st σ H ∧ f fm st = some (w, st') ∧ Th K ρ fm σ H st' fun ρ' H' => ∀ v, RepV K ρ' H' w v → Q v H'
def tDs (K : PySem.W.Frag) (f : Evs) : TA := fun σ H Q => ∃ ρ fm st ws st', Rel K ρ fm st σ H ∧ f fm st = some (ws, st') ∧ Th K ρ fm σ H st' fun ρ' H' => ∀ vs, RepL K ρ' H' ws vs → Q vs H'
def tDt (K : PySem.W.Frag) (f : Et) : TT := fun σ H Q => ∃ ρ fm st b st', Rel K ρ fm st σ H ∧ f fm st = some (b, st') ∧ Th K ρ fm σ H st' fun _ H' => Q b H'
/-- what is wanted behind a statement, by the way it ends -/
def Fin (K : PySem.W.Frag) (D : Ends) (ρ : List Addr) (σ : L2.St) (H : Hp) : Fl → Prop
  | .nx => D.nx σ H
  | .rt w => ∀ v, RepV K ρ H w v → D.rt v H
  | .bk => D.bk σ H
  | .ct => D.ct σ H
def tS (K : PySem.W.Frag) (f : Sm) : TS := fun D σ H => ∃ ρ fm st fl fm' st', Rel K ρ fm st σ H ∧ f fm st = some (fl, fm', st') ∧
  ∀ ρ' H' σ', ρ <+: ρ' → Kp K H H' → Rel K ρ' fm' st' σ' H' → Fin K D ρ' σ' H' fl
abbrev DE (X : Cx) (e : Expr) (f : Ev) : Prop := PE X e (tD X.K f)
abbrev DA (X : Cx) (es : List Expr) (f : Evs) : Prop := PA X es (tDs X.K f)
abbrev DT (X : Cx) (e : Expr) (f : Et) : Prop := PT X e (tDt X.K f)
abbrev DW (X : Cx) (e : Expr) (f : Et) : Prop := PW X e (tDt X.K f)
abbrev DS (X : Cx) (s : Stmt) (f : Sm) : Prop := PS X s (tS X.K f)
abbrev DSs (X : Cx) (s : List Stmt) (f : Sm) : Prop := PSs X s (tS X.K f)
theorem PEi {X : Cx} {e : Expr} {t t' : TE} (h : PE X e t) (i : ∀ σ H Q, t' σ H Q → t σ H Q) : PE X e t' := ⟨fun pins s σ H Q I hw => h.run pins s σ H Q I (i _ _ _ hw)⟩
theorem PTi {X : Cx} {e : Expr} {t t' : TT} (h : PT X e t) (i : ∀ σ H Q, t' σ H Q → t σ H Q) : PT X e t' := ⟨fun pins s σ H Q I hw => h.run pins s σ H Q I (i _ _ _ hw)⟩
theorem PWi {X : Cx} {e : Expr} {t t' : TT} (h : PW X e t) (i : ∀ σ H Q, t' σ H Q → t σ H Q) : PW X e t' := ⟨fun wh pins s σ H Q I hw => h.run wh pins s σ H Q I (i _ _ _ hw)⟩
theorem PAi {X : Cx} {es : List Expr} {t t' : TA} (h : PA X es t) (i : ∀ σ H Q, t' σ H Q → t σ H Q) : PA X es t' := ⟨fun pos pins s σ H Q I hw => h.run pos pins s σ H Q I (i _ _ _ hw)⟩
theorem PSi {X : Cx} {e : Stmt} {t t' : TS} (h : PS X e t) (i : ∀ D σ H, t' D σ H → t D σ H) : PS X e t' := ⟨fun pins s σ H D I hw => h.run pins s σ H D I (i _ _ _ hw)⟩
theorem PSsi {X : Cx} {e : List Stmt} {t t' : TS} (h : PSs X e t) (i : ∀ D σ H, t' D σ H → t D σ H) : PSs X e t' := ⟨fun pins s σ H D I hw => h.run pins s σ H D I (i _ _ _ hw)⟩
section
variable {K : PySem.W.Frag} {ρ : List Addr} {fm : Fm} {st st' : Sto} {σ : L2.St} {H : Hp}
theorem Rel.mono {ρ' : List Addr} {H' : Hp} (R : Rel K ρ fm st σ H) (hp : ρ <+: ρ') (hk : Kp K H H') (s : SRel K ρ' st' H') : Rel K ρ' fm st' σ H' := ⟨s, R.e.mono hp hk⟩
/-- nothing changes -/
theorem Th.same {Q : List Addr → Hp → Prop} (T : Th K ρ fm σ H st Q) (R : Rel K ρ fm st σ H) : Q ρ H := T ρ H (List.prefix_refl _) Kp.refl R
/-- a new tuple -/
theorem Th.tup {Q : List Addr → Hp → Prop} {p : Addr} {o : HO} (T : Th K ρ fm σ H st Q) (R : Rel K ρ fm st σ H) (hn : H p = none) : Q ρ (upd H p o) :=
  T ρ _ (List.prefix_refl _) (Kp.new hn) (R.mono (List.prefix_refl _) (Kp.new hn) (R.s.same (same_new hn) (Kp.new hn)))
theorem Th.push {Q : List Addr → Hp → Prop} {p : Addr} {o : Ob} {ho : HO} (T : Th K ρ fm σ H (st ++ [o]) Q) (R : Rel K ρ fm st σ H) (hn : H p = none) (ho' : RepO K (ρ ++ [p]) (upd H p ho) p o) : Q (ρ ++ [p]) (upd H p ho) :=
  T _ _ (List.prefix_append _ _) (Kp.new hn) (R.mono (List.prefix_append _ _) (Kp.new hn) (R.s.push hn ho'))
theorem Th.write {Q : List Addr → Hp → Prop} {i : Nat} {o o' : Ob} {a : Addr} {ho : HO} (T : Th K ρ fm σ H (st.set i o') Q) (R : Rel K ρ fm st σ H) (hi : st[i]? = some o) (ha : ρ[i]? = some a) (m : o.mut = true) (m' : o'.mut = true) (ho' : RepO K ρ (upd H a ho) a o') : Q ρ (upd H a ho) :=
  let ⟨s, hk⟩ := R.s.write hi ha m m' ho'
  T _ _ (List.prefix_refl _) hk (R.mono (List.prefix_refl _) hk s)
theorem Th.then {Q : List Addr → Hp → Prop} {ρ1 : List Addr} {H1 : Hp} (T : Th K ρ fm σ H st' Q) (hp : ρ <+: ρ1) (hk : Kp K H H1) : Th K ρ1 fm σ H1 st' Q :=
  fun ρ2 H2 hp2 hk2 R2 => T ρ2 H2 (List.IsPrefix.trans hp hp2) (hk.trans hk2) R2
theorem ref_last {a : Addr} (h : ρ.length = st.length) : RepV K (ρ ++ [a]) H (.ref st.length) (.ref a) := by
  simp only [RepV]
  exact ⟨a, rfl, by rw [← h, List.getElem?_append_right (Nat.le_refl _)]; simp⟩
end
end T3
/-! T3, second part: the rules: expressions, statements, loops, comprehensions, defs -/
namespace T3
open PySem PySem.Spec PyProof.Rows L2
noncomputable section

/-! ### combinators -/
def eC (w : Va) : Ev := fun _ st => some (w, st)
def eV (i : Nat) : Ev := fun fm st => match fm[i]? with
  | some (some w) => some (w, st)
  | _ => none
def eB (g : Va → Va → Sto → Option (Va × Sto)) (f1 f2 : Ev) : Ev := fun fm st => (f1 fm st).bind fun p => (f2 fm p.2).bind fun q => g p.1 q.1 q.2
def eU (g : Va → Sto → Option (Va × Sto)) (f : Ev) : Ev := fun fm st => (f fm st).bind fun p => g p.1 p.2
def aN : Evs := fun _ st => some ([], st)
def aC (f : Ev) (g : Evs) : Evs := fun fm st => (f fm st).bind fun p => (g fm p.2).bind fun q => some (p.1 :: q.1, q.2)
def eA (g : List Va → Sto → Option (Va × Sto)) (fa : Evs) : Ev := fun fm st => (fa fm st).bind fun p => g p.1 p.2
def eM (g : Va → List Va → Sto → Option (Va × Sto)) (f : Ev) (fa : Evs) : Ev := fun fm st => (f fm st).bind fun p => (fa fm p.2).bind fun q => g p.1 q.1 q.2
/-- a test -/
def bB (g : Va → Va → Sto → Option (Va × Sto)) (f1 f2 : Ev) : Et := fun fm st => (f1 fm st).bind fun p => (f2 fm p.2).bind fun q => (g p.1 q.1 q.2).bind fun r => match r.1 with
  | .bl b => some (b, r.2)
  | _ => none
def truth (w : Va) (st : Sto) : Option Bool := match w with
  | .non => some false
  | .bl b => some b
  | .int i => some (i != 0)
  | .str s => @ite _ (s.length ≤ 16777216) (Classical.propDecidable _) (some (!s.isEmpty)) none
  | .tup ws => some (!ws.isEmpty)
  | .ktp ws => some (!ws.isEmpty)
  | .ref n => match st[n]? with
    | some (.lst ws) => some (!ws.isEmpty)
    | some (.rol ws) => some (!ws.isEmpty)
    | some (.dic kvs) => some (!kvs.isEmpty)
    | _ => none
  | .ty _ => none
def bV (f : Ev) : Et := fun fm st => (f fm st).bind fun p => (truth p.1 p.2).bind fun b => some (b, p.2)
def bAnd (f g : Et) : Et := fun fm st => (f fm st).bind fun p => if p.1 = true then g fm p.2 else some (false, p.2)
def bOr (f g : Et) : Et := fun fm st => (f fm st).bind fun p => if p.1 = true then some (true, p.2) else g fm p.2
def bNot (f : Et) : Et := fun fm st => (f fm st).bind fun p => some (!p.1, p.2)
def eAnd (f g : Ev) : Ev := fun fm st => (f fm st).bind fun p => match p.1 with
  | .bl true => g fm p.2
  | .bl false => some (.bl false, p.2)
  | _ => none
def eOr (f g : Ev) : Ev := fun fm st => (f fm st).bind fun p => match p.1 with
  | .bl false => g fm p.2
  | .bl true => some (.bl true, p.2)
  | _ => none
def eNot (f : Ev) : Ev := fun fm st => (f fm st).bind fun p => match p.1 with
  | .bl b => some (.bl (!b), p.2)
  | _ => none
def eIf (c : Et) (f g : Ev) : Ev := fun fm st => (c fm st).bind fun p => if p.1 = true then f fm p.2 else g fm p.2
def eTup (fa : Evs) : Ev := fun fm st => (fa fm st).bind fun p => @ite _ (p.1.length ≤ 16777216) (Classical.propDecidable _) (some (.tup p.1, p.2)) none
def eLst (fa : Evs) : Ev := fun fm st => (fa fm st).bind fun p => @ite _ (p.1.length ≤ 16777216) (Classical.propDecidable _) (some (.ref p.2.length, p.2 ++ [.lst p.1])) none

def MB (K : PySem.W.Frag) (g : Va → Va → Sto → Option (Va × Sto)) (r : R2) : Prop := ∀ ρ fm st σ H a b x y w st' Q, Rel K ρ fm st σ H → RepV K ρ H a x → RepV K ρ H b y → g a b st = some (w, st') →
  Th K ρ fm σ H st' (fun ρ' H' => ∀ v, RepV K ρ' H' w v → Q v H') → r x y H Q
def MU (K : PySem.W.Frag) (g : Va → Sto → Option (Va × Sto)) (r : V → Hp → VK → Prop) : Prop := ∀ ρ fm st σ H a x w st' Q, Rel K ρ fm st σ H → RepV K ρ H a x → g a st = some (w, st') →
  Th K ρ fm σ H st' (fun ρ' H' => ∀ v, RepV K ρ' H' w v → Q v H') → r x H Q
def ML (K : PySem.W.Frag) (g : List Va → Sto → Option (Va × Sto)) (r : List V → Hp → VK → Prop) : Prop := ∀ ρ fm st σ H ws vs w st' Q, Rel K ρ fm st σ H → RepL K ρ H ws vs → g ws st = some (w, st') →
  Th K ρ fm σ H st' (fun ρ' H' => ∀ v, RepV K ρ' H' w v → Q v H') → r vs H Q
def MM (K : PySem.W.Frag) (g : Va → List Va → Sto → Option (Va × Sto)) (r : V → List V → Hp → VK → Prop) : Prop := ∀ ρ fm st σ H a ws x vs w st' Q, Rel K ρ fm st σ H → RepV K ρ H a x → RepL K ρ H ws vs → g a ws st = some (w, st') →
  Th K ρ fm σ H st' (fun ρ' H' => ∀ v, RepV K ρ' H' w v → Q v H') → r x vs H Q

section
variable {X : Cx} {a b c e o : Expr} {es rest : List Expr} {pos p apos cpos : Pos} {f f1 f2 fa fb fc fo : Ev} {ft fu : Et} {fs : Evs} {K : PySem.W.Frag} {σ : L2.St} {H : Hp} {Q : VK}

theorem SqT.const {K : PySem.W.Frag} {H : Hp} {a : Addr} {vs : List V} (h : SqT K (fun _ => none) a vs) : SqT K H a vs := by
  rcases h with (h | ⟨o, h⟩) | h
  · cases h
  · cases h
  · exact .inr h
theorem tOp_of {g : Va → Va → Sto → Option (Va × Sto)} {r : R2} (hm : MB K g r) (h : tD K (eB g f1 f2) σ H Q) : tOp r (tD K f1) (tD K f2) σ H Q := by
  obtain ⟨ρ, fm, st, w, st', R, e, T⟩ := h
  simp only [eB, Option.bind_eq_some_iff] at e
  obtain ⟨⟨a, s1⟩, e1, ⟨b, s2⟩, e2, e3⟩ := e
  exact ⟨ρ, fm, st, a, s1, R, e1, fun ρ1 H1 p1 k1 R1 x rx => ⟨ρ1, fm, s1, b, s2, R1, e2, fun ρ2 H2 p2 k2 R2 y ry =>
    hm _ _ _ _ _ _ _ _ _ _ _ _ R2 (RepV.mono p2 k2 _ _ rx) ry e3 (T.then (List.IsPrefix.trans p1 p2) (k1.trans k2))⟩⟩
theorem tCB_of {g : List Va → Sto → Option (Va × Sto)} {r : List V → Hp → VK → Prop} (hm : ML K g r) (h : tD K (eA g fs) σ H Q) : tCB r (tDs K fs) σ H Q := by
  obtain ⟨ρ, fm, st, w, st', R, e, T⟩ := h
  simp only [eA, Option.bind_eq_some_iff] at e
  obtain ⟨⟨ws, s1⟩, e1, e2⟩ := e
  exact ⟨ρ, fm, st, ws, s1, R, e1, fun ρ1 H1 p1 k1 R1 vs rv => hm _ _ _ _ _ _ _ _ _ _ R1 rv e2 (T.then p1 k1)⟩

theorem de_c {w : Va} {v : V} (h : PE X e (tC v)) (r : ∀ ρ H, RepV X.K ρ H w v) : DE X e (eC w) := PEi h fun σ H Q h => by
  obtain ⟨ρ, fm, st, w', st', R, e, T⟩ := h
  cases e
  exact T.same R _ (r _ _)
theorem de_int {i : Int} {k : Nat} : DE X (.Constant (.int i) k pos) (eC (.int i)) := de_c pe_int fun _ _ => by simp only [RepV]
theorem de_bl {i : Bool} {k : Nat} : DE X (.Constant (.bool i) k pos) (eC (.bl i)) := de_c pe_bl fun _ _ => by simp only [RepV]
theorem de_non {k : Nat} : DE X (.Constant .none k pos) (eC .non) := de_c pe_non fun _ _ => by simp only [RepV]
theorem de_str {x : Str} {l : List Nat} {k : Nat} (h : x = ⟨l.toArray⟩) : DE X (.Constant (.str x) k pos) (eC (.str l)) := de_c pe_str fun _ _ => by simp only [RepV]; rw [h]
theorem de_v {i : Nat} (h : PE X e (tVar i)) : DE X e (eV i) := PEi h fun σ H Q h => by
  obtain ⟨ρ, fm, st, w, st', R, e, T⟩ := h
  simp only [eV] at e
  split at e
  · rename_i w' hw
    cases e
    obtain ⟨v, hv, rv⟩ := R.e.2 i _ hw
    exact ⟨v, hv, T.same R v rv⟩
  · cases e
theorem da_nil : DA X [] aN := PAi pa_nil fun σ H Q h => by
  obtain ⟨ρ, fm, st, w, st', R, e, T⟩ := h
  cases e
  exact T.same R [] RepL.nil
theorem da_cons (ha : DE X e f) (hr : DA X es fs) (hs : starEach (e :: es) X.env = (false, eval e X.env) :: starEach es X.env := by rfl) : DA X (e :: es) (aC f fs) := PAi (pa_cons ha hr hs) fun σ H Q h => by
  obtain ⟨ρ, fm, st, w, st', R, e, T⟩ := h
  simp only [aC, Option.bind_eq_some_iff] at e
  obtain ⟨⟨w1, s1⟩, e1, ⟨ws, s2⟩, e2, e3⟩ := e
  cases e3
  exact ⟨ρ, fm, st, w1, s1, R, e1, fun ρ1 H1 p1 k1 R1 x rx => ⟨ρ1, fm, s1, ws, _, R1, e2, fun ρ2 H2 p2 k2 R2 xs rxs =>
    T ρ2 H2 (List.IsPrefix.trans p1 p2) (k1.trans k2) R2 (x :: xs) (RepL.cons (RepV.mono p2 k2 _ _ rx) rxs)⟩⟩
theorem de_op {op : Operator} {r : R2} {g : Va → Va → Sto → Option (Va × Sto)} (ho : OpR X (binaryOp op) r) (hm : MB X.K g r) (ha : DE X a f1) (hb : DE X b f2) : DE X (.BinOp a op b pos) (eB g f1 f2) := PEi (pe_op ho ha hb) fun _ _ _ h => tOp_of hm h
theorem de_cmp {op : CmpOp} {r : R2} {g : Va → Va → Sto → Option (Va × Sto)} (ho : OpR X (compareOp op) r) (hm : MB X.K g r) (ha : DE X a f1) (hb : DE X b f2) (hk : behindInMarks op b = false) : DE X (.Compare a [op] [b] pos) (eB g f1 f2) := PEi (pe_cmpR ho ha hb hk) fun _ _ _ h => tOp_of hm h
theorem dt_cmp {op : CmpOp} {r : R2} {g : Va → Va → Sto → Option (Va × Sto)} (ho : OpR X (compareOp op) r) (hm : MB X.K g r) (ha : DE X a f1) (hb : DE X b f2) (hk : behindInMarks op b = false) : DT X (.Compare a [op] [b] pos) (bB g f1 f2) := PTi (pt_cmpR ho ha hb hk) fun σ H Q h => by
  obtain ⟨ρ, fm, st, w, st', R, e, T⟩ := h
  simp only [bB, Option.bind_eq_some_iff] at e
  obtain ⟨⟨a, s1⟩, e1, ⟨b, s2⟩, e2, ⟨r, s3⟩, e3, e4⟩ := e
  dsimp only at e4
  split at e4
  · rename_i b
    cases e4
    refine tOp_of hm ⟨ρ, fm, st, .bl w, st', R, ?_, fun ρ1 H1 p1 k1 R1 v rv => ?_⟩
    · simp only [eB, Option.bind_eq_some_iff]
      exact ⟨_, e1, _, e2, e3⟩
    · simp only [RepV] at rv
      exact ⟨w, rv, T ρ1 H1 p1 k1 R1⟩
  · cases e4
theorem de_un {op : UnaryOp} {r : V → Hp → VK → Prop} {g : Va → Sto → Option (Va × Sto)} (ho : UnR X (unaryOp op) r) (hm : MU X.K g r) (ha : DE X a f) : DE X (.UnaryOp op a pos) (eU g f) := PEi (pe_un ho ha) fun σ H Q h => by
  obtain ⟨ρ, fm, st, w, st', R, e, T⟩ := h
  simp only [eU, Option.bind_eq_some_iff] at e
  obtain ⟨⟨a, s1⟩, e1, e2⟩ := e
  exact ⟨ρ, fm, st, a, s1, R, e1, fun ρ1 H1 p1 k1 R1 x rx => hm _ _ _ _ _ _ _ _ _ _ R1 rx e2 (T.then p1 k1)⟩
theorem de_ix {r : R2} {g : Va → Va → Sto → Option (Va × Sto)} (ho : IxR X r) (hm : MB X.K g r) (ha : DE X a f1) (hb : DE X b f2) (hs : PlainIx b) : DE X (.Subscript a b pos) (eB g f1 f2) := PEi (pe_ix ho ha hb hs) fun _ _ _ h => tOp_of hm h
theorem de_callB {x : Str} {id : String} {r : List V → Hp → VK → Prop} {g : List Va → Sto → Option (Va × Sto)} (hc : CallR X (.builtin id) r) (hm : ML X.K g r) (hg : Gl X x) (hx : X.mg x = none) (hv : bootBuiltins x = some (.builtin id)) (ha : DA X (e :: es) fs) (hn : x ≠ "__name__" := by decide) (hdb : (x == ("__debug__" : Str)) = false := by decide)
    (he : starEach (e :: es) X.env = (false, eval e X.env) :: starEach es X.env := by rfl) (hpl : (backTo pos (starEach es X.env)).any (·.1) = false := by rfl) : DE X (.Call (.Name x p) (e :: es) [] pos) (eA g fs) :=
  PEi (pe_callB hc hg hx hv ha hn hdb he hpl) fun _ _ _ h => tCB_of hm h
theorem de_callT {x : Str} {T : String} {r : List V → Hp → VK → Prop} {g : List Va → Sto → Option (Va × Sto)} (hc : CallR X (.type T) r) (hm : ML X.K g r) (hg : Gl X x) (hx : X.mg x = none) (hv : bootBuiltins x = some (.type T)) (ha : DA X (e :: es) fs) (hn : x ≠ "__name__" := by decide) (hdb : (x == ("__debug__" : Str)) = false := by decide)
    (he : starEach (e :: es) X.env = (false, eval e X.env) :: starEach es X.env := by rfl) (hpl : (backTo pos (starEach es X.env)).any (·.1) = false := by rfl) : DE X (.Call (.Name x p) (e :: es) [] pos) (eA g fs) :=
  PEi (pe_callTy hc hg hx hv ha hn hdb he hpl) fun _ _ _ h => tCB_of hm h

/-! ### tests -/
theorem dt_v (ha : DE X a f) (he : ∀ whole, isTrue a X.env whole = (do let v ← whole; standAt a.pos; holding [v] (truthy v))) : DT X a (bV f) := PTi (pt_truth ha he) fun σ H Q h => by
  obtain ⟨ρ, fm, st, b, st', R, e, T⟩ := h
  simp only [bV, Option.bind_eq_some_iff] at e
  obtain ⟨⟨w, s1⟩, e1, b', e2, e3⟩ := e
  cases e3
  refine ⟨ρ, fm, st, w, _, R, e1, fun ρ1 H1 p1 k1 R1 x rx => ⟨b, ?_, T ρ1 H1 p1 k1 R1⟩⟩
  dsimp only [truth] at e2
  cases w with
  | non => simp only [RepV] at rx; subst rx; simpa [TruV] using e2.symm
  | bl c => simp only [RepV] at rx; subst rx; simpa [TruV] using e2.symm
  | int i => simp only [RepV] at rx; subst rx; simpa [TruV] using e2.symm
  | str s =>
    simp only [RepV] at rx; subst rx
    dsimp only at e2
    split at e2
    · rename_i hz
      refine ⟨by show s.toArray.size ≤ sizeLine; rw [sizeLine_eq]; simpa using hz, ?_⟩
      cases e2
      show _ = (((s.toArray.size : Nat) : Int) != 0)
      cases s with
      | nil => rfl
      | cons c r => simp [bne]; omega
    · cases e2
  | tup ws =>
    simp only [RepV] at rx
    obtain ⟨a, vs, rfl, hq, rl⟩ := rx
    refine .inr (.inl ⟨vs, SqT.of hq, ?_⟩)
    cases e2
    have := rl.length
    cases ws <;> cases vs <;> simp_all
  | ktp ws =>
    simp only [RepV] at rx
    obtain ⟨a, vs, rfl, hq, rl⟩ := rx
    refine .inr (.inl ⟨vs, SqT.const hq, ?_⟩)
    cases e2
    have := rl.length
    cases ws <;> cases vs <;> simp_all
  | ref n =>
    simp only [RepV] at rx
    obtain ⟨a, rfl, hq⟩ := rx
    dsimp only at e2
    split at e2
    · rename_i ws hw
      obtain ⟨a', ea, ro⟩ := R1.s.sto n _ hw
      rw [hq] at ea; cases ea
      obtain ⟨vs, hv, rl⟩ := ro
      refine .inl ⟨vs, SqL.of hv, ?_⟩
      cases e2
      have := rl.length
      cases ws <;> cases vs <;> simp_all
    · rename_i ws hw
      obtain ⟨a', ea, ro⟩ := R1.s.sto n _ hw
      rw [hq] at ea; cases ea
      obtain ⟨vs, hv, rl⟩ := ro
      refine .inl ⟨vs, ?_, ?_⟩
      · rcases hv with ⟨o, hv⟩ | (hv | ⟨o, hv⟩) | hv
        · exact .inl (.inr ⟨o, hv⟩)
        · cases hv
        · cases hv
        · exact .inr hv
      · cases e2
        have := rl.length
        cases ws <;> cases vs <;> simp_all
    · rename_i kvs hw
      obtain ⟨a', ea, ro⟩ := R1.s.sto n _ hw
      rw [hq] at ea; cases ea
      obtain ⟨ks, hv, m, rl⟩ := ro
      refine .inr (.inr ⟨ks, hv, ?_⟩)
      cases e2
      have := congrArg List.length m
      cases kvs <;> cases ks <;> simp_all
    · cases e2
  | ty n => cases e2
theorem dt_not (ha : DT X a ft) : DT X (.UnaryOp .Not a pos) (bNot ft) := PTi (pt_not ha) fun σ H Q h => by
  obtain ⟨ρ, fm, st, b, st', R, e, T⟩ := h
  simp only [bNot, Option.bind_eq_some_iff] at e
  obtain ⟨⟨w, s1⟩, e1, e3⟩ := e
  cases e3
  exact ⟨ρ, fm, st, w, _, R, e1, T⟩
theorem dw_and1 (ha : DT X a ft) : DW X (.BoolOp .And [a] pos) ft := pw_and1 ha
theorem dw_or1 (ha : DT X a ft) : DW X (.BoolOp .Or [a] pos) ft := pw_or1 ha
theorem dw_and (ha : DT X a ft) (hb : DW X (.BoolOp .And (b :: rest) pos) fu) : DW X (.BoolOp .And (a :: b :: rest) pos) (bAnd ft fu) := PWi (pw_and ha hb) fun σ H Q h => by
  obtain ⟨ρ, fm, st, b, st', R, e, T⟩ := h
  simp only [bAnd, Option.bind_eq_some_iff] at e
  obtain ⟨⟨w, s1⟩, e1, e3⟩ := e
  refine ⟨ρ, fm, st, w, s1, R, e1, fun ρ1 H1 p1 k1 R1 => ?_⟩
  cases w with
  | true => rw [if_pos rfl] at e3 ⊢; exact ⟨ρ1, fm, s1, b, st', R1, e3, T.then p1 k1⟩
  | false => rw [if_neg Bool.false_ne_true] at e3 ⊢; cases e3; exact T ρ1 H1 p1 k1 R1
theorem dw_or (ha : DT X a ft) (hb : DW X (.BoolOp .Or (b :: rest) pos) fu) : DW X (.BoolOp .Or (a :: b :: rest) pos) (bOr ft fu) := PWi (pw_or ha hb) fun σ H Q h => by
  obtain ⟨ρ, fm, st, b, st', R, e, T⟩ := h
  simp only [bOr, Option.bind_eq_some_iff] at e
  obtain ⟨⟨w, s1⟩, e1, e3⟩ := e
  refine ⟨ρ, fm, st, w, s1, R, e1, fun ρ1 H1 p1 k1 R1 => ?_⟩
  cases w with
  | true => rw [if_pos rfl] at e3 ⊢; cases e3; exact T ρ1 H1 p1 k1 R1
  | false => rw [if_neg Bool.false_ne_true] at e3 ⊢; exact ⟨ρ1, fm, s1, b, st', R1, e3, T.then p1 k1⟩
theorem dt_w (h : DW X a ft) : DT X a ft := PW.pt h
theorem de_one {op} (h : DE X a f) : DE X (.BoolOp op [a] pos) f := pe_one h
theorem de_and (ha : DE X a f1) (hb : DE X (.BoolOp .And (b :: rest) pos) f2) : DE X (.BoolOp .And (a :: b :: rest) pos) (eAnd f1 f2) := PEi (pe_and ha hb) fun σ H Q h => by
  obtain ⟨ρ, fm, st, w, st', R, e, T⟩ := h
  simp only [eAnd, Option.bind_eq_some_iff] at e
  obtain ⟨⟨w1, s1⟩, e1, e3⟩ := e
  refine ⟨ρ, fm, st, w1, s1, R, e1, fun ρ1 H1 p1 k1 R1 x rx => ?_⟩
  dsimp only at e3
  split at e3
  · simp only [RepV] at rx
    exact ⟨true, rx, by rw [if_pos rfl]; exact ⟨ρ1, fm, s1, w, st', R1, e3, T.then p1 k1⟩⟩
  · simp only [RepV] at rx
    cases e3
    exact ⟨false, rx, by rw [if_neg Bool.false_ne_true]; exact T ρ1 H1 p1 k1 R1 _ (by simp only [RepV])⟩
  · cases e3
theorem de_or (ha : DE X a f1) (hb : DE X (.BoolOp .Or (b :: rest) pos) f2) : DE X (.BoolOp .Or (a :: b :: rest) pos) (eOr f1 f2) := PEi (pe_or ha hb) fun σ H Q h => by
  obtain ⟨ρ, fm, st, w, st', R, e, T⟩ := h
  simp only [eOr, Option.bind_eq_some_iff] at e
  obtain ⟨⟨w1, s1⟩, e1, e3⟩ := e
  refine ⟨ρ, fm, st, w1, s1, R, e1, fun ρ1 H1 p1 k1 R1 x rx => ?_⟩
  dsimp only at e3
  split at e3
  · simp only [RepV] at rx
    exact ⟨false, rx, by rw [if_neg Bool.false_ne_true]; exact ⟨ρ1, fm, s1, w, st', R1, e3, T.then p1 k1⟩⟩
  · simp only [RepV] at rx
    cases e3
    exact ⟨true, rx, by rw [if_pos rfl]; exact T ρ1 H1 p1 k1 R1 _ (by simp only [RepV])⟩
  · cases e3
theorem de_not (ha : DE X a f) : DE X (.UnaryOp .Not a pos) (eNot f) := PEi (pe_not ha) fun σ H Q h => by
  obtain ⟨ρ, fm, st, w, st', R, e, T⟩ := h
  simp only [eNot, Option.bind_eq_some_iff] at e
  obtain ⟨⟨w1, s1⟩, e1, e3⟩ := e
  refine ⟨ρ, fm, st, w1, s1, R, e1, fun ρ1 H1 p1 k1 R1 x rx => ?_⟩
  dsimp only at e3
  split at e3
  · simp only [RepV] at rx
    cases e3
    exact ⟨_, rx, T ρ1 H1 p1 k1 R1 _ (by simp only [RepV])⟩
  · cases e3
theorem de_if (hc : DT X c ft) (ha : DE X a f1) (hb : DE X b f2) : DE X (.IfExp c a b pos) (eIf ft f1 f2) := PEi (pe_ifExp hc ha hb) fun σ H Q h => by
  obtain ⟨ρ, fm, st, w, st', R, e, T⟩ := h
  simp only [eIf, Option.bind_eq_some_iff] at e
  obtain ⟨⟨w1, s1⟩, e1, e3⟩ := e
  refine ⟨ρ, fm, st, w1, s1, R, e1, fun ρ1 H1 p1 k1 R1 => ?_⟩
  cases w1 with
  | true => rw [if_pos rfl] at e3 ⊢; exact ⟨ρ1, fm, s1, w, st', R1, e3, T.then p1 k1⟩
  | false => rw [if_neg Bool.false_ne_true] at e3 ⊢; exact ⟨ρ1, fm, s1, w, st', R1, e3, T.then p1 k1⟩

/-! ### displays -/
theorem de_tup {k} (ha : DA X es fs) : DE X (.Tuple es k pos) (eTup fs) := PEi (pe_tup ha) fun σ H Q h => by
  obtain ⟨ρ, fm, st, w, st', R, e, T⟩ := h
  simp only [eTup, Option.bind_eq_some_iff] at e
  obtain ⟨⟨ws, s1⟩, e1, e3⟩ := e
  dsimp only at e3
  split at e3
  · rename_i hz
    cases e3
    refine ⟨ρ, fm, st, ws, _, R, e1, fun ρ1 H1 p1 k1 R1 xs rx => ⟨by rw [← rx.length, sizeLine_eq]; exact hz, fun p hp => ?_⟩⟩
    refine (T.then p1 k1).tup R1 hp (.ref p) ?_
    simp only [RepV]
    exact ⟨p, xs, rfl, upd_same, RepL.mono (List.prefix_refl _) (Kp.new hp) _ _ rx⟩
  · cases e3
theorem de_lst (ha : DA X es fs) : DE X (.List es pos) (eLst fs) := PEi (pe_lst ha) fun σ H Q h => by
  obtain ⟨ρ, fm, st, w, st', R, e, T⟩ := h
  simp only [eLst, Option.bind_eq_some_iff] at e
  obtain ⟨⟨ws, s1⟩, e1, e3⟩ := e
  dsimp only at e3
  split at e3
  · rename_i hz
    cases e3
    refine ⟨ρ, fm, st, ws, _, R, e1, fun ρ1 H1 p1 k1 R1 xs rx => ⟨by rw [← rx.length, sizeLine_eq]; exact hz, fun p hp => ?_⟩⟩
    refine (T.then p1 k1).push R1 hp (o := .lst ws) ⟨xs, upd_same, RepL.mono (List.prefix_append _ _) (Kp.new hp) _ _ rx⟩ (.ref p) ?_
    exact ref_last R1.s.rl
  · cases e3
end

/-! ### statements -/
def sNil : Sm := fun fm st => some (.nx, fm, st)
def sCons (f g : Sm) : Sm := fun fm st => (f fm st).bind fun r => match r.1 with
  | .nx => g r.2.1 r.2.2
  | _ => some r
def sSet (i : Nat) (f : Ev) : Sm := fun fm st => (f fm st).bind fun p => some (.nx, fm.set i (some p.1), p.2)
def sAug (i : Nat) (g : Va → Va → Sto → Option (Va × Sto)) (f : Ev) : Sm := fun fm st => match fm[i]? with
  | some (some x) => (f fm st).bind fun p => (g x p.1 p.2).bind fun q => some (.nx, fm.set i (some q.1), q.2)
  | _ => none
def sEx (f : Ev) : Sm := fun fm st => (f fm st).bind fun p => some (.nx, fm, p.2)
def sRet (f : Ev) : Sm := fun fm st => (f fm st).bind fun p => some (.rt p.1, fm, p.2)
def sRetN : Sm := fun fm st => some (.rt .non, fm, st)
def sBk : Sm := fun fm st => some (.bk, fm, st)
def sCt : Sm := fun fm st => some (.ct, fm, st)
def sIf (c : Et) (f g : Sm) : Sm := fun fm st => (c fm st).bind fun p => if p.1 = true then f fm p.2 else g fm p.2
def sNo : Sm := fun _ _ => none

section
variable {X : Cx} {e c : Expr} {ss : List Stmt} {s : Stmt} {pos p : Pos} {f : Ev} {fs gs : Sm} {ft : Et} {a b : List Stmt}
theorem tSno {K : PySem.W.Frag} {D : Ends} {σ : L2.St} {H : Hp} (h : tS K sNo D σ H) : False := by
  obtain ⟨ρ, fm, st, fl, fm', st', R, e, T⟩ := h
  cases e
theorem dss_no : DSs X ss sNo := PSsi pss_never fun _ _ _ h => tSno h
theorem ds_no : DS X s sNo := PSi ps_never fun _ _ _ h => tSno h
theorem dss_nil : DSs X [] sNil := PSsi pss_nil fun D σ H h => by
  obtain ⟨ρ, fm, st, fl, fm', st', R, e, T⟩ := h
  cases e
  exact T ρ H σ (List.prefix_refl _) Kp.refl R
theorem dss_cons (h1 : DS X s fs) (h2 : DSs X ss gs) : DSs X (s :: ss) (sCons fs gs) := PSsi (pss_cons h1 h2) fun D σ H h => by
  obtain ⟨ρ, fm, st, fl, fm', st', R, e, T⟩ := h
  simp only [sCons, Option.bind_eq_some_iff] at e
  obtain ⟨⟨f1, fm1, s1⟩, e1, e2⟩ := e
  refine ⟨ρ, fm, st, f1, fm1, s1, R, e1, fun ρ1 H1 σ1 p1 k1 R1 => ?_⟩
  cases f1 with
  | nx => exact ⟨ρ1, fm1, s1, fl, fm', st', R1, e2, fun ρ2 H2 σ2 p2 k2 R2 => T ρ2 H2 σ2 (List.IsPrefix.trans p1 p2) (k1.trans k2) R2⟩
  | rt w => cases e2; exact T ρ1 H1 σ1 p1 k1 R1
  | bk => cases e2; exact T ρ1 H1 σ1 p1 k1 R1
  | ct => cases e2; exact T ρ1 H1 σ1 p1 k1 R1
theorem ds_set {i : Nat} {x : Str} {pos' : Pos} (hN : X.N.Nodup) (hi : X.N[i]? = some x) (hx : Loc X.env.scope x) (he : DE X e f) (hs : swapsWith e (some (.Name x pos')) pos.line X.env = pure false := by rfl) (hf : X.fn x = true ∨ X.env.scope.names.lookup x = some .local := by first | exact .inl rfl | exact .inr rfl) :
    DS X (.Assign [.Name x pos'] e pos) (sSet i f) := PSi (ps_set hN hi hx he hs hf) fun D σ H h => by
  obtain ⟨ρ, fm, st, fl, fm', st', R, e, T⟩ := h
  simp only [sSet, Option.bind_eq_some_iff] at e
  obtain ⟨⟨w, s1⟩, e1, e2⟩ := e
  cases e2
  exact ⟨ρ, fm, st, w, _, R, e1, fun ρ1 H1 p1 k1 R1 v rv => T ρ1 H1 _ p1 k1 ⟨R1.s, R1.e.set rv⟩⟩
def MP (K : PySem.W.Frag) (g : Va → Va → Sto → Option (Va × Sto)) (r : TIp) : Prop := MB K g r
theorem ds_aug {i : Nat} {x : Str} {pos' : Pos} {op : Operator} {ti : TIp} {g : Va → Va → Sto → Option (Va × Sto)} (hN : X.N.Nodup) (hi : X.N[i]? = some x) (hx : Loc X.env.scope x) (he : DE X e f) (ho : PIp X op ti) (hm : MB X.K g ti) (hf : X.fn x = true ∨ X.env.scope.names.lookup x = some .local := by first | exact .inl rfl | exact .inr rfl) :
    DS X (.AugAssign (.Name x pos') op e pos) (sAug i g f) := PSi (ps_aug hN hi hx he ho hf) fun D σ H h => by
  obtain ⟨ρ, fm, st, fl, fm', st', R, e, T⟩ := h
  simp only [sAug] at e
  split at e
  · rename_i w0 hw
    simp only [Option.bind_eq_some_iff] at e
    obtain ⟨⟨w, s1⟩, e1, ⟨w2, s2⟩, e2, e3⟩ := e
    cases e3
    obtain ⟨v0, hv0, rv0⟩ := R.e.2 i _ hw
    exact ⟨v0, hv0, ρ, fm, st, w, s1, R, e1, fun ρ1 H1 p1 k1 R1 v rv => hm ρ1 fm s1 σ H1 w0 w v0 v w2 _ _ R1 (RepV.mono p1 k1 _ _ rv0) rv e2
      fun ρ2 H2 p2 k2 R2 z rz => T ρ2 H2 _ (List.IsPrefix.trans p1 p2) (k1.trans k2) ⟨R2.s, R2.e.set rz⟩⟩
  · cases e
theorem ds_ex (he : DE X e f) (hs : swapsWith e none pos.line X.env = pure false := by rfl) : DS X (.Expr e pos) (sEx f) := PSi (ps_expr he hs) fun D σ H h => by
  obtain ⟨ρ, fm, st, fl, fm', st', R, e, T⟩ := h
  simp only [sEx, Option.bind_eq_some_iff] at e
  obtain ⟨⟨w, s1⟩, e1, e2⟩ := e
  cases e2
  exact ⟨ρ, fm, st, w, _, R, e1, fun ρ1 H1 p1 k1 R1 v rv => T ρ1 H1 _ p1 k1 R1⟩
theorem ds_doc {x j pos'} : DS X (.Expr (.Constant (.str x) j pos') pos) sNil := PSi ps_doc fun D σ H h => by
  obtain ⟨ρ, fm, st, fl, fm', st', R, e, T⟩ := h
  cases e
  exact T ρ H σ (List.prefix_refl _) Kp.refl R
theorem ds_ret (he : DE X e f) : DS X (.Return (some e) pos) (sRet f) := PSi (ps_ret he) fun D σ H h => by
  obtain ⟨ρ, fm, st, fl, fm', st', R, e, T⟩ := h
  simp only [sRet, Option.bind_eq_some_iff] at e
  obtain ⟨⟨w, s1⟩, e1, e2⟩ := e
  cases e2
  exact ⟨ρ, fm, st, w, _, R, e1, fun ρ1 H1 p1 k1 R1 v rv => T ρ1 H1 σ p1 k1 R1 v rv⟩
theorem ds_retN : DS X (.Return none pos) sRetN := PSi ps_retN fun D σ H h => by
  obtain ⟨ρ, fm, st, fl, fm', st', R, e, T⟩ := h
  cases e
  exact T ρ H σ (List.prefix_refl _) Kp.refl R .non (by simp only [RepV])
theorem ds_bk : DS X (.Break pos) sBk := PSi ps_break fun D σ H h => by
  obtain ⟨ρ, fm, st, fl, fm', st', R, e, T⟩ := h
  cases e
  exact T ρ H σ (List.prefix_refl _) Kp.refl R
theorem ds_ct : DS X (.Continue pos) sCt := PSi ps_continue fun D σ H h => by
  obtain ⟨ρ, fm, st, fl, fm', st', R, e, T⟩ := h
  cases e
  exact T ρ H σ (List.prefix_refl _) Kp.refl R
theorem ds_pass : DS X (.Pass pos) sNil := PSi ps_pass fun D σ H h => by
  obtain ⟨ρ, fm, st, fl, fm', st', R, e, T⟩ := h
  cases e
  exact T ρ H σ (List.prefix_refl _) Kp.refl R
theorem ds_if (hc : DT X c ft) (ha : DSs X a fs) (hb : DSs X b gs) : DS X (.If c a b pos) (sIf ft fs gs) := PSi (ps_if hc ha hb) fun D σ H h => by
  obtain ⟨ρ, fm, st, fl, fm', st', R, e, T⟩ := h
  simp only [sIf, Option.bind_eq_some_iff] at e
  obtain ⟨⟨w1, s1⟩, e1, e3⟩ := e
  refine ⟨ρ, fm, st, w1, s1, R, e1, fun ρ1 H1 p1 k1 R1 => ?_⟩
  have T' : ∀ ρ2 H2 σ2, ρ1 <+: ρ2 → Kp X.K H1 H2 → Rel X.K ρ2 fm' st' σ2 H2 → Fin X.K D ρ2 σ2 H2 fl := fun ρ2 H2 σ2 p2 k2 R2 => T ρ2 H2 σ2 (List.IsPrefix.trans p1 p2) (k1.trans k2) R2
  cases w1 with
  | true =>
    show (if true = true then _ else _)
    rw [if_pos rfl] at e3 ⊢; exact ⟨ρ1, fm, s1, fl, fm', st', R1, e3, T'⟩
  | false =>
    show (if false = true then _ else _)
    rw [if_neg Bool.false_ne_true] at e3 ⊢; exact ⟨ρ1, fm, s1, fl, fm', st', R1, e3, T'⟩
end

/-! ### targets -/
abbrev Fg := Va → Fm → Option Fm
abbrev Fgs := List Va → Fm → Option Fm
def gN (i : Nat) : Fg := fun w fm => some (fm.set i (some w))
def gsN : Fgs := fun ws fm => match ws with
  | [] => some fm
  | _ => none
def gsC (g : Fg) (h : Fgs) : Fgs := fun ws fm => match ws with
  | w :: r => (g w fm).bind (h r)
  | _ => none
def gT (h : Fgs) : Fg := fun w fm => match w with
  | .tup ws => h ws fm
  | _ => none
def tG (K : PySem.W.Frag) (is : List Nat) (fg : Fg) : TG := fun v σ H Q => ∃ ρ fm st w fm', Rel K ρ fm st σ H ∧ RepV K ρ H w v ∧ fg w fm = some fm' ∧ ∀ σ', Rel K ρ fm' st σ' H → (∀ vs : List Nat, (∀ i ∈ is, i ∈ vs) → wipe σ' vs = wipe σ vs) → Q σ' H
def tGs (K : PySem.W.Frag) (is : List Nat) (fg : Fgs) : TGs := fun v σ H Q => ∃ ρ fm st w fm', Rel K ρ fm st σ H ∧ RepL K ρ H w v ∧ fg w fm = some fm' ∧ ∀ σ', Rel K ρ fm' st σ' H → (∀ vs : List Nat, (∀ i ∈ is, i ∈ vs) → wipe σ' vs = wipe σ vs) → Q σ' H
abbrev DG (X : Cx) (tg : Expr) (is : List Nat) (fg : Fg) : Prop := PG X tg (tG X.K is fg)
abbrev DGs (X : Cx) (tg : List Expr) (is : List Nat) (fg : Fgs) : Prop := PGs X tg (tGs X.K is fg)
theorem wipe_set {σ : L2.St} {i : Nat} {x : Option V} : ∀ {vs : List Nat}, i ∈ vs → wipe (σ.set i x) vs = wipe σ vs
  | [], h => by cases h
  | v :: vs, h => by
    unfold wipe
    by_cases hv : i ∈ vs
    · rw [wipe_set hv]
    · have e : i = v := by rcases List.mem_cons.mp h with h | h; exact h; exact absurd h hv
      subst e
      have key : ∀ (vs : List Nat), i ∉ vs → wipe (σ.set i x) vs = (wipe σ vs).set i x := by
        intro vs
        induction vs with
        | nil => intro _; rfl
        | cons u us ih =>
          intro hn
          have hne : i ≠ u := fun z => hn (by simp [z])
          unfold wipe
          rw [ih (fun z => hn (List.mem_cons_of_mem _ z)), List.set_comm _ _ hne]
      rw [key vs hv, List.set_set]
theorem PGi {X : Cx} {e : Expr} {t t' : TG} (h : PG X e t) (i : ∀ v σ H Q, t' v σ H Q → t v σ H Q) : PG X e t' := ⟨fun pins s σ H v u Q I r hw => h.run pins s σ H v u Q I r (i _ _ _ _ hw)⟩
theorem PGsi {X : Cx} {e : List Expr} {t t' : TGs} (h : PGs X e t) (i : ∀ v σ H Q, t' v σ H Q → t v σ H Q) : PGs X e t' := ⟨fun pins s σ H v u Q I r hw => h.run pins s σ H v u Q I r (i _ _ _ _ hw)⟩
section
variable {X : Cx} {e : Expr} {es : List Expr} {pos : Pos} {is js : List Nat} {fg : Fg} {fgs : Fgs}
theorem dg_n {i : Nat} {x : Str} (hN : X.N.Nodup) (hi : X.N[i]? = some x) (hx : Loc X.env.scope x) (hf : X.fn x = true ∨ X.env.scope.names.lookup x = some .local := by first | exact .inl rfl | exact .inr rfl) : DG X (.Name x pos) [i] (gN i) := PGi (pg_name hN hi hx hf) fun v σ H Q h => by
  obtain ⟨ρ, fm, st, w, fm', R, rv, e, T⟩ := h
  cases e
  exact T _ ⟨R.s, R.e.set rv⟩ fun vs hv => wipe_set (hv i (by simp))
theorem dgs_nil : DGs X [] [] gsN := PGsi pgs_nil fun v σ H Q h => by
  obtain ⟨ρ, fm, st, w, fm', R, rv, e, T⟩ := h
  cases w with
  | nil => cases e; simp only [RepL] at rv; exact ⟨rv, T σ R fun _ _ => rfl⟩
  | cons _ _ => cases e
theorem dgs_cons (h1 : DG X e is fg) (h2 : DGs X es js fgs) (hs : (assignEach (e :: es) X.env).map (·.2) = assign e X.env :: (assignEach es X.env).map (·.2) := by rfl) : DGs X (e :: es) (is ++ js) (gsC fg fgs) := PGsi (pgs_cons h1 h2 hs) fun v σ H Q h => by
  obtain ⟨ρ, fm, st, w, fm', R, rv, e, T⟩ := h
  cases w with
  | nil => cases e
  | cons w r =>
    simp only [gsC, Option.bind_eq_some_iff] at e
    obtain ⟨fm1, e1, e2⟩ := e
    simp only [RepL] at rv
    obtain ⟨x, xs, rfl, rx, rxs⟩ := rv
    exact ⟨x, xs, rfl, ρ, fm, st, w, fm1, R, rx, e1, fun σ1 R1 hw1 => ⟨ρ, fm1, st, r, fm', R1, rxs, e2, fun σ2 R2 hw2 => T σ2 R2 fun vs hv =>
      (hw2 vs fun i hi => hv i (List.mem_append_right _ hi)).trans (hw1 vs fun i hi => hv i (List.mem_append_left _ hi))⟩⟩
theorem dg_t {k : Nat} (hc : X.calm = true) (h : DGs X es is fgs) (hn : (assignEach es X.env).length = es.length := by rfl) (hst : (assignEach es X.env).findIdx? (·.1) = none := by rfl) (hl : ∀ ws fm fm', fgs ws fm = some fm' → ws.length = es.length) : DG X (.Tuple es k pos) is (gT fgs) := PGi (pg_tup hc h hn hst) fun v σ H Q h => by
  obtain ⟨ρ, fm, st, w, fm', R, rv, e, T⟩ := h
  cases w <;> try (cases e; done)
  rename_i ws
  simp only [RepV] at rv
  obtain ⟨a, vs, rfl, hq, rl⟩ := rv
  exact ⟨a, vs, rfl, SqT.of hq, by rw [← rl.length]; exact hl _ _ _ e, ρ, fm, st, ws, fm', R, rl, e, T⟩
end
theorem gsl0 : ∀ ws fm fm', gsN ws fm = some fm' → ws.length = 0 := fun ws fm fm' h => by cases ws <;> simp_all [gsN]
theorem gslc {g : Fg} {h : Fgs} {n : Nat} (hl : ∀ ws fm fm', h ws fm = some fm' → ws.length = n) : ∀ ws fm fm', gsC g h ws fm = some fm' → ws.length = n + 1 := fun ws fm fm' e => by
  cases ws with
  | nil => cases e
  | cons w r =>
    simp only [gsC, Option.bind_eq_some_iff] at e
    obtain ⟨fm1, _, e2⟩ := e
    simp [hl _ _ _ e2]
def sAsg (g : Fg) (f : Ev) : Sm := fun fm st => (f fm st).bind fun p => (g p.1 fm).bind fun fm' => some (.nx, fm', p.2)
theorem ds_asg {X : Cx} {tg e : Expr} {pos : Pos} {f : Ev} {g : Fg} {is : List Nat} (he : DE X e f) (hg : DG X tg is g) (hs : swapsWithSole [tg] e pos.line X.env = pure false := by rfl) (hw : swappedStores [tg] e X.env = pure none := by rfl)
    (h1 : (assignEach [tg] X.env).map (·.2) = [assign tg X.env] := by rfl) : DS X (.Assign [tg] e pos) (sAsg g f) := PSi (ps_asg he hg hs hw h1) fun D σ H h => by
  obtain ⟨ρ, fm, st, fl, fm', st', R, e, T⟩ := h
  simp only [sAsg, Option.bind_eq_some_iff] at e
  obtain ⟨⟨w, s1⟩, e1, fm1, e2, e3⟩ := e
  cases e3
  exact ⟨ρ, fm, st, w, _, R, e1, fun ρ1 H1 p1 k1 R1 v rv => ⟨ρ1, fm, _, w, _, R1, rv, e2, fun σ' R' _ => T ρ1 H1 σ' p1 k1 R'⟩⟩

/-! ### what a loop walks -/
structure Src where
  ws : List Va
  gd : Sto → Prop
abbrev Fi := Fm → Sto → Option (Src × Sto)
def JOk (K : PySem.W.Frag) (ρ0 : List Addr) (H0 : Hp) (S : Src) (J : It) : Prop :=
  ∀ (i : Nat) ρ fm st σ H, ρ0 <+: ρ → Kp K H0 H → Rel K ρ fm st σ H → S.gd st →
    (∀ w, S.ws[i]? = some w → J.go i H ∧ ∀ x H', J.yld i H x H' → Same H H' ∧ Kp K H H' ∧ RepV K ρ H' w x) ∧ (i = S.ws.length → J.stop i H)
def tI (K : PySem.W.Frag) (fi : Fi) : TI := fun σ H R => ∃ ρ fm st S st', Rel K ρ fm st σ H ∧ fi fm st = some (S, st') ∧ ∀ ρ' H', ρ <+: ρ' → Kp K H H' → Rel K ρ' fm st' σ H' → ∀ J, JOk K ρ' H' S J → R J H'
abbrev DI (X : Cx) (tg e : Expr) (fi : Fi) : Prop := PI X tg e (tI X.K fi)
theorem PIi {X : Cx} {tg e : Expr} {t t' : TI} (h : PI X tg e t) (i : ∀ σ H R, t' σ H R → t σ H R) : PI X tg e t' := ⟨fun pins s σ H R I hw => h.run pins s σ H R I (i _ _ _ hw)⟩
section
open Classical
noncomputable def forL (gd : Sto → Prop) (fg : Fg) (body : Sm) : List Va → Sm
  | [] => fun fm st => if gd st then some (.nx, fm, st) else none
  | w :: ws => fun fm st => if gd st then (fg w fm).bind fun fm1 => (body fm1 st).bind fun r => match r.1 with
    | .nx => forL gd fg body ws r.2.1 r.2.2
    | .ct => forL gd fg body ws r.2.1 r.2.2
    | .bk => some (.nx, r.2)
    | .rt v => some (.rt v, r.2) else none
noncomputable def sFor (fi : Fi) (fg : Fg) (body : Sm) : Sm := fun fm st => (fi fm st).bind fun r => forL r.1.gd fg body r.1.ws fm r.2
end
theorem ds_for {X : Cx} {tg iter : Expr} {body : List Stmt} {pos : Pos} {fi : Fi} {fg : Fg} {fb : Sm} {is : List Nat} (hp : PassesOwn (model X.prog X.w) X.A X.env X.xe) (hc : X.calm = true) (hi : DI X tg iter fi) (hg : DG X tg is fg) (hb : DSs X body fb)
    (hs : ∀ x, foldedSetIterable iter X.env x = pure x := by intro _; rfl) : DS X (.For tg iter body [] pos) (sFor fi fg fb) := PSi (ps_for hp hc hi hg hb hs) fun D σ H h => by
  obtain ⟨ρ, fm, st, fl, fm', st', R, e, T⟩ := h
  simp only [sFor, Option.bind_eq_some_iff] at e
  obtain ⟨⟨S, s1⟩, e1, e2⟩ := e
  refine ⟨ρ, fm, st, S, s1, R, e1, fun ρ1 H1 p1 k1 R1 J hJ => ?_⟩
  refine ⟨fun i m σ2 H2 => i + m = S.ws.length ∧ ∃ ρ2 fm2 st2, ρ1 <+: ρ2 ∧ Kp X.K H1 H2 ∧ Rel X.K ρ2 fm2 st2 σ2 H2 ∧ forL S.gd fg fb (S.ws.drop i) fm2 st2 = some (fl, fm', st'),
    ⟨S.ws.length, by omega, ρ1, fm, s1, List.prefix_refl _, Kp.refl, R1, by simpa using e2⟩, ?_⟩
  rintro i m σ2 H2 ⟨hm, ρ2, fm2, st2, p2, k2, R2, e3⟩
  by_cases hi : i < S.ws.length
  · refine .inr ?_
    have hd : S.ws.drop i = S.ws[i] :: S.ws.drop (i + 1) := List.drop_eq_getElem_cons hi
    rw [hd] at e3
    simp only [forL] at e3
    split at e3
    · rename_i hgd
      obtain ⟨hgo, _⟩ := hJ i ρ2 fm2 st2 σ2 H2 p2 k2 R2 hgd
      obtain ⟨go, yld⟩ := hgo S.ws[i] (List.getElem?_eq_getElem hi)
      simp only [Option.bind_eq_some_iff] at e3
      obtain ⟨fm3, e4, ⟨f5, fm5, st5⟩, e5, e6⟩ := e3
      refine ⟨go, fun σ3 H3 => ∃ ρ3 fm3 st3, ρ1 <+: ρ3 ∧ Kp X.K H1 H3 ∧ Rel X.K ρ3 fm3 st3 σ3 H3 ∧ forL S.gd fg fb (S.ws.drop (i + 1)) fm3 st3 = some (fl, fm', st'), fun σ3 H3 h3 => ⟨m - 1, by omega, by omega, h3⟩, fun x H3 hy => ?_⟩
      obtain ⟨sm, k3, rx⟩ := yld x H3 hy
      have R3 : Rel X.K ρ2 fm2 st2 σ2 H3 := R2.mono (List.prefix_refl _) k3 (R2.s.same sm k3)
      refine ⟨ρ2, fm2, st2, S.ws[i], fm3, R3, rx, e4, fun σ4 R4 _ => ?_⟩
      refine ⟨ρ2, fm3, st2, f5, fm5, st5, R4, e5, fun ρ6 H6 σ6 p6 k6 R6 => ?_⟩
      have P6 := List.IsPrefix.trans p2 p6
      have K6 : Kp X.K H1 H6 := k2.trans (k3.trans k6)
      cases f5 with
      | nx => exact ⟨ρ6, fm5, st5, P6, K6, R6, e6⟩
      | ct => exact ⟨ρ6, fm5, st5, P6, K6, R6, e6⟩
      | bk =>
        cases e6
        exact T ρ6 H6 σ6 (List.IsPrefix.trans p1 P6) (k1.trans K6) R6
      | rt v =>
        cases e6
        exact T ρ6 H6 σ6 (List.IsPrefix.trans p1 P6) (k1.trans K6) R6
    · cases e3
  · have ei : i = S.ws.length := by omega
    refine .inl ?_
    rw [ei, List.drop_length] at e3
    simp only [forL] at e3
    split at e3
    · rename_i hgd
      obtain ⟨_, stop⟩ := hJ i ρ2 fm2 st2 σ2 H2 p2 k2 R2 hgd
      cases e3
      exact ⟨stop ei, T ρ2 H2 σ2 (List.IsPrefix.trans p1 p2) (k1.trans k2) R2⟩
    · cases e3

/-! ### while -/
section
open Classical
def whL (c : Et) (body : Sm) : Nat → Sm
  | 0 => fun _ _ => none
  | n + 1 => fun fm st => (c fm st).bind fun p => if p.1 = true then (body fm p.2).bind fun r => match r.1 with
    | .nx => whL c body n r.2.1 r.2.2
    | .ct => whL c body n r.2.1 r.2.2
    | .bk => some (.nx, r.2)
    | .rt v => some (.rt v, r.2) else some (.nx, fm, p.2)
noncomputable def sWh (c : Et) (body : Sm) : Sm := fun fm st => if h : ∃ n r, whL c body n fm st = some r then some (choose (choose_spec h)) else none
theorem whL_mono {c : Et} {body : Sm} : ∀ {n : Nat} {fm : Fm} {st : Sto} {r}, whL c body n fm st = some r → ∀ m, n ≤ m → whL c body m fm st = some r
  | 0, _, _, _, h, _, _ => by cases h
  | n + 1, fm, st, r, h, m, hm => by
    obtain ⟨m, rfl⟩ : ∃ k, m = k + 1 := ⟨m - 1, by omega⟩
    simp only [whL, Option.bind_eq_some_iff] at h ⊢
    obtain ⟨⟨b, s1⟩, e1, e2⟩ := h
    refine ⟨⟨b, s1⟩, e1, ?_⟩
    cases b with
    | false => exact e2
    | true =>
      simp only [if_true, Option.bind_eq_some_iff] at e2 ⊢
      obtain ⟨⟨f2, fm2, s2⟩, e3, e4⟩ := e2
      refine ⟨_, e3, ?_⟩
      cases f2 with
      | nx => exact whL_mono (n := n) e4 m (by omega)
      | ct => exact whL_mono (n := n) e4 m (by omega)
      | bk => exact e4
      | rt v => exact e4
theorem sWh_of {c : Et} {body : Sm} {n : Nat} {fm : Fm} {st : Sto} {r} (h : whL c body n fm st = some r) : sWh c body fm st = some r := by
  have hh : ∃ n r, whL c body n fm st = some r := ⟨n, r, h⟩
  unfold sWh
  rw [dif_pos hh]
  have q := choose_spec (choose_spec hh)
  have a := whL_mono q (max (choose hh) n) (Nat.le_max_left _ _)
  have b := whL_mono h (max (choose hh) n) (Nat.le_max_right _ _)
  rw [a] at b
  exact b
theorem sWh_has {c : Et} {body : Sm} {fm : Fm} {st : Sto} {r} (h : sWh c body fm st = some r) : ∃ n, whL c body n fm st = some r := by
  unfold sWh at h
  split at h
  · rename_i hh
    cases h
    exact ⟨_, choose_spec (choose_spec hh)⟩
  · cases h
end
theorem ds_wh {X : Cx} {c : Expr} {body : List Stmt} {pos : Pos} {fc : Et} {fb : Sm} (hp : PassesOwn (model X.prog X.w) X.A X.env X.xe) (hc : DT X c fc) (hb : DSs X body fb) : DS X (.While c body [] pos) (sWh fc fb) := PSi (ps_while hp hc hb) fun D σ H h => by
  obtain ⟨ρ, fm, st, fl, fm', st', R, e, T⟩ := h
  obtain ⟨n, e⟩ := sWh_has e
  refine ⟨fun m σ2 H2 => ∃ ρ2 fm2 st2, ρ <+: ρ2 ∧ Kp X.K H H2 ∧ Rel X.K ρ2 fm2 st2 σ2 H2 ∧ whL fc fb m fm2 st2 = some (fl, fm', st'), ⟨n, ρ, fm, st, List.prefix_refl _, Kp.refl, R, e⟩, ?_⟩
  rintro m σ2 H2 ⟨ρ2, fm2, st2, p2, k2, R2, e2⟩
  cases m with
  | zero => cases e2
  | succ m =>
    simp only [whL, Option.bind_eq_some_iff] at e2
    obtain ⟨⟨b, s3⟩, e3, e4⟩ := e2
    refine ⟨ρ2, fm2, st2, b, s3, R2, e3, fun ρ4 H4 p4 k4 R4 => ?_⟩
    cases b with
    | false =>
      rw [if_neg Bool.false_ne_true] at e4 ⊢
      cases e4
      exact T ρ4 H4 σ2 (List.IsPrefix.trans p2 p4) (k2.trans k4) R4
    | true =>
      rw [if_pos rfl] at e4 ⊢
      simp only [Option.bind_eq_some_iff] at e4
      obtain ⟨⟨f5, fm5, s5⟩, e5, e6⟩ := e4
      refine ⟨fun σ6 H6 => ∃ ρ6 fm6 st6, ρ <+: ρ6 ∧ Kp X.K H H6 ∧ Rel X.K ρ6 fm6 st6 σ6 H6 ∧ whL fc fb m fm6 st6 = some (fl, fm', st'), fun σ6 H6 h6 => ⟨m, by omega, h6⟩, ?_⟩
      refine ⟨ρ4, fm2, s3, f5, fm5, s5, R4, e5, fun ρ7 H7 σ7 p7 k7 R7 => ?_⟩
      have P7 := List.IsPrefix.trans p2 (List.IsPrefix.trans p4 p7)
      have K7 : Kp X.K H H7 := k2.trans (k4.trans k7)
      cases f5 with
      | nx => exact ⟨ρ7, fm5, s5, P7, K7, R7, e6⟩
      | ct => exact ⟨ρ7, fm5, s5, P7, K7, R7, e6⟩
      | bk => cases e6; exact T ρ7 H7 σ7 P7 K7 R7
      | rt v => cases e6; exact T ρ7 H7 σ7 P7 K7 R7
end
end T3
/-! T3, third part: operators, built-ins, iterators, comprehensions, defs, the law's end -/
namespace T3
open PySem PySem.Spec PyProof.Rows L2
noncomputable section

theorem repB {K : PySem.W.Frag} {ρ : List Addr} {H : Hp} {b : Bool} : RepV K ρ H (.bl b) (.bl b) := by simp only [RepV]
theorem repI {K : PySem.W.Frag} {ρ : List Addr} {H : Hp} {b : Int} : RepV K ρ H (.int b) (.int b) := by simp only [RepV]
theorem repN {K : PySem.W.Frag} {ρ : List Addr} {H : Hp} : RepV K ρ H .non .non := by simp only [RepV]
theorem repS {K : PySem.W.Frag} {ρ : List Addr} {H : Hp} {s : List Nat} : RepV K ρ H (.str s) (.str ⟨s.toArray⟩) := by simp only [RepV]
theorem slen (s : List Nat) : (⟨s.toArray⟩ : Str).length = s.length := by show s.toArray.size = _; simp
theorem sapp (s t : List Nat) : (⟨s.toArray⟩ : Str) ++ ⟨t.toArray⟩ = ⟨(s ++ t).toArray⟩ := by
  show Str.mk (s.toArray ++ t.toArray) = _
  simp

/-! ### arithmetic -/
def gAdd (a b : Va) (st : Sto) : Option (Va × Sto) := match a, b with
  | .int i, .int j => some (.int (i + j), st)
  | .str s, .str t => @ite _ (s.length + t.length ≤ 16777216) (Classical.propDecidable _) (some (.str (s ++ t), st)) none
  | .tup xs, .tup ys => @ite _ (xs.length + ys.length ≤ 16777216) (Classical.propDecidable _) (some (.tup (xs ++ ys), st)) none
  | .ref m, .ref n => match st[m]?, st[n]? with
    | some (.lst xs), some (.lst ys) => @ite _ (xs.length + ys.length ≤ 16777216) (Classical.propDecidable _) (some (.ref st.length, st ++ [.lst (xs ++ ys)])) none
    | _, _ => none
  | _, _ => none
def gSub (a b : Va) (st : Sto) : Option (Va × Sto) := match a, b with
  | .int i, .int j => some (.int (i - j), st)
  | _, _ => none
def gMul (a b : Va) (st : Sto) : Option (Va × Sto) := match a, b with
  | .int i, .int j => @ite _ ((i.natAbs.log2 + j.natAbs.log2 < 1000000 ∨ i.natAbs < 18446744073709551616 ∨ j.natAbs < 18446744073709551616)) (Classical.propDecidable _) (some (.int (i * j), st)) none
  | .ref m, .int k => match st[m]? with
    | some (.lst xs) => @ite _ (-1000000000 ≤ k ∧ k < 1000000000 ∧ xs.length * k.toNat ≤ 16777216) (Classical.propDecidable _) (some (.ref st.length, st ++ [.lst (List.replicate k.toNat xs).flatten])) none
    | _ => none
  | .tup ws, .int k => if k = 1 then some (.tup ws, st) else @ite _ (ws ≠ [] ∧ 2 ≤ k ∧ k ≤ 1000 ∧ ws.length ≤ 1000) (Classical.propDecidable _) (some (.tup (List.replicate k.toNat ws).flatten, st)) none
  | _, _ => none
def gMod (a b : Va) (st : Sto) : Option (Va × Sto) := match a, b with
  | .int i, .int j => if 0 < j then some (.int (i % j), st) else none
  | _, _ => none
def gDiv (a b : Va) (st : Sto) : Option (Va × Sto) := match a, b with
  | .int i, .int j => @ite _ (0 < j ∧ j.natAbs.log2 < 9000) (Classical.propDecidable _) (some (.int (i / j), st)) none
  | _, _ => none
def gPow (a b : Va) (st : Sto) : Option (Va × Sto) := match a, b with
  | .int i, .int j => @ite _ (0 ≤ j ∧ j ≤ 1000000 ∧ i.natAbs < 18446744073709551616) (Classical.propDecidable _) (some (.int (i ^ j.toNat), st)) none
  | _, _ => none
def gNeg (a : Va) (st : Sto) : Option (Va × Sto) := match a with
  | .int i => some (.int (-i), st)
  | _ => none
section
variable {X : Cx}
theorem lst_of {K : PySem.W.Frag} {ρ : List Addr} {fm : Fm} {st : Sto} {σ : L2.St} {H : Hp} (R : Rel K ρ fm st σ H) {n : Nat} {v : V} {ws : List Va} (rv : RepV K ρ H (.ref n) v) (h : st[n]? = some (.lst ws)) :
    ∃ a vs, v = .ref a ∧ ρ[n]? = some a ∧ H a = some (.lst vs) ∧ RepL K ρ H ws vs := by
  simp only [RepV] at rv
  obtain ⟨a, rfl, e⟩ := rv
  obtain ⟨a', e', vs, hv, rl⟩ := R.s.sto n _ h
  rw [e] at e'; cases e'
  exact ⟨a, vs, rfl, e, hv, rl⟩
theorem rol_of {K : PySem.W.Frag} {ρ : List Addr} {fm : Fm} {st : Sto} {σ : L2.St} {H : Hp} (R : Rel K ρ fm st σ H) {n : Nat} {v : V} {ws : List Va} (rv : RepV K ρ H (.ref n) v) (h : st[n]? = some (.rol ws)) :
    ∃ a vs, v = .ref a ∧ ρ[n]? = some a ∧ SqL K H a vs ∧ RepL K ρ H ws vs := by
  simp only [RepV] at rv
  obtain ⟨a, rfl, e⟩ := rv
  obtain ⟨a', e', vs, hv, rl⟩ := R.s.sto n _ h
  rw [e] at e'; cases e'
  refine ⟨a, vs, rfl, e, ?_, rl⟩
  rcases hv with ⟨o, hv⟩ | (hv | ⟨o, hv⟩) | hv
  · exact .inl (.inr ⟨o, hv⟩)
  · cases hv
  · cases hv
  · exact .inr hv
theorem tup_of {K : PySem.W.Frag} {ρ : List Addr} {H : Hp} {v : V} {ws : List Va} (rv : RepV K ρ H (.tup ws) v) : ∃ a vs, v = .ref a ∧ SqT K H a vs ∧ RepL K ρ H ws vs := by
  simp only [RepV] at rv
  obtain ⟨a, vs, e, h, r⟩ := rv
  exact ⟨a, vs, e, SqT.of h, r⟩
theorem ktp_of {K : PySem.W.Frag} {ρ : List Addr} {H : Hp} {v : V} {ws : List Va} (rv : RepV K ρ H (.ktp ws) v) : ∃ a vs, v = .ref a ∧ SqT K H a vs ∧ RepL K ρ H ws vs := by
  simp only [RepV] at rv
  obtain ⟨a, vs, e, h, r⟩ := rv
  exact ⟨a, vs, e, SqT.const h, r⟩
/-- an operator by two or three rules -/
theorem opAdd : ∃ r, OpR X (binaryOp .Add) r ∧ MB X.K gAdd r := by
  refine ⟨_, (op_add.or (op_add_str.or (op_catA.or op_cat))), ?_⟩
  intro ρ fm st σ H a b x y w st' Q R ra rb e T
  unfold gAdd at e
  split at e
  · simp only [RepV] at ra rb; subst ra; subst rb; cases e
    exact .inl ⟨_, _, rfl, rfl, T.same R _ repI⟩
  · simp only [RepV] at ra rb; subst ra; subst rb
    split at e
    · rename_i s t hz
      cases e
      refine .inr (.inl ⟨_, _, rfl, rfl, by rw [slen, slen, sizeLine_eq]; exact hz, ?_⟩)
      rw [sapp]
      exact T.same R _ repS
    · cases e
  · split at e
    · rename_i xs ys hz
      cases e
      obtain ⟨a, vs, rfl, h1, r1⟩ := tup_of ra
      obtain ⟨b, us, rfl, h2, r2⟩ := tup_of rb
      have l1 := r1.length
      have l2 := r2.length
      refine .inr (.inr (.inl ⟨a, b, vs, us, rfl, rfl, h1, h2, by rw [← r1.length, ← r2.length, sizeLine_eq]; exact hz, fun e1 => ?_, fun _ e2 => ?_, fun _ _ p hp => ?_⟩))
      · subst e1
        have e0 : xs = [] := List.length_eq_zero_iff.mp (by simpa using l1)
        subst e0
        exact T.same R _ rb
      · subst e2
        have e0 : ys = [] := List.length_eq_zero_iff.mp (by simpa using l2)
        subst e0
        rw [List.append_nil] at T
        exact T.same R _ ra
      · refine T.tup R hp _ ?_
        simp only [RepV]
        exact ⟨p, _, rfl, upd_same, RepL.mono (List.prefix_refl _) (Kp.new hp) _ _ (r1.append r2)⟩
    · cases e
  · split at e
    · rename_i xs ys h1 h2
      split at e
      · rename_i hz
        cases e
        obtain ⟨a, vs, rfl, ea, g1, r1⟩ := lst_of R ra h1
        obtain ⟨b, us, rfl, eb, g2, r2⟩ := lst_of R rb h2
        refine .inr (.inr (.inr ⟨a, b, vs, us, rfl, rfl, g1, g2, by rw [← r1.length, ← r2.length, sizeLine_eq]; exact hz, fun p hp => ?_⟩))
        refine T.push R hp (o := .lst (xs ++ ys)) ⟨_, upd_same, RepL.mono (List.prefix_append _ _) (Kp.new hp) _ _ (r1.append r2)⟩ _ (ref_last R.s.rl)
      · cases e
    · cases e
  · cases e
theorem opSub : ∃ r, OpR X (binaryOp .Sub) r ∧ MB X.K gSub r := by
  refine ⟨_, op_sub, ?_⟩
  intro ρ fm st σ H a b x y w st' Q R ra rb e T
  unfold gSub at e
  split at e
  · simp only [RepV] at ra rb; subst ra; subst rb; cases e
    exact ⟨_, _, rfl, rfl, T.same R _ repI⟩
  · cases e
theorem mul1_meets (l : Addr) (its : Array Value) (n : Nat) (dd : Option Addr) (sl : Array (Option Value)) (u : Tok) :
    Meets (Builtin.«tuple.__mul__» ⟨[.ref l, .int 1 u], []⟩) (fun _ R s => s.heap.get? l = some ⟨.type "tuple", dd, .seq its n, sl⟩ ∧ R (.ok (.ret (.ref l))) s) :=
  .of_wp fun prog w A R s hh => by
    obtain ⟨hp, g, d, tk, os⟩ := s
    obtain ⟨hl, hh⟩ := hh
    have f1 := AutoSeq1.idx_int
    wp_walk using wpAny_loadPart' hl
    exact ⟨_, rfl, hh⟩
/-- a tuple, once: itself -/
theorem op_rep1 : OpR X (binaryOp .Mult) (fun x y H Q => ∃ l xs, x = .ref l ∧ y = .int 1 ∧ SqT X.K H l xs ∧ Q (.ref l) H) := by
  intro pins s σ H x y v u Q I rx ry hh
  obtain ⟨l, xs, rfl, rfl, hT, q⟩ := hh
  cases rx
  obtain ⟨t, rfl⟩ := ry
  obtain ⟨its, r, ⟨⟨cls, dd, data, sl⟩, ho, hc, n, hd⟩, _⟩ := I.tuple hT
  simp only at hc hd
  subst hc hd
  exact wpAny_binaryOp_repeat_ref (T := "tuple") (U := "int") (by decide) ⟨_, ho, rfl⟩ (fun s' => typeIs_int s' 1 t) noFill_tuple_mul F.fills_int_mul F.slot_int_rmul repeat_tuple F.slot_int_index.lookup
    (call_meets F.slot_int_rmul (typeIs_int s 1 t) F.entry_int_rmul (F.args_int_rmul_2 _ _) (int_rmul_tuple 1 t l its.toArray n dd sl)
      ⟨ho, rfl, ⟨_, ho, rfl⟩, call_meets F.slot_tuple_mul ⟨_, ho, rfl⟩ F.entry_tuple_mul (F.args_tuple_mul_2 _ _) (mul1_meets l its.toArray n dd sl t) ⟨ho, .ref l, H, I, rfl, q⟩⟩)
theorem opMul : ∃ r, OpR X (binaryOp .Mult) r ∧ MB X.K gMul r := by
  refine ⟨_, (op_mul.or (op_mulW.or (op_rep.or (op_repT.or op_rep1)))), ?_⟩
  intro ρ fm st σ H a b x y w st' Q R ra rb e T
  unfold gMul at e
  split at e
  · simp only [RepV] at ra rb; subst ra; subst rb
    split at e
    · rename_i i j hz
      cases e
      rcases hz with hz | hz | hz
      · exact .inr (.inl ⟨_, _, rfl, rfl, hz, T.same R _ repI⟩)
      · exact .inl ⟨_, _, rfl, rfl, .inl (by omega), T.same R _ repI⟩
      · exact .inl ⟨_, _, rfl, rfl, .inr (by omega), T.same R _ repI⟩
    · cases e
  · split at e
    · rename_i xs h1
      split at e
      · rename_i hz
        cases e
        obtain ⟨a, vs, rfl, ea, g1, r1⟩ := lst_of R ra h1
        simp only [RepV] at rb; subst rb
        refine .inr (.inr (.inl ⟨a, _, vs, rfl, rfl, g1, by omega, by omega, by rw [← r1.length, sizeLine_eq]; exact hz.2.2, fun p hp => ?_⟩))
        have rr : ∀ n : Nat, RepL X.K ρ H (List.replicate n xs).flatten (List.replicate n vs).flatten := by
          intro n
          induction n with
          | zero => exact RepL.nil
          | succ n ih => rw [List.replicate_succ, List.replicate_succ, List.flatten_cons, List.flatten_cons]; exact r1.append ih
        exact T.push R hp (o := .lst _) ⟨_, upd_same, RepL.mono (List.prefix_append _ _) (Kp.new hp) _ _ (rr _)⟩ _ (ref_last R.s.rl)
      · cases e
    · cases e
  · simp only [RepV] at rb; subst rb
    obtain ⟨a, vs, rfl, h1, r1⟩ := tup_of ra
    split at e
    · rename_i hk
      cases e; subst hk
      exact .inr (.inr (.inr (.inr ⟨a, vs, rfl, rfl, h1, T.same R _ ra⟩)))
    · split at e
      · rename_i ws k _ hz
        cases e
        have rr : ∀ n : Nat, RepL X.K ρ H (List.replicate n ws).flatten (List.replicate n vs).flatten := by
          intro n
          induction n with
          | zero => exact RepL.nil
          | succ n ih => rw [List.replicate_succ, List.replicate_succ, List.flatten_cons, List.flatten_cons]; exact r1.append ih
        refine .inr (.inr (.inr (.inl ⟨a, k, vs, rfl, rfl, h1, ?_, hz.2.1, hz.2.2.1, by rw [← r1.length]; exact hz.2.2.2, fun p hp => T.tup R hp _ ?_⟩)))
        · intro z; subst z
          have := r1.length
          exact hz.1 (List.length_eq_zero_iff.mp (by simpa using this))
        · simp only [RepV]
          exact ⟨p, _, rfl, upd_same, RepL.mono (List.prefix_refl _) (Kp.new hp) _ _ (rr _)⟩
      · cases e
  · cases e
theorem opMod : ∃ r, OpR X (binaryOp .Mod) r ∧ MB X.K gMod r := by
  refine ⟨_, op_mod, ?_⟩
  intro ρ fm st σ H a b x y w st' Q R ra rb e T
  unfold gMod at e
  split at e
  · simp only [RepV] at ra rb; subst ra; subst rb
    split at e
    · rename_i hz
      cases e
      exact ⟨_, _, rfl, rfl, hz, T.same R _ repI⟩
    · cases e
  · cases e
theorem opDiv : ∃ r, OpR X (binaryOp .FloorDiv) r ∧ MB X.K gDiv r := by
  refine ⟨_, op_fdivW, ?_⟩
  intro ρ fm st σ H a b x y w st' Q R ra rb e T
  unfold gDiv at e
  split at e
  · simp only [RepV] at ra rb; subst ra; subst rb
    split at e
    · rename_i hz
      cases e
      exact ⟨_, _, rfl, rfl, hz, T.same R _ repI⟩
    · cases e
  · cases e
theorem opPow : ∃ r, OpR X (binaryOp .Pow) r ∧ MB X.K gPow r := by
  refine ⟨_, op_pow, ?_⟩
  intro ρ fm st σ H a b x y w st' Q R ra rb e T
  unfold gPow at e
  split at e
  · simp only [RepV] at ra rb; subst ra; subst rb
    split at e
    · rename_i hz
      cases e
      exact ⟨_, _, rfl, rfl, ⟨hz.1, hz.2.1, by omega⟩, T.same R _ repI⟩
    · cases e
  · cases e
theorem unNeg : ∃ r, UnR X (unaryOp .USub) r ∧ MU X.K gNeg r := by
  refine ⟨_, un_neg, ?_⟩
  intro ρ fm st σ H a x w st' Q R ra e T
  unfold gNeg at e
  split at e
  · simp only [RepV] at ra; subst ra; cases e
    exact ⟨_, rfl, T.same R _ repI⟩
  · cases e
section
variable {a b : Expr} {f1 f2 : Ev} {pos : Pos}
theorem de_add (ha : DE X a f1) (hb : DE X b f2) : DE X (.BinOp a .Add b pos) (eB gAdd f1 f2) := let ⟨_, h1, h2⟩ := opAdd; de_op h1 h2 ha hb
theorem de_sub (ha : DE X a f1) (hb : DE X b f2) : DE X (.BinOp a .Sub b pos) (eB gSub f1 f2) := let ⟨_, h1, h2⟩ := opSub; de_op h1 h2 ha hb
theorem de_mul (ha : DE X a f1) (hb : DE X b f2) : DE X (.BinOp a .Mult b pos) (eB gMul f1 f2) := let ⟨_, h1, h2⟩ := opMul; de_op h1 h2 ha hb
theorem de_mod (ha : DE X a f1) (hb : DE X b f2) : DE X (.BinOp a .Mod b pos) (eB gMod f1 f2) := let ⟨_, h1, h2⟩ := opMod; de_op h1 h2 ha hb
theorem de_div (ha : DE X a f1) (hb : DE X b f2) : DE X (.BinOp a .FloorDiv b pos) (eB gDiv f1 f2) := let ⟨_, h1, h2⟩ := opDiv; de_op h1 h2 ha hb
theorem de_pow (ha : DE X a f1) (hb : DE X b f2) : DE X (.BinOp a .Pow b pos) (eB gPow f1 f2) := let ⟨_, h1, h2⟩ := opPow; de_op h1 h2 ha hb
theorem de_neg (ha : DE X a f1) : DE X (.UnaryOp .USub a pos) (eU gNeg f1) := let ⟨_, h1, h2⟩ := unNeg; de_un h1 h2 ha
end
end
end
end T3
/-! T3, fourth part: comparisons, subscripts, iterators, comprehensions, calls of defs, defs, the law's end -/
namespace T3
open PySem PySem.Spec PyProof.Rows L2
noncomputable section

/-! ### comparisons -/
mutual
def toPy : Va → Option PyData
  | .non => some .none
  | .bl b => some (.bool b)
  | .int i => some (.int i)
  | .str s => some (.str ⟨s.toArray⟩)
  | .tup ws => (toPyL ws).map .tuple
  | _ => none
def toPyL : List Va → Option (List PyData)
  | [] => some []
  | w :: ws => (toPy w).bind fun d => (toPyL ws).map (d :: ·)
end
/-- a value's data, a list of the store too -/
def pyOf (w : Va) (st : Sto) : Option PyData := match w with
  | .ref n => match st[n]? with
    | some (.lst ws) => (toPyL ws).map .list
    | some (.rol ws) => (toPyL ws).map .list
    | _ => none
  | w => toPy w
def eqVa (a b : Va) (st : Sto) : Option Bool := match a, b with
  | .non, .non => some true
  | .int i, .int j => some (decide (i = j))
  | .bl i, .bl j => some (decide (i = j))
  | .str s, .str t => some (decide (s = t))
  | .non, .int _ => some false
  | .int _, .non => some false
  | .non, .bl _ => some false
  | .bl _, .non => some false
  | .non, .str _ => some false
  | .str _, .non => some false
  | .int _, .str _ => some false
  | .str _, .int _ => some false
  | .bl _, .str _ => some false
  | .str _, .bl _ => some false
  | a, b => (pyOf a st).bind fun d => (pyOf b st).bind fun e => if SeqAt.shaped d = true ∧ SeqAt.shaped e = true then some (PyData.eqv d e) else none
def gEq (a b : Va) (st : Sto) : Option (Va × Sto) := (eqVa a b st).map fun r => (.bl r, st)
def gNe (a b : Va) (st : Sto) : Option (Va × Sto) := (eqVa a b st).map fun r => (.bl (!r), st)
def gLt (a b : Va) (st : Sto) : Option (Va × Sto) := match a, b with
  | .int i, .int j => some (.bl (decide (i < j)), st)
  | .str s, .str t => some (.bl (decide (s < t)), st)
  | _, _ => none
def gLe (a b : Va) (st : Sto) : Option (Va × Sto) := match a, b with
  | .int i, .int j => some (.bl (decide (i ≤ j)), st)
  | .str s, .str t => some (.bl (!decide (t < s)), st)
  | _, _ => none
def gGt (a b : Va) (st : Sto) : Option (Va × Sto) := match a, b with
  | .int i, .int j => some (.bl (decide (j < i)), st)
  | .str s, .str t => some (.bl (decide (t < s)), st)
  | _, _ => none
def gGe (a b : Va) (st : Sto) : Option (Va × Sto) := match a, b with
  | .int i, .int j => some (.bl (decide (j ≤ i)), st)
  | .str s, .str t => some (.bl (!decide (s < t)), st)
  | _, _ => none
def isNon : Va → Bool
  | .non => true
  | _ => false
def gIs (a b : Va) (st : Sto) : Option (Va × Sto) := match a, b with
  | a, .non => some (.bl (isNon a), st)
  | .bl i, .bl j => some (.bl (decide (i = j)), st)
  | _, _ => none
def gIsN (a b : Va) (st : Sto) : Option (Va × Sto) := match a, b with
  | a, .non => some (.bl (!isNon a), st)
  | .bl i, .bl j => some (.bl (!decide (i = j)), st)
  | _, _ => none
section
variable {K : PySem.W.Frag} {ρ : List Addr} {H : Hp}
mutual
theorem toPy_dp : ∀ (w : Va) (v : V) (d : PyData), RepV K ρ H w v → toPy w = some d → Dp K H v d
  | .non, _, _, r, e => by simp only [RepV] at r; subst r; cases e; exact .non
  | .bl b, _, _, r, e => by simp only [RepV] at r; subst r; cases e; exact .bl b
  | .int b, _, _, r, e => by simp only [RepV] at r; subst r; cases e; exact .int b
  | .str b, _, _, r, e => by simp only [RepV] at r; subst r; cases e; exact .str _
  | .tup ws, _, _, r, e => by
    simp only [RepV] at r
    obtain ⟨a, vs, rfl, h, rl⟩ := r
    simp only [toPy, Option.map_eq_some_iff] at e
    obtain ⟨ds, e, rfl⟩ := e
    exact .tup (SqT.of h) (toPyL_dp ws vs ds rl e)
  | .ktp _, _, _, r, e => by simp [toPy] at e
  | .ref _, _, _, r, e => by simp [toPy] at e
  | .ty _, _, _, r, e => by simp [toPy] at e
theorem toPyL_dp : ∀ (ws : List Va) (vs : List V) (ds : List PyData), RepL K ρ H ws vs → toPyL ws = some ds → DpAll K H vs ds
  | [], _, _, r, e => by simp only [RepL] at r; subst r; cases e; exact .nil
  | w :: ws, _, _, r, e => by
    simp only [RepL] at r
    obtain ⟨v, vs, rfl, r1, r2⟩ := r
    simp only [toPyL, Option.bind_eq_some_iff, Option.map_eq_some_iff] at e
    obtain ⟨d, e1, ds, e2, rfl⟩ := e
    exact .cons (toPy_dp w v d r1 e1) (toPyL_dp ws vs ds r2 e2)
end
theorem pyOf_dp {fm : Fm} {st : Sto} {σ : L2.St} {w : Va} {v : V} {d : PyData} (R : Rel K ρ fm st σ H) (r : RepV K ρ H w v) (e : pyOf w st = some d) : Dp K H v d := by
  cases w with
  | ref n =>
    simp only [pyOf] at e
    split at e
    · rename_i ws h
      obtain ⟨a, vs, rfl, ea, g1, r1⟩ := lst_of R r h
      simp only [Option.map_eq_some_iff] at e
      obtain ⟨ds, e, rfl⟩ := e
      exact .lst (SqL.of g1) (toPyL_dp _ _ _ r1 e)
    · rename_i ws h
      obtain ⟨a, vs, rfl, ea, g1, r1⟩ := rol_of R r h
      simp only [Option.map_eq_some_iff] at e
      obtain ⟨ds, e, rfl⟩ := e
      exact .lst g1 (toPyL_dp _ _ _ r1 e)
    · cases e
  | non => exact toPy_dp _ _ _ r e
  | bl _ => exact toPy_dp _ _ _ r e
  | int _ => exact toPy_dp _ _ _ r e
  | str _ => exact toPy_dp _ _ _ r e
  | tup _ => exact toPy_dp _ _ _ r e
  | ktp _ => exact toPy_dp _ _ _ r e
  | ty _ => exact toPy_dp _ _ _ r e
theorem dec_str2 {s t : List Nat} : decide (V.str ⟨s.toArray⟩ = V.str ⟨t.toArray⟩) = decide (s = t) := by
  rw [decide_eq_decide]
  constructor
  · intro h; injection h with h; injection h with h; simpa using congrArg Array.toList h
  · intro h; rw [h]
theorem isNon_of {w : Va} {v : V} (r : RepV K ρ H w v) : decide (v = .non) = isNon w := by
  cases w <;> simp only [RepV] at r <;> (try subst r) <;> simp [isNon]
  · obtain ⟨a, vs, rfl, _⟩ := r; simp
  · obtain ⟨a, vs, rfl, _⟩ := r; simp
  · obtain ⟨a, rfl, _⟩ := r; simp
end
section
variable {X : Cx}
theorem eqCase {K : PySem.W.Frag} {ρ : List Addr} {fm : Fm} {st : Sto} {σ : L2.St} {H : Hp} {a b : Va} {x y : V} {r : Bool} (R : Rel K ρ fm st σ H) (ra : RepV K ρ H a x) (rb : RepV K ρ H b y) (e : eqVa a b st = some r) :
    (scal x y = true ∧ decide (x = y) = r) ∨ ∃ d e, Dp K H x d ∧ Dp K H y e ∧ SeqAt.shaped d = true ∧ SeqAt.shaped e = true ∧ PyData.eqv d e = r := by
  unfold eqVa at e
  split at e
  all_goals first
    | (simp only [RepV] at ra rb; subst ra; subst rb; cases e; exact .inl ⟨rfl, rfl⟩)
    | (simp only [RepV] at ra rb; subst ra; subst rb; cases e; exact .inl ⟨rfl, by simp⟩)
    | (simp only [RepV] at ra rb; subst ra; subst rb; cases e; exact .inl ⟨rfl, dec_str2⟩)
    | (simp only [Option.bind_eq_some_iff] at e
       obtain ⟨d, e1, d', e2, e3⟩ := e
       split at e3
       · rename_i hz
         cases e3
         exact .inr ⟨d, d', pyOf_dp R ra e1, pyOf_dp R rb e2, hz.1, hz.2, rfl⟩
       · cases e3)
theorem cmpEq (hu : X.A.units + 64 < cLine) : ∃ r, OpR X (compareOp .Eq) r ∧ MB X.K gEq r := by
  refine ⟨_, op_eq.or (op_eqD hu), ?_⟩
  intro ρ fm st σ H a b x y w st' Q R ra rb e T
  simp only [gEq, Option.map_eq_some_iff] at e
  obtain ⟨r, e, e2⟩ := e
  cases e2
  rcases eqCase R ra rb e with ⟨h1, h2⟩ | ⟨d, d', h1, h2, h3, h4, h5⟩
  · exact .inl ⟨h1, by rw [h2]; exact T.same R _ repB⟩
  · exact .inr ⟨d, d', h1, h2, h3, h4, by rw [h5]; exact T.same R _ repB⟩
theorem cmpNe (hu : X.A.units + 64 < cLine) : ∃ r, OpR X (compareOp .NotEq) r ∧ MB X.K gNe r := by
  refine ⟨_, op_ne.or (op_neD hu), ?_⟩
  intro ρ fm st σ H a b x y w st' Q R ra rb e T
  simp only [gNe, Option.map_eq_some_iff] at e
  obtain ⟨r, e, e2⟩ := e
  cases e2
  rcases eqCase R ra rb e with ⟨h1, h2⟩ | ⟨d, d', h1, h2, h3, h4, h5⟩
  · exact .inl ⟨h1, by rw [h2]; exact T.same R _ repB⟩
  · exact .inr ⟨d, d', h1, h2, h3, h4, by rw [h5]; exact T.same R _ repB⟩
theorem cmpLt : ∃ r, OpR X (compareOp .Lt) r ∧ MB X.K gLt r := by
  refine ⟨_, op_lt.or op_lt_str, ?_⟩
  intro ρ fm st σ H a b x y w st' Q R ra rb e T
  unfold gLt at e
  split at e
  · simp only [RepV] at ra rb; subst ra; subst rb; cases e; exact .inl ⟨_, _, rfl, rfl, T.same R _ repB⟩
  · simp only [RepV] at ra rb; subst ra; subst rb; cases e; exact .inr ⟨_, _, rfl, rfl, T.same R _ (by simp only [RepV])⟩
  · cases e
theorem cmpLe : ∃ r, OpR X (compareOp .LtE) r ∧ MB X.K gLe r := by
  refine ⟨_, op_le.or op_le_str, ?_⟩
  intro ρ fm st σ H a b x y w st' Q R ra rb e T
  unfold gLe at e
  split at e
  · simp only [RepV] at ra rb; subst ra; subst rb; cases e; exact .inl ⟨_, _, rfl, rfl, T.same R _ repB⟩
  · simp only [RepV] at ra rb; subst ra; subst rb; cases e; exact .inr ⟨_, _, rfl, rfl, T.same R _ (by simp only [RepV])⟩
  · cases e
theorem cmpGt : ∃ r, OpR X (compareOp .Gt) r ∧ MB X.K gGt r := by
  refine ⟨_, op_gt.or op_gt_str, ?_⟩
  intro ρ fm st σ H a b x y w st' Q R ra rb e T
  unfold gGt at e
  split at e
  · simp only [RepV] at ra rb; subst ra; subst rb; cases e; exact .inl ⟨_, _, rfl, rfl, T.same R _ repB⟩
  · simp only [RepV] at ra rb; subst ra; subst rb; cases e; exact .inr ⟨_, _, rfl, rfl, T.same R _ (by simp only [RepV])⟩
  · cases e
theorem cmpGe : ∃ r, OpR X (compareOp .GtE) r ∧ MB X.K gGe r := by
  refine ⟨_, op_ge.or op_ge_str, ?_⟩
  intro ρ fm st σ H a b x y w st' Q R ra rb e T
  unfold gGe at e
  split at e
  · simp only [RepV] at ra rb; subst ra; subst rb; cases e; exact .inl ⟨_, _, rfl, rfl, T.same R _ repB⟩
  · simp only [RepV] at ra rb; subst ra; subst rb; cases e; exact .inr ⟨_, _, rfl, rfl, T.same R _ (by simp only [RepV])⟩
  · cases e
theorem cmpIs : ∃ r, OpR X (compareOp .Is) r ∧ MB X.K gIs r := by
  refine ⟨_, op_isN.or op_isBl, ?_⟩
  intro ρ fm st σ H a b x y w st' Q R ra rb e T
  unfold gIs at e
  split at e
  · simp only [RepV] at rb; cases e; exact .inl ⟨rb, by rw [isNon_of ra]; exact T.same R _ repB⟩
  · simp only [RepV] at ra rb; cases e; exact .inr ⟨_, _, ra, rb, T.same R _ repB⟩
  · cases e
theorem cmpIsN : ∃ r, OpR X (compareOp .IsNot) r ∧ MB X.K gIsN r := by
  refine ⟨_, op_notN.or op_notBl, ?_⟩
  intro ρ fm st σ H a b x y w st' Q R ra rb e T
  unfold gIsN at e
  split at e
  · simp only [RepV] at rb; cases e; exact .inl ⟨rb, by rw [isNon_of ra]; exact T.same R _ repB⟩
  · simp only [RepV] at ra rb; cases e; exact .inr ⟨_, _, ra, rb, T.same R _ repB⟩
  · cases e
end
end
end T3
/-! T3, fifth part: subscripts, iterators, comprehensions, calls, defs, the law's end -/
namespace T3
open PySem PySem.Spec PyProof.Rows L2
noncomputable section

/-! ### either of two readings -/
theorem PE.orr {X : Cx} {e : Expr} {t u : TE} (h : PE X e t) (h' : PE X e u) : PE X e (fun σ H Q => t σ H Q ∨ u σ H Q) := ⟨fun pins s σ H Q I q => q.elim (h.run pins s σ H Q I) (h'.run pins s σ H Q I)⟩
theorem PI.orr {X : Cx} {tg e : Expr} {t u : TI} (h : PI X tg e t) (h' : PI X tg e u) : PI X tg e (fun σ H Q => t σ H Q ∨ u σ H Q) := ⟨fun pins s σ H Q I q => q.elim (h.run pins s σ H Q I) (h'.run pins s σ H Q I)⟩
theorem PS.orr {X : Cx} {e : Stmt} {t u : TS} (h : PS X e t) (h' : PS X e u) : PS X e (fun D σ H => t D σ H ∨ u D σ H) := ⟨fun pins s σ H D I q => q.elim (h.run pins s σ H D I) (h'.run pins s σ H D I)⟩

/-! ### keys -/
def keyOf : Va → Option Key
  | .int i => some (.inl i)
  | .str s => some (.inr ⟨s.toArray⟩)
  | _ => none
def keysOf : List Va → Option (List Key)
  | [] => some []
  | w :: ws => (keyOf w).bind fun k => (keysOf ws).map (k :: ·)
theorem keyOf_rep {K : PySem.W.Frag} {ρ : List Addr} {H : Hp} {w : Va} {v : V} {k : Key} (r : RepV K ρ H w v) (e : keyOf w = some k) : v = kV k := by
  cases w <;> simp [keyOf] at e <;> subst e <;> simpa only [RepV, kV] using r
theorem keysOf_rep {K : PySem.W.Frag} {ρ : List Addr} {H : Hp} : ∀ {ws : List Va} {vs : List V} {k : List Key}, RepL K ρ H ws vs → keysOf ws = some k → vs = k.map kV
  | [], _, _, r, e => by simp only [RepL] at r; cases e; exact r
  | w :: ws, _, _, r, e => by
    simp only [RepL] at r
    obtain ⟨v, vs, rfl, r1, r2⟩ := r
    simp only [keysOf, Option.bind_eq_some_iff, Option.map_eq_some_iff] at e
    obtain ⟨k, e1, ks, e2, rfl⟩ := e
    rw [List.map_cons, keyOf_rep r1 e1, keysOf_rep r2 e2]
section
variable {κ : Type} [DecidableEq κ]
def dGet (kvs : List (κ × Va)) (k : κ) : Option Va := (kvs.find? fun p => decide (p.1 = k)).map (·.2)
def dPut (kvs : List (κ × Va)) (k : κ) (v : Va) : List (κ × Va) := if kvs.any (fun p => decide (p.1 = k)) then kvs.map (fun p => if p.1 = k then (p.1, v) else p) else kvs ++ [(k, v)]
theorem dGet_rep {K : PySem.W.Frag} {ρ : List Addr} {H : Hp} {k : κ} : ∀ {kvs : List (κ × Va)} {ks : List (κ × V)}, ks.map (·.1) = kvs.map (·.1) → RepL K ρ H (kvs.map (·.2)) (ks.map (·.2)) →
    match dGet kvs k with
    | some w => ∃ v, valV ks k = some v ∧ RepV K ρ H w v
    | none => valV ks k = none
  | [], ks, m, r => by
    have : ks = [] := by simpa using m
    subst this; rfl
  | p :: kvs, [], m, _ => by simp at m
  | p :: kvs, q :: ks, m, r => by
    simp only [List.map_cons, List.cons.injEq] at m
    simp only [List.map_cons, RepL] at r
    obtain ⟨v, vs, e, r1, r2⟩ := r
    simp only [List.cons.injEq] at e
    obtain ⟨e1, e2⟩ := e
    subst e1; subst e2
    have ih := dGet_rep (k := k) m.2 r2
    by_cases h : p.1 = k
    · have h' : q.1 = k := m.1.trans h
      have : dGet (p :: kvs) k = some p.2 := by simp [dGet, List.find?_cons, h]
      rw [this]
      exact ⟨q.2, valV_pos h', r1⟩
    · have h' : ¬ q.1 = k := fun z => h (m.1 ▸ z)
      have : dGet (p :: kvs) k = dGet kvs k := by simp [dGet, List.find?_cons, h]
      rw [this, valV_neg h']
      exact ih
theorem any_keys {k : κ} : ∀ {kvs : List (κ × Va)} {ks : List (κ × V)}, ks.map (·.1) = kvs.map (·.1) → (ks.any fun p => decide (p.1 = k)) = (kvs.any fun p => decide (p.1 = k))
  | [], ks, m => by have : ks = [] := by simpa using m
                    subst this; rfl
  | p :: kvs, [], m => by simp at m
  | p :: kvs, q :: ks, m => by
    simp only [List.map_cons, List.cons.injEq] at m
    simp only [List.any_cons, any_keys m.2, m.1]
theorem dPut_rep {K : PySem.W.Frag} {ρ : List Addr} {H : Hp} {k : κ} {w : Va} {v : V} (rw' : RepV K ρ H w v) {kvs : List (κ × Va)} {ks : List (κ × V)} (m : ks.map (·.1) = kvs.map (·.1)) (r : RepL K ρ H (kvs.map (·.2)) (ks.map (·.2))) :
    (putK ks k v).map (·.1) = (dPut kvs k w).map (·.1) ∧ RepL K ρ H ((dPut kvs k w).map (·.2)) ((putK ks k v).map (·.2)) := by
  unfold putK dPut
  rw [any_keys m]
  split
  · rename_i hany; clear hany
    induction kvs generalizing ks with
    | nil =>
      have : ks = [] := by simpa using m
      subst this; exact ⟨rfl, RepL.nil⟩
    | cons p kvs ih =>
      cases ks with
      | nil => simp at m
      | cons q ks =>
        simp only [List.map_cons, List.cons.injEq] at m
        simp only [List.map_cons, RepL] at r
        obtain ⟨v', vs, e, r1, r2⟩ := r
        simp only [List.cons.injEq] at e
        obtain ⟨e1, e2⟩ := e
        subst e1; subst e2
        obtain ⟨i1, i2⟩ := ih m.2 r2
        by_cases h : p.1 = k
        · have h' : q.1 = k := m.1.trans h
          simp only [List.map_cons, h, h', if_true]
          exact ⟨by rw [i1], RepL.cons rw' i2⟩
        · have h' : ¬ q.1 = k := fun z => h (m.1 ▸ z)
          simp only [List.map_cons, h, h', if_false]
          exact ⟨by rw [i1, m.1], RepL.cons r1 i2⟩
  · simp only [List.map_append, m]
    exact ⟨rfl, RepL.append r (RepL.one rw')⟩
end

/-! ### subscripts -/
def pickW (ws : List Va) (i : Int) (st : Sto) : Option (Va × Sto) := (atI ws i).map fun w => (w, st)
/-- a dict's entry -/
def dicAt (o : Ob) (k : Va) : Option (Option Va) := match o, k with
  | .dic kvs, k => (keyOf k).map (dGet kvs)
  | .dit kvs, .tup ks => (keysOf ks).map (dGet kvs)
  | _, _ => none
def gIx (a b : Va) (st : Sto) : Option (Va × Sto) := match a, b with
  | .tup ws, .int i => pickW ws i st
  | .str s, .int i => @ite _ (s.length ≤ 16777216) (Classical.propDecidable _) ((atI s i).map fun c => (.str [c], st)) none
  | .ref n, b => match st[n]?, b with
    | some (.lst ws), .int i => pickW ws i st
    | some (.rol ws), .int i => pickW ws i st
    | some o, k => (dicAt o k).bind fun r => r.map fun w => (w, st)
    | _, _ => none
  | _, _ => none
theorem atI_rep {K : PySem.W.Frag} {ρ : List Addr} {H : Hp} {ws : List Va} {vs : List V} {i : Int} {w : Va} (r : RepL K ρ H ws vs) (e : atI ws i = some w) : ∃ v, atI vs i = some v ∧ RepV K ρ H w v := by
  unfold atI at e ⊢
  rw [← r.length]
  simp only [Option.bind_eq_some_iff] at e ⊢
  obtain ⟨j, e1, e2⟩ := e
  obtain ⟨v, e3, rv⟩ := r.get e2
  exact ⟨v, ⟨j, e1, e3⟩, rv⟩
section
variable {X : Cx} {a b e o : Expr} {es : List Expr} {f1 f2 f fo : Ev} {fs : Evs} {pos p apos cpos : Pos}
/-- what a dict of the store gives: its keys are ints or texts -/
theorem dic_get {K : PySem.W.Frag} {ρ : List Addr} {fm : Fm} {st : Sto} {σ : L2.St} {H : Hp} (R : Rel K ρ fm st σ H) {n : Nat} {v : V} {kvs : List (Key × Va)} (rv : RepV K ρ H (.ref n) v) (h : st[n]? = some (.dic kvs)) :
    ∃ a ks, v = .ref a ∧ ρ[n]? = some a ∧ H a = some (.dK ks) ∧ ks.map (·.1) = kvs.map (·.1) ∧ RepL K ρ H (kvs.map (·.2)) (ks.map (·.2)) := by
  simp only [RepV] at rv
  obtain ⟨a, rfl, e⟩ := rv
  obtain ⟨a', e', ks, hv, m, rl⟩ := R.s.sto n _ h
  rw [e] at e'; cases e'
  exact ⟨a, ks, rfl, e, hv, m, rl⟩
theorem dit_get {K : PySem.W.Frag} {ρ : List Addr} {fm : Fm} {st : Sto} {σ : L2.St} {H : Hp} (R : Rel K ρ fm st σ H) {n : Nat} {v : V} {kvs : List (List Key × Va)} (rv : RepV K ρ H (.ref n) v) (h : st[n]? = some (.dit kvs)) :
    ∃ a ks, v = .ref a ∧ ρ[n]? = some a ∧ H a = some (.dT ks) ∧ ks.map (·.1) = kvs.map (·.1) ∧ RepL K ρ H (kvs.map (·.2)) (ks.map (·.2)) := by
  simp only [RepV] at rv
  obtain ⟨a, rfl, e⟩ := rv
  obtain ⟨a', e', ks, hv, m, rl⟩ := R.s.sto n _ h
  rw [e] at e'; cases e'
  exact ⟨a, ks, rfl, e, hv, m, rl⟩
/-- what a dict gives at a key -/
theorem dic_at {K : PySem.W.Frag} {ρ : List Addr} {fm : Fm} {st : Sto} {σ : L2.St} {H : Hp} (R : Rel K ρ fm st σ H) {n : Nat} {v z : V} {o : Ob} {k : Va} {r : Option Va} (rv : RepV K ρ H (.ref n) v) (h : st[n]? = some o) (rk : RepV K ρ H k z) (e : dicAt o k = some r) :
    ∃ a q, v = .ref a ∧ DGet H a z q ∧ match r with
      | some w => ∃ v, q = some v ∧ RepV K ρ H w v
      | none => q = none := by
  unfold dicAt at e
  split at e
  · rename_i kvs
    simp only [Option.map_eq_some_iff] at e
    obtain ⟨k', ek, er⟩ := e
    obtain ⟨a, ks, rfl, ea, g1, m, r1⟩ := dic_get R rv h
    have hv := keyOf_rep rk ek
    subst hv
    have q := dGet_rep (k := k') m r1
    rw [er] at q
    refine ⟨a, valV ks k', rfl, .inl ⟨ks, k', .inl g1, rfl, rfl⟩, ?_⟩
    cases r with
    | none => exact q
    | some w => exact q
  · rename_i kvs kk
    simp only [Option.map_eq_some_iff] at e
    obtain ⟨k', ek, er⟩ := e
    obtain ⟨a, ks, rfl, ea, g1, m, r1⟩ := dit_get R rv h
    simp only [RepV] at rk
    obtain ⟨b, vs, rfl, hb, rl⟩ := rk
    have hv := keysOf_rep rl ek
    subst hv
    have q := dGet_rep (k := k') m r1
    rw [er] at q
    refine ⟨a, valV ks k', rfl, .inr ⟨ks, k', b, .inl g1, rfl, hb, rfl⟩, ?_⟩
    cases r with
    | none => exact q
    | some w => exact q
  · cases e
theorem de_ix2 (ha : DE X a f1) (hb : DE X b f2) (hu : X.A.units + 1 < cLine) (hs : PlainIx b := by exact fun _ _ => rfl) : DE X (.Subscript a b pos) (eB gIx f1 f2) := PEi (PE.orr (pe_ix ix_seq ha hb hs) (pe_dget hu ha hb hs)) fun σ H Q h => by
  obtain ⟨ρ, fm, st, w, st', R, e, T⟩ := h
  simp only [eB, Option.bind_eq_some_iff] at e
  obtain ⟨⟨x, s1⟩, e1, ⟨y, s2⟩, e2, e3⟩ := e
  dsimp only at e2 e3
  by_cases hd : ∃ (n : Nat) (o : Ob) (q : Va), x = .ref n ∧ s2[n]? = some o ∧ dicAt o y = some (some q) ∧ (w, st') = (q, s2)
  · obtain ⟨n, o, q, rfl, hn, hq, e4⟩ := hd
    cases e4
    refine .inr ⟨ρ, fm, st, _, s1, R, e1, fun ρ1 H1 p1 k1 R1 x rx => ⟨ρ1, fm, s1, y, st', R1, e2, fun ρ2 H2 p2 k2 R2 z rz => ?_⟩⟩
    obtain ⟨a, q', rfl, dg, v, rfl, rv⟩ := dic_at R2 (RepV.mono p2 k2 _ _ rx) hn rz hq
    exact ⟨a, v, rfl, dg, (T.then (List.IsPrefix.trans p1 p2) (k1.trans k2)).same R2 v rv⟩
  · refine .inl ⟨ρ, fm, st, x, s1, R, e1, fun ρ1 H1 p1 k1 R1 u rx => ⟨ρ1, fm, s1, y, s2, R1, e2, fun ρ2 H2 p2 k2 R2 z rz => ?_⟩⟩
    have rx := RepV.mono p2 k2 _ _ rx
    have T := T.then (List.IsPrefix.trans p1 p2) (k1.trans k2)
    unfold gIx at e3
    split at e3
    · simp only [pickW, Option.map_eq_some_iff] at e3
      obtain ⟨q, eq, e4⟩ := e3
      cases e4
      obtain ⟨a, vs, rfl, h1, r1⟩ := tup_of rx
      simp only [RepV] at rz
      obtain ⟨v, ev, rv⟩ := atI_rep r1 eq
      exact .inr (.inl ⟨a, vs, _, v, rfl, rz, h1, ev, T.same R2 v rv⟩)
    · split at e3
      · rename_i s i hz
        simp only [Option.map_eq_some_iff] at e3
        obtain ⟨q, eq, e4⟩ := e3
        cases e4
        simp only [RepV] at rx rz
        exact .inr (.inr ⟨_, _, q, rx, rz, by rw [slen, sizeLine_eq]; exact hz, by simpa using eq, T.same R2 _ repS⟩)
      · cases e3
    · split at e3
      · rename_i h1
        simp only [pickW, Option.map_eq_some_iff] at e3
        obtain ⟨q, eq, e4⟩ := e3
        cases e4
        obtain ⟨a, vs, rfl, ea, g1, r1⟩ := lst_of R2 rx h1
        simp only [RepV] at rz
        obtain ⟨v, ev, rv⟩ := atI_rep r1 eq
        exact .inl ⟨a, vs, _, v, rfl, rz, SqL.of g1, ev, T.same R2 v rv⟩
      · rename_i h1
        simp only [pickW, Option.map_eq_some_iff] at e3
        obtain ⟨q, eq, e4⟩ := e3
        cases e4
        obtain ⟨a, vs, rfl, ea, g1, r1⟩ := rol_of R2 rx h1
        simp only [RepV] at rz
        obtain ⟨v, ev, rv⟩ := atI_rep r1 eq
        exact .inl ⟨a, vs, _, v, rfl, rz, g1, ev, T.same R2 v rv⟩
      · rename_i o ho _ _
        simp only [Option.bind_eq_some_iff, Option.map_eq_some_iff] at e3
        obtain ⟨r, er, q, rfl, e4⟩ := e3
        exact absurd ⟨_, o, q, rfl, ho, er, e4.symm⟩ hd
      · cases e3
    · cases e3
end

/-! ### iterators -/
def strW (s : List Nat) : List Va := s.map fun c => .str [c]
def srcOf (w : Va) (st : Sto) : Option Src := match w with
  | .tup ws => some ⟨ws, fun _ => True⟩
  | .ktp ws => some ⟨ws, fun _ => True⟩
  | .str s => some ⟨strW s, fun _ => True⟩
  | .ref n => match st[n]? with
    | some (.lst ws) => some ⟨ws, fun st => st[n]? = some (.lst ws)⟩
    | some (.rol ws) => some ⟨ws, fun st => st[n]? = some (.rol ws)⟩
    | _ => none
  | _ => none
def iA (f : Ev) : Fi := fun fm st => (f fm st).bind fun p => (srcOf p.1 p.2).map fun S => (S, p.2)
def rngW (lo : Int) (n : Nat) : List Va := (List.range n).map fun (k : Nat) => Va.int (lo + (k : Int))
def iR1 (g : Ev) : Fi := fun fm st => (g fm st).bind fun p => match p.1 with
  | .int j => @ite _ (-1000000000 ≤ j ∧ j < 1000000000) (Classical.propDecidable _) (some (⟨rngW 0 j.toNat, fun _ => True⟩, p.2)) none
  | _ => none
def iR2 (f g : Ev) : Fi := fun fm st => (f fm st).bind fun p => (g fm p.2).bind fun q => match p.1, q.1 with
  | .int i, .int j => @ite _ (-1000000000 ≤ i ∧ i < 1000000000 ∧ -1000000000 ≤ j ∧ j < 1000000000) (Classical.propDecidable _) (some (⟨rngW i (j - i).toNat, fun _ => True⟩, q.2)) none
  | _, _ => none
theorem jok_range {K : PySem.W.Frag} {ρ : List Addr} {H : Hp} {lo : Int} {n : Nat} : JOk K ρ H ⟨rngW lo n, fun _ => True⟩ (Itr lo n) := by
  intro i ρ' fm st σ H' hp hk R _
  refine ⟨fun w hw => ⟨?_, fun x H2 ⟨e1, e2⟩ => ?_⟩, fun e => ?_⟩
  · have := (List.getElem?_eq_some_iff.mp hw).1
    simp [rngW] at this
    exact this
  · subst e1; subst e2
    refine ⟨fun _ _ h => h, Kp.refl, ?_⟩
    simp only [rngW, List.getElem?_map, Option.map_eq_some_iff] at hw
    obtain ⟨k, hk, rfl⟩ := hw
    have hl := (List.getElem?_eq_some_iff.mp hk)
    simp at hl
    obtain ⟨h1, h2⟩ := hl
    subst h2
    simp only [RepV]
  · simp [rngW] at e
    show n ≤ i
    omega
theorem jok_list {K : PySem.W.Frag} {ρ : List Addr} {H : Hp} {n : Nat} {a : Addr} {ws : List Va} (ha : ρ[n]? = some a) : JOk K ρ H ⟨ws, fun st => st[n]? = some (.lst ws)⟩ (Itl K a) := by
  intro i ρ' fm st σ H' hp hk R hg
  obtain ⟨b, vs, e, ea, g1, r1⟩ := lst_of R (v := .ref a) (by simp only [RepV]; exact ⟨a, rfl, pre_get hp ha⟩) hg
  cases e
  refine ⟨fun w hw => ?_, fun e => ⟨vs, SqL.of g1, by rw [← r1.length]; simp [e]⟩⟩
  obtain ⟨v, hv, rv⟩ := r1.get hw
  refine ⟨⟨vs, v, SqL.of g1, hv⟩, fun x H2 ⟨e1, e2⟩ => ?_⟩
  subst e1
  have := e2 vs (SqL.of g1)
  rw [hv] at this; cases this
  exact ⟨fun _ _ h => h, Kp.refl, rv⟩
theorem jok_rol {K : PySem.W.Frag} {ρ : List Addr} {H : Hp} {n : Nat} {a : Addr} {ws : List Va} (ha : ρ[n]? = some a) : JOk K ρ H ⟨ws, fun st => st[n]? = some (.rol ws)⟩ (Itl K a) := by
  intro i ρ' fm st σ H' hp hk R hg
  obtain ⟨b, vs, e, ea, g1, r1⟩ := rol_of R (v := .ref a) (by simp only [RepV]; exact ⟨a, rfl, pre_get hp ha⟩) hg
  cases e
  refine ⟨fun w hw => ?_, fun e => ⟨vs, g1, by rw [← r1.length]; simp [e]⟩⟩
  obtain ⟨v, hv, rv⟩ := r1.get hw
  refine ⟨⟨vs, v, g1, hv⟩, fun x H2 ⟨e1, e2⟩ => ?_⟩
  subst e1
  have := e2 vs g1
  rw [hv] at this; cases this
  exact ⟨fun _ _ h => h, Kp.refl, rv⟩
theorem jok_tup {K : PySem.W.Frag} {ρ : List Addr} {H : Hp} {a : Addr} {ws : List Va} {vs : List V} (h : H a = some (.tup vs) ∨ SqT K (fun _ => none) a vs) (r : RepL K ρ H ws vs) : JOk K ρ H ⟨ws, fun _ => True⟩ (Itt K a) := by
  intro i ρ' fm st σ H' hp hk R _
  have g1 : SqT K H' a vs := h.elim (fun h => SqT.of (hk _ _ h)) SqT.const
  have r1 := RepL.mono hp hk _ _ r
  refine ⟨fun w hw => ?_, fun e => ⟨vs, g1, by rw [← r1.length]; simp [e]⟩⟩
  obtain ⟨v, hv, rv⟩ := r1.get hw
  refine ⟨⟨vs, v, g1, hv⟩, fun x H2 ⟨e1, e2⟩ => ?_⟩
  subst e1
  have := e2 vs g1
  rw [hv] at this; cases this
  exact ⟨fun _ _ h => h, Kp.refl, rv⟩
theorem jok_str {K : PySem.W.Frag} {ρ : List Addr} {H : Hp} {s : List Nat} : JOk K ρ H ⟨strW s, fun _ => True⟩ (Its ⟨s.toArray⟩) := by
  intro i ρ' fm st σ H' hp hk R _
  refine ⟨fun w hw => ⟨?_, fun x H2 ⟨e1, c, e2, e3⟩ => ?_⟩, fun e => ?_⟩
  · have := (List.getElem?_eq_some_iff.mp hw).1
    show i < s.toArray.size
    simpa [strW] using this
  · subst e1; subst e3
    simp only [strW, List.getElem?_map, Option.map_eq_some_iff] at hw
    obtain ⟨k, hk, rfl⟩ := hw
    have : c = k := by simpa [hk] using e2.symm
    subst this
    exact ⟨fun _ _ h => h, Kp.refl, by simp only [RepV]⟩
  · simp [strW] at e
    show s.toArray.size ≤ i
    simp [e]
section
variable {X : Cx} {tg e a b : Expr} {f g : Ev} {fs : Evs} {p pos : Pos}
theorem di_a (he : DE X e f) : DI X tg e (iA f) := PIi (PI.orr (pi_list he) (PI.orr (pi_tup he) (pi_str he))) fun σ H R h => by
  obtain ⟨ρ, fm, st, S, st', Rr, e, T⟩ := h
  simp only [iA, Option.bind_eq_some_iff, Option.map_eq_some_iff] at e
  obtain ⟨⟨w, s1⟩, e1, S', e2, e3⟩ := e
  cases e3
  dsimp only at e2 T
  unfold srcOf at e2
  split at e2
  · cases e2
    refine .inr (.inl ⟨ρ, fm, st, _, s1, Rr, e1, fun ρ1 H1 p1 k1 R1 x rx => ?_⟩)
    simp only [RepV] at rx
    obtain ⟨a, vs, rfl, h1, r1⟩ := rx
    exact ⟨a, rfl, ⟨vs, SqT.of h1⟩, T ρ1 H1 p1 k1 R1 _ (jok_tup (.inl h1) r1)⟩
  · cases e2
    refine .inr (.inl ⟨ρ, fm, st, _, s1, Rr, e1, fun ρ1 H1 p1 k1 R1 x rx => ?_⟩)
    simp only [RepV] at rx
    obtain ⟨a, vs, rfl, h1, r1⟩ := rx
    exact ⟨a, rfl, ⟨vs, SqT.const h1⟩, T ρ1 H1 p1 k1 R1 _ (jok_tup (.inr h1) r1)⟩
  · cases e2
    refine .inr (.inr ⟨ρ, fm, st, _, s1, Rr, e1, fun ρ1 H1 p1 k1 R1 x rx => ?_⟩)
    simp only [RepV] at rx
    exact ⟨_, rx, T ρ1 H1 p1 k1 R1 _ jok_str⟩
  · split at e2
    · rename_i hn
      cases e2
      refine .inl ⟨ρ, fm, st, _, s1, Rr, e1, fun ρ1 H1 p1 k1 R1 x rx => ?_⟩
      obtain ⟨a, vs, rfl, ea, g1, r1⟩ := lst_of R1 rx hn
      exact ⟨a, rfl, ⟨vs, SqL.of g1⟩, T ρ1 H1 p1 k1 R1 _ (jok_list ea)⟩
    · rename_i hn
      cases e2
      refine .inl ⟨ρ, fm, st, _, s1, Rr, e1, fun ρ1 H1 p1 k1 R1 x rx => ?_⟩
      obtain ⟨a, vs, rfl, ea, g1, r1⟩ := rol_of R1 rx hn
      exact ⟨a, rfl, ⟨vs, g1⟩, T ρ1 H1 p1 k1 R1 _ (jok_rol ea)⟩
    · cases e2
  · cases e2
theorem di_r1 (hg : Gl X "range") (hm : X.mg "range" = none) (ha : DE X a f) (hs : starEach [a] X.env = [(false, eval a X.env)] := by rfl) : DI X tg (.Call (.Name "range" p) [a] [] pos) (iR1 f) := PIi (pi_range1 hg hm (da_cons ha da_nil hs) hs) fun σ H R h => by
  obtain ⟨ρ, fm, st, S, st', Rr, e, T⟩ := h
  simp only [iR1, Option.bind_eq_some_iff] at e
  obtain ⟨⟨w, s1⟩, e1, e2⟩ := e
  dsimp only at e2
  refine ⟨ρ, fm, st, [w], s1, Rr, by simp [aC, aN, e1], fun ρ1 H1 p1 k1 R1 xs rx => ?_⟩
  split at e2
  · split at e2
    · rename_i hz
      cases e2
      simp only [RepL, RepV] at rx
      obtain ⟨v, r, rfl, rfl, rfl⟩ := rx
      exact ⟨_, rfl, by omega, by omega, T ρ1 H1 p1 k1 R1 _ jok_range⟩
    · cases e2
  · cases e2
theorem di_r2 (hg : Gl X "range") (hm : X.mg "range" = none) (ha : DE X a f) (hb : DE X b g) (hs : starEach [a, b] X.env = [(false, eval a X.env), (false, eval b X.env)] := by rfl) (hs2 : starEach [b] X.env = [(false, eval b X.env)] := by rfl) : DI X tg (.Call (.Name "range" p) [a, b] [] pos) (iR2 f g) := PIi (pi_range2 hg hm (da_cons ha (da_cons hb da_nil hs2) (by rw [hs, hs2])) hs hs2) fun σ H R h => by
  obtain ⟨ρ, fm, st, S, st', Rr, e, T⟩ := h
  simp only [iR2, Option.bind_eq_some_iff] at e
  obtain ⟨⟨w, s1⟩, e1, ⟨w2, s2⟩, e2, e3⟩ := e
  dsimp only at e2 e3
  refine ⟨ρ, fm, st, [w, w2], s2, Rr, by simp [aC, aN, e1, e2], fun ρ1 H1 p1 k1 R1 xs rx => ?_⟩
  split at e3
  · split at e3
    · rename_i hz
      cases e3
      simp only [RepL, RepV] at rx
      obtain ⟨v, r, rfl, rfl, v2, r2, rfl, rfl, rfl⟩ := rx
      exact ⟨_, _, rfl, ⟨by omega, by omega, by omega, by omega⟩, T ρ1 H1 p1 k1 R1 _ jok_range⟩
    · cases e3
  · cases e3
end

/-! ### comprehensions -/
def wip (fm : Fm) : List Nat → Fm
  | [] => fm
  | v :: vs => (wip fm vs).set v none
theorem wip_len (fm : Fm) : ∀ vs, (wip fm vs).length = fm.length
  | [] => rfl
  | v :: vs => by unfold wip; rw [List.length_set, wip_len fm vs]
theorem wip_get {fm : Fm} {i : Nat} {w : Va} : ∀ {vs : List Nat}, (wip fm vs)[i]? = some (some w) → fm[i]? = some (some w) ∧ i ∉ vs
  | [], h => ⟨h, by simp⟩
  | v :: vs, h => by
    unfold wip at h
    by_cases e : v = i
    · subst e
      by_cases hl : v < (wip fm vs).length
      · rw [List.getElem?_set_self hl] at h; cases h
      · rw [List.getElem?_eq_none_iff.mpr (by rw [List.length_set]; omega)] at h; cases h
    · rw [List.getElem?_set_ne e] at h
      obtain ⟨a, b⟩ := wip_get h
      exact ⟨a, by simp [b]; exact fun z => e z.symm⟩
theorem wipe_get {σ : L2.St} {i : Nat} : ∀ {vs : List Nat}, i ∉ vs → (wipe σ vs)[i]? = σ[i]?
  | [], _ => rfl
  | v :: vs, h => by
    have h1 : v ≠ i := fun z => h (by simp [z])
    have h2 : i ∉ vs := fun z => h (List.mem_cons_of_mem _ z)
    unfold wipe
    rw [List.getElem?_set_ne h1]
    exact wipe_get h2
theorem wipe_in {σ : L2.St} {i : Nat} (hi : i < σ.length) : ∀ {vs : List Nat}, i ∈ vs → (wipe σ vs)[i]? = some none
  | [], h => by cases h
  | v :: vs, h => by
    unfold wipe
    by_cases e : v = i
    · subst e; exact List.getElem?_set_self (by rw [wipe_length]; exact hi)
    · rw [List.getElem?_set_ne e]
      exact wipe_in hi (by rcases List.mem_cons.mp h with h | h; exact absurd h.symm e; exact h)
theorem wipe_wipe (σ : L2.St) (vs : List Nat) : wipe (wipe σ vs) vs = wipe σ vs := by
  apply List.ext_getElem?
  intro i
  by_cases hi : i < σ.length
  · by_cases hv : i ∈ vs
    · rw [wipe_in (by rw [wipe_length]; exact hi) hv, wipe_in hi hv]
    · rw [wipe_get hv, wipe_get hv]
  · rw [List.getElem?_eq_none_iff.mpr (by rw [wipe_length, wipe_length]; omega), List.getElem?_eq_none_iff.mpr (by rw [wipe_length]; omega)]
theorem ERel.wip {K : PySem.W.Frag} {ρ : List Addr} {fm : Fm} {σ : L2.St} {H : Hp} (h : ERel K ρ fm σ H) (vs : List Nat) : ERel K ρ (wip fm vs) (wipe σ vs) H :=
  ⟨by rw [wip_len, wipe_length]; exact h.1, fun i w e => by
    obtain ⟨a, b⟩ := wip_get e
    obtain ⟨v, hv, rv⟩ := h.2 i w a
    exact ⟨v, by rw [wipe_get b]; exact hv, rv⟩⟩
section
open Classical
noncomputable def lcL (gd : Sto → Prop) (fg : Fg) (ft : Et) (fe : Ev) (n : Nat) : List Va → Fm → Sto → Option Sto
  | [] => fun _ st => if gd st then some st else none
  | w :: ws => fun fm st => if gd st then (fg w fm).bind fun fm1 => (ft fm1 st).bind fun b => if b.1 = true then (fe fm1 b.2).bind fun y => match y.2[n]? with
      | some (.lst acc) => @ite _ (acc.length < 16777216) (Classical.propDecidable _) (lcL gd fg ft fe n ws fm (y.2.set n (.lst (acc ++ [y.1])))) none
      | _ => none else lcL gd fg ft fe n ws fm b.2 else none
noncomputable def eLc (fi : Fi) (fg : Fg) (ft : Et) (fe : Ev) (vs : List Nat) : Ev := fun fm st => (fi fm st).bind fun r => (lcL r.1.gd fg ft fe r.2.length r.1.ws (wip fm vs) (r.2 ++ [.lst []])).map fun st' => (.ref r.2.length, st')
end
def bYes : Et := fun _ st => some (true, st)
abbrev DTs (X : Cx) (ifs : List Expr) (f : Et) : Prop := PTs X ifs (tDt X.K f)
theorem dts_nil {X : Cx} : DTs X [] bYes := ⟨fun pins s σ H Q I h => by
  obtain ⟨ρ, fm, st, b, st', R, e, T⟩ := h
  cases e
  exact pts_nil.run pins s σ H Q I (T.same R)⟩
theorem dts_one {X : Cx} {c : Expr} {f : Et} (h : DT X c f) : DTs X [c] f := pts_one h
theorem tLc_of {K : PySem.W.Frag} {fi : Fi} {fg : Fg} {ft : Et} {fe : Ev} {is vs : List Nat} (hsub : ∀ i ∈ is, i ∈ vs) {σ : L2.St} {H : Hp} {Q : VK} (h : tD K (eLc fi fg ft fe vs) σ H Q) : tLc (tI K fi) (tG K is fg) (tDt K ft) (tD K fe) vs σ H Q := by
  obtain ⟨ρ, fm, st, w, st', R, e, T⟩ := h
  simp only [eLc, Option.bind_eq_some_iff, Option.map_eq_some_iff] at e
  obtain ⟨⟨S, s1⟩, e1, st'', e2, e3⟩ := e
  cases e3
  dsimp only at e2 T
  refine ⟨ρ, fm, st, S, s1, R, e1, fun ρ1 H1 p1 k1 R1 J hJ D hD => ?_⟩
  have hk0 : Kp K H1 (upd H1 D (.lst [])) := Kp.new hD
  have hlen : ρ1.length = s1.length := R1.s.rl
  have R2 : Rel K (ρ1 ++ [D]) fm (s1 ++ [.lst []]) σ (upd H1 D (.lst [])) := R1.mono (List.prefix_append _ _) hk0 (R1.s.push hD (o := .lst []) ⟨[], upd_same, RepL.nil⟩)
  have hDn : (ρ1 ++ [D])[s1.length]? = some D := by rw [← hlen, List.getElem?_append_right (Nat.le_refl _)]; simp
  refine ⟨fun i m H2 => i + m = S.ws.length ∧ ∃ ρ2 st2, (ρ1 ++ [D]) <+: ρ2 ∧ Kp K H1 H2 ∧ SRel K ρ2 st2 H2 ∧ lcL S.gd fg ft fe s1.length (S.ws.drop i) (wip fm vs) st2 = some st', ⟨S.ws.length, by omega, _, _, List.prefix_refl _, hk0, R2.s, by simpa using e2⟩, ?_⟩
  rintro i m H2 ⟨hm, ρ2, st2, p2, k2, S2, e3⟩
  have P2 := List.IsPrefix.trans (List.prefix_append ρ1 [D]) p2
  have E2 : ERel K ρ2 fm σ H2 := R1.e.mono P2 k2
  by_cases hi : i < S.ws.length
  · refine .inr ?_
    have hd : S.ws.drop i = S.ws[i] :: S.ws.drop (i + 1) := List.drop_eq_getElem_cons hi
    rw [hd] at e3
    simp only [lcL] at e3
    split at e3
    · rename_i hgd
      obtain ⟨hgo, _⟩ := hJ i ρ2 _ st2 _ H2 P2 k2 ⟨S2, E2⟩ hgd
      obtain ⟨go, yld⟩ := hgo S.ws[i] (List.getElem?_eq_getElem hi)
      simp only [Option.bind_eq_some_iff] at e3
      obtain ⟨fm3, e4, ⟨b, s5⟩, e5, e6⟩ := e3
      dsimp only at e6
      refine ⟨go, fun H3 => ∃ ρ3 st3, (ρ1 ++ [D]) <+: ρ3 ∧ Kp K H1 H3 ∧ SRel K ρ3 st3 H3 ∧ lcL S.gd fg ft fe s1.length (S.ws.drop (i + 1)) (wip fm vs) st3 = some st', fun H3 h3 => ⟨m - 1, by omega, by omega, h3⟩, fun x H3 hy => ?_⟩
      obtain ⟨sm, k3, rx⟩ := yld x H3 hy
      have S3 := S2.same sm k3
      have E3 := (E2.mono (List.prefix_refl _) k3).wip vs
      refine ⟨ρ2, _, st2, S.ws[i], fm3, ⟨S3, E3⟩, rx, e4, fun σ4 R4 hw => ⟨(hw vs hsub).trans (wipe_wipe σ vs), ?_⟩⟩
      refine ⟨ρ2, fm3, st2, b, s5, R4, e5, fun ρ5 H5 p5 k5 R5 => ?_⟩
      cases b with
      | false =>
        rw [if_neg Bool.false_ne_true] at e6 ⊢
        exact ⟨ρ5, s5, List.IsPrefix.trans p2 p5, k2.trans (k3.trans k5), R5.s, e6⟩
      | true =>
        rw [if_pos rfl] at e6 ⊢
        simp only [Option.bind_eq_some_iff] at e6
        obtain ⟨⟨y, s6⟩, e7, e8⟩ := e6
        dsimp only at e8
        refine ⟨ρ5, fm3, s5, y, s6, R5, e7, fun ρ6 H6 p6 k6 R6 z rz => ?_⟩
        split at e8
        · rename_i acc hacc
          split at e8
          · rename_i hz
            have hDn6 : ρ6[s1.length]? = some D := pre_get (List.IsPrefix.trans p2 (List.IsPrefix.trans p5 p6)) hDn
            obtain ⟨a, vsx, ea, ea2, g1, r1⟩ := lst_of R6 (v := .ref D) (by simp only [RepV]; exact ⟨D, rfl, hDn6⟩) hacc
            cases ea
            refine ⟨vsx, g1, by rw [← r1.length, sizeLine_eq]; exact hz, ?_⟩
            have hk7 : Kp K H6 (upd H6 D (.lst (vsx ++ [z]))) := Kp.upd (fun xs q => by rw [g1] at q; cases q)
            obtain ⟨S7, k7⟩ := R6.s.write (o' := .lst (acc ++ [y])) hacc hDn6 rfl rfl ⟨_, upd_same, RepL.mono (List.prefix_refl _) hk7 _ _ (r1.append (RepL.one rz))⟩
            exact ⟨ρ6, _, List.IsPrefix.trans p2 (List.IsPrefix.trans p5 p6), k2.trans (k3.trans (k5.trans (k6.trans k7))), S7, e8⟩
          · cases e8
        · cases e8
    · cases e3
  · have ei : i = S.ws.length := by omega
    refine .inl ?_
    rw [ei, List.drop_length] at e3
    simp only [lcL] at e3
    split at e3
    · rename_i hgd
      obtain ⟨_, stop⟩ := hJ i ρ2 _ st2 _ H2 P2 k2 ⟨S2, E2⟩ hgd
      cases e3
      refine ⟨stop ei, T ρ2 H2 (List.IsPrefix.trans p1 P2) (k1.trans k2) ⟨S2, E2⟩ (.ref D) ?_⟩
      simp only [RepV]
      exact ⟨D, rfl, pre_get p2 hDn⟩
    · cases e3
section
variable {X : Cx} {elt tg iter : Expr} {ifs : List Expr} {scope : Scope} {own : List (Str × Nat)} {pos : Pos} {fi : Fi} {fg : Fg} {ft : Et} {fe : Ev} {is : List Nat}
theorem de_lc (vs : List Nat) (hc : X.calm = true) (hN : X.N.Nodup) (hi : DI X tg iter fi) (ok : BlkOk X.N X.env.scope scope own)
    (hg : ∀ (s : Shared) (H : Hp) (C : Addr) (cl : List (Str × Addr)) (fp : List Addr), DG (X.blk s H scope (compEnvC scope cl C X.env) fp) tg is fg) (ht : ∀ (s : Shared) (H : Hp) (C : Addr) (cl : List (Str × Addr)) (fp : List Addr), DTs (X.blk s H scope (compEnvC scope cl C X.env) fp) ifs ft)
    (he : ∀ (s : Shared) (H : Hp) (C : Addr) (cl : List (Str × Addr)) (fp : List Addr), DE (X.blk s H scope (compEnvC scope cl C X.env) fp) elt fe) (hvs : own.map (·.2) = vs) (hsub : ∀ i ∈ is, i ∈ vs) (hs : ∀ x, foldedSetIterable iter X.env x = pure x := by intro _; rfl) :
    DE X (.ListComp elt [⟨tg, iter, ifs, 0⟩] scope pos) (eLc fi fg ft fe vs) := PEi (pe_lc hc hN hi ok hg ht he hs) fun _ _ _ h => by rw [hvs]; exact tLc_of hsub h
theorem ds_lc (vs : List Nat) {i : Nat} {y : Str} {py spos : Pos} (hc : X.calm = true) (hN : X.N.Nodup) (hy : X.N[i]? = some y) (hyl : X.env.scope.names.lookup y = some .local)
    (hsw : swapsWith (.ListComp elt [⟨tg, iter, ifs, 0⟩] scope pos) (some (.Name y py)) spos.line X.env = pure true) (hi : DI X tg iter fi) (ok : BlkOk X.N X.env.scope scope own)
    (hg : ∀ (s : Shared) (H : Hp) (C : Addr) (cl : List (Str × Addr)) (fp : List Addr), DG (X.blk s H scope (compEnvC scope cl C X.env) fp) tg is fg) (ht : ∀ (s : Shared) (H : Hp) (C : Addr) (cl : List (Str × Addr)) (fp : List Addr), DTs (X.blk s H scope (compEnvC scope cl C X.env) fp) ifs ft)
    (he : ∀ (s : Shared) (H : Hp) (C : Addr) (cl : List (Str × Addr)) (fp : List Addr), DE (X.blk s H scope (compEnvC scope cl C X.env) fp) elt fe) (hvs : own.map (·.2) = vs) (hsub : ∀ i ∈ is, i ∈ vs) (hs : ∀ x, foldedSetIterable iter X.env x = pure x := by intro _; rfl) :
    DS X (.Assign [.Name y py] (.ListComp elt [⟨tg, iter, ifs, 0⟩] scope pos) spos) (sSet i (eLc fi fg ft fe vs)) := PSi (ps_setLc hc hN hy hyl hsw hi ok hg ht he hs) fun D σ H h => by
  obtain ⟨ρ, fm, st, fl, fm', st', R, e, T⟩ := h
  simp only [sSet, Option.bind_eq_some_iff] at e
  obtain ⟨⟨w, s1⟩, e1, e2⟩ := e
  cases e2
  rw [hvs]
  exact tLc_of hsub ⟨ρ, fm, st, w, _, R, e1, fun ρ1 H1 p1 k1 R1 v rv => T ρ1 H1 _ p1 k1 ⟨R1.s, R1.e.set rv⟩⟩
end
end
end T3
/-! T3, sixth part: built-ins, methods, dicts, slices -/
namespace T3
open PySem PySem.Spec PyProof.Rows L2
noncomputable section

/-! ### built-ins -/
def lenW (w : Va) (st : Sto) : Option Nat := match w with
  | .str s => @ite _ (s.length ≤ 16777216) (Classical.propDecidable _) (some s.length) none
  | .tup ws => some ws.length
  | .ktp ws => some ws.length
  | .ref n => match st[n]? with
    | some (.lst ws) => some ws.length
    | some (.rol ws) => some ws.length
    | some (.dic kvs) => some kvs.length
    | _ => none
  | _ => none
def gLen (ws : List Va) (st : Sto) : Option (Va × Sto) := match ws with
  | [w] => (lenW w st).map fun n => (.int n, st)
  | _ => none
def gInt (ws : List Va) (st : Sto) : Option (Va × Sto) := match ws with
  | [.int i] => some (.int i, st)
  | [.bl b] => some (.int (if b then 1 else 0), st)
  | _ => none
def gOrd (ws : List Va) (st : Sto) : Option (Va × Sto) := match ws with
  | [.str [c]] => some (.int c, st)
  | _ => none
def gMin (ws : List Va) (st : Sto) : Option (Va × Sto) := match ws with
  | [.int i, .int j] => some (.int (if j < i then j else i), st)
  | _ => none
def gMax (ws : List Va) (st : Sto) : Option (Va × Sto) := match ws with
  | [.int i, .int j] => some (.int (if j > i then j else i), st)
  | _ => none
def gAbs (ws : List Va) (st : Sto) : Option (Va × Sto) := match ws with
  | [.int i] => some (.int (if i < 0 then -i else i), st)
  | _ => none
def intsOf : List Va → Option (List Int)
  | [] => some []
  | .int i :: ws => (intsOf ws).map (i :: ·)
  | _ => none
def blsOf : List Va → Option (List Bool)
  | [] => some []
  | .bl i :: ws => (blsOf ws).map (i :: ·)
  | _ => none
def strsOf : List Va → Option (List (List Nat))
  | [] => some []
  | .str i :: ws => (strsOf ws).map (i :: ·)
  | _ => none
/-- the items of a list of the store -/
def itemsOf (w : Va) (st : Sto) : Option (List Va) := match w with
  | .ref n => match st[n]? with
    | some (.lst ws) => some ws
    | some (.rol ws) => some ws
    | _ => none
  | _ => none
def gSum (ws : List Va) (st : Sto) : Option (Va × Sto) := match ws with
  | [w] => (itemsOf w st).bind fun xs => (intsOf xs).map fun ns => (.int ns.sum, st)
  | _ => none
def gAll (ws : List Va) (st : Sto) : Option (Va × Sto) := match ws with
  | [w] => (itemsOf w st).bind fun xs => (blsOf xs).map fun ns => (.bl (ns.all id), st)
  | _ => none
def gAny (ws : List Va) (st : Sto) : Option (Va × Sto) := match ws with
  | [w] => (itemsOf w st).bind fun xs => (blsOf xs).map fun ns => (.bl (ns.any id), st)
  | _ => none
def gTuple (ws : List Va) (st : Sto) : Option (Va × Sto) := match ws with
  | [.tup ws] => some (.tup ws, st)
  | [w] => (itemsOf w st).map fun xs => (.tup xs, st)
  | _ => none
def gList (ws : List Va) (st : Sto) : Option (Va × Sto) := match ws with
  | [.str s] => @ite _ (s.length ≤ 16777216) (Classical.propDecidable _) (some (.ref st.length, st ++ [.lst (strW s)])) none
  | [.tup ws] => some (.ref st.length, st ++ [.lst ws])
  | [.ktp ws] => some (.ref st.length, st ++ [.lst ws])
  | [w] => (itemsOf w st).map fun xs => (.ref st.length, st ++ [.lst xs])
  | _ => none
/-- the class of a value -/
def tyN (w : Va) (st : Sto) : Option String := match w with
  | .non => some "NoneType"
  | .bl _ => some "bool"
  | .int _ => some "int"
  | .str _ => some "str"
  | .tup _ => some "tuple"
  | .ref n => match st[n]? with
    | some (.lst _) => some "list"
    | some (.dic _) => some "dict"
    | some (.dit _) => some "dict"
    | _ => none
  | _ => none
def gIsi (ws : List Va) (st : Sto) : Option (Va × Sto) := match ws with
  | [w, .ty n] => (tyN w st).bind fun t => (kitB t n).map fun b => (.bl b, st)
  | _ => none
section
variable {K : PySem.W.Frag} {ρ : List Addr} {H : Hp} {fm : Fm} {st : Sto} {σ : L2.St}
theorem ints_rep : ∀ {ws : List Va} {ns : List Int} {vs : List V}, intsOf ws = some ns → RepL K ρ H ws vs → vs = ns.map V.int
  | [], _, _, e, r => by cases e; simp only [RepL] at r; exact r
  | w :: ws, _, _, e, r => by
    simp only [RepL] at r
    obtain ⟨v, vs, rfl, r1, r2⟩ := r
    cases w <;> simp [intsOf] at e
    obtain ⟨ns, e, rfl⟩ := e
    simp only [RepV] at r1
    rw [r1, ints_rep e r2]; rfl
theorem bls_rep : ∀ {ws : List Va} {ns : List Bool} {vs : List V}, blsOf ws = some ns → RepL K ρ H ws vs → vs = ns.map V.bl
  | [], _, _, e, r => by cases e; simp only [RepL] at r; exact r
  | w :: ws, _, _, e, r => by
    simp only [RepL] at r
    obtain ⟨v, vs, rfl, r1, r2⟩ := r
    cases w <;> simp [blsOf] at e
    obtain ⟨ns, e, rfl⟩ := e
    simp only [RepV] at r1
    rw [r1, bls_rep e r2]; rfl
theorem strs_rep : ∀ {ws : List Va} {ns : List (List Nat)} {vs : List V}, strsOf ws = some ns → RepL K ρ H ws vs → vs = (ns.map fun s => (⟨s.toArray⟩ : Str)).map V.str
  | [], _, _, e, r => by cases e; simp only [RepL] at r; exact r
  | w :: ws, _, _, e, r => by
    simp only [RepL] at r
    obtain ⟨v, vs, rfl, r1, r2⟩ := r
    cases w <;> simp [strsOf] at e
    obtain ⟨ns, e, rfl⟩ := e
    simp only [RepV] at r1
    rw [r1, strs_rep e r2]; rfl
theorem items_rep {w : Va} {v : V} {xs : List Va} (R : Rel K ρ fm st σ H) (r : RepV K ρ H w v) (e : itemsOf w st = some xs) : ∃ a vs, v = .ref a ∧ SqL K H a vs ∧ RepL K ρ H xs vs := by
  unfold itemsOf at e
  split at e
  · split at e
    · rename_i h
      cases e
      obtain ⟨a, vs, rfl, _, g, rl⟩ := lst_of R r h
      exact ⟨a, vs, rfl, SqL.of g, rl⟩
    · rename_i h
      cases e
      obtain ⟨a, vs, rfl, _, g, rl⟩ := rol_of R r h
      exact ⟨a, vs, rfl, g, rl⟩
    · cases e
  · cases e
theorem rep1 {w : Va} {vs : List V} (r : RepL K ρ H [w] vs) : ∃ v, vs = [v] ∧ RepV K ρ H w v := by
  simp only [RepL] at r
  obtain ⟨v, r, rfl, h, rfl⟩ := r
  exact ⟨v, rfl, h⟩
theorem rep2 {w x : Va} {vs : List V} (r : RepL K ρ H [w, x] vs) : ∃ v u, vs = [v, u] ∧ RepV K ρ H w v ∧ RepV K ρ H x u := by
  simp only [RepL] at r
  obtain ⟨v, r, rfl, h, u, r', rfl, h', rfl⟩ := r
  exact ⟨v, u, rfl, h, h'⟩
end
section
variable {X : Cx} {e : Expr} {es : List Expr} {fs : Evs} {p pos : Pos}
theorem cLen : ∃ r, CallR X (.builtin "len") r ∧ ML X.K gLen r := by
  refine ⟨_, call_len.or call_lenD, ?_⟩
  intro ρ fm st σ H ws vs w st' Q R rl e T
  unfold gLen at e
  split at e
  · simp only [Option.map_eq_some_iff] at e
    obtain ⟨n, e, e2⟩ := e
    cases e2
    obtain ⟨v, rfl, rv⟩ := rep1 rl
    unfold lenW at e
    split at e
    · split at e
      · rename_i hz
        cases e
        simp only [RepV] at rv; subst rv
        exact .inl ⟨_, _, rfl, ⟨by rw [slen, sizeLine_eq]; exact hz, (slen _).symm⟩, T.same R _ repI⟩
      · cases e
    · cases e
      obtain ⟨a, vs, rfl, h1, r1⟩ := tup_of rv
      exact .inl ⟨_, _, rfl, .inr ⟨vs, h1, r1.length⟩, T.same R _ repI⟩
    · cases e
      obtain ⟨a, vs, rfl, h1, r1⟩ := ktp_of rv
      exact .inl ⟨_, _, rfl, .inr ⟨vs, h1, r1.length⟩, T.same R _ repI⟩
    · split at e
      · rename_i h
        cases e
        obtain ⟨a, vs, rfl, _, g, r1⟩ := lst_of R rv h
        exact .inl ⟨_, _, rfl, .inl ⟨vs, SqL.of g, r1.length⟩, T.same R _ repI⟩
      · rename_i h
        cases e
        obtain ⟨a, vs, rfl, _, g, r1⟩ := rol_of R rv h
        exact .inl ⟨_, _, rfl, .inl ⟨vs, g, r1.length⟩, T.same R _ repI⟩
      · rename_i kvs h
        cases e
        obtain ⟨a, ks, rfl, _, g, m, r1⟩ := dic_get R rv h
        have hl := congrArg List.length m
        simp only [List.length_map] at hl
        exact .inr ⟨a, ks, rfl, g, by rw [hl]; exact T.same R _ repI⟩
      · cases e
    · cases e
  · cases e
theorem cInt : ∃ r, CallR X (.type "int") r ∧ ML X.K gInt r := by
  refine ⟨_, call_int1, ?_⟩
  intro ρ fm st σ H ws vs w st' Q R rl e T
  unfold gInt at e
  split at e
  · cases e
    obtain ⟨v, rfl, rv⟩ := rep1 rl
    simp only [RepV] at rv; subst rv
    exact .inl ⟨_, rfl, T.same R _ repI⟩
  · cases e
    obtain ⟨v, rfl, rv⟩ := rep1 rl
    simp only [RepV] at rv; subst rv
    exact .inr ⟨_, rfl, T.same R _ repI⟩
  · cases e
theorem cOrd : ∃ r, CallR X (.builtin "ord") r ∧ ML X.K gOrd r := by
  refine ⟨_, call_ord, ?_⟩
  intro ρ fm st σ H ws vs w st' Q R rl e T
  unfold gOrd at e
  split at e
  · cases e
    obtain ⟨v, rfl, rv⟩ := rep1 rl
    simp only [RepV] at rv; subst rv
    exact ⟨_, rfl, rfl, T.same R _ repI⟩
  · cases e
theorem cMin (hc : X.calm = true) : ∃ r, CallR X (.builtin "min") r ∧ ML X.K gMin r := by
  refine ⟨_, call_min2 hc, ?_⟩
  intro ρ fm st σ H ws vs w st' Q R rl e T
  unfold gMin at e
  split at e
  · cases e
    obtain ⟨v, u, rfl, rv, ru⟩ := rep2 rl
    simp only [RepV] at rv ru; subst rv; subst ru
    exact ⟨_, _, rfl, T.same R _ repI⟩
  · cases e
theorem cMax (hc : X.calm = true) : ∃ r, CallR X (.builtin "max") r ∧ ML X.K gMax r := by
  refine ⟨_, call_max2 hc, ?_⟩
  intro ρ fm st σ H ws vs w st' Q R rl e T
  unfold gMax at e
  split at e
  · cases e
    obtain ⟨v, u, rfl, rv, ru⟩ := rep2 rl
    simp only [RepV] at rv ru; subst rv; subst ru
    exact ⟨_, _, rfl, T.same R _ repI⟩
  · cases e
theorem cAbs : ∃ r, CallR X (.builtin "abs") r ∧ ML X.K gAbs r := by
  refine ⟨_, call_abs, ?_⟩
  intro ρ fm st σ H ws vs w st' Q R rl e T
  unfold gAbs at e
  split at e
  · cases e
    obtain ⟨v, rfl, rv⟩ := rep1 rl
    simp only [RepV] at rv; subst rv
    exact ⟨_, rfl, T.same R _ repI⟩
  · cases e
theorem cSum (hc : X.calm = true) : ∃ r, CallR X (.builtin "sum") r ∧ ML X.K gSum r := by
  refine ⟨_, cr_sum hc, ?_⟩
  intro ρ fm st σ H ws vs w st' Q R rl e T
  unfold gSum at e
  split at e
  · simp only [Option.bind_eq_some_iff, Option.map_eq_some_iff] at e
    obtain ⟨xs, e1, ns, e2, e3⟩ := e
    cases e3
    obtain ⟨v, rfl, rv⟩ := rep1 rl
    obtain ⟨a, vs, rfl, g, r1⟩ := items_rep R rv e1
    exact ⟨a, ns, rfl, by rw [← ints_rep e2 r1]; exact g, T.same R _ repI⟩
  · cases e
theorem cAll (hc : X.calm = true) : ∃ r, CallR X (.builtin "all") r ∧ ML X.K gAll r := by
  refine ⟨_, cr_all hc, ?_⟩
  intro ρ fm st σ H ws vs w st' Q R rl e T
  unfold gAll at e
  split at e
  · simp only [Option.bind_eq_some_iff, Option.map_eq_some_iff] at e
    obtain ⟨xs, e1, ns, e2, e3⟩ := e
    cases e3
    obtain ⟨v, rfl, rv⟩ := rep1 rl
    obtain ⟨a, vs, rfl, g, r1⟩ := items_rep R rv e1
    exact ⟨a, ns, rfl, by rw [← bls_rep e2 r1]; exact g, T.same R _ repB⟩
  · cases e
theorem cAny (hc : X.calm = true) : ∃ r, CallR X (.builtin "any") r ∧ ML X.K gAny r := by
  refine ⟨_, cr_any hc, ?_⟩
  intro ρ fm st σ H ws vs w st' Q R rl e T
  unfold gAny at e
  split at e
  · simp only [Option.bind_eq_some_iff, Option.map_eq_some_iff] at e
    obtain ⟨xs, e1, ns, e2, e3⟩ := e
    cases e3
    obtain ⟨v, rfl, rv⟩ := rep1 rl
    obtain ⟨a, vs, rfl, g, r1⟩ := items_rep R rv e1
    exact ⟨a, ns, rfl, by rw [← bls_rep e2 r1]; exact g, T.same R _ repB⟩
  · cases e
theorem cTuple : ∃ r, CallR X (.type "tuple") r ∧ ML X.K gTuple r := by
  refine ⟨_, call_tuple_of, ?_⟩
  intro ρ fm st σ H ws vs w st' Q R rl e T
  unfold gTuple at e
  split at e
  · cases e
    obtain ⟨v, rfl, rv⟩ := rep1 rl
    obtain ⟨a, vs, rfl, h1, r1⟩ := tup_of rv
    exact ⟨a, vs, rfl, .inr ⟨h1, T.same R _ rv⟩⟩
  · simp only [Option.map_eq_some_iff] at e
    obtain ⟨xs, e1, e2⟩ := e
    cases e2
    obtain ⟨v, rfl, rv⟩ := rep1 rl
    obtain ⟨a, vs, rfl, g, r1⟩ := items_rep R rv e1
    refine ⟨a, vs, rfl, .inl ⟨g, fun l hl => T.tup R hl _ ?_⟩⟩
    simp only [RepV]
    exact ⟨l, vs, rfl, upd_same, RepL.mono (List.prefix_refl _) (Kp.new hl) _ _ r1⟩
  · cases e
/-- list(s) -/
theorem call_list_s (hc : X.calm = true) : CallR X (.type "list") (fun xs H Q => ∃ x : Str, xs = [.str x] ∧ x.length ≤ sizeLine ∧ ∀ l, H l = none → Q (.ref l) (upd H l (.lst (x.cps.toList.map fun c => V.str ⟨#[c]⟩)))) := by
  intro pins s σ H xs us Q I r hh
  obtain ⟨x, rfl, hz, q⟩ := hh
  obtain ⟨u, rfl, ru⟩ := vals1 r
  obtain ⟨t, rfl⟩ := ru
  refine call_list_str (I.ok.hd hc) x t (fun h' tk acc c' hk e hi => ?_) hz
  refine ⟨.ref s.heap.objs.size, upd H s.heap.objs.size (.lst (x.cps.toList.map fun c => V.str ⟨#[c]⟩)), I.laid hk (Nat.le_refl _) (show ObjOk X.prog X.w _ _ _ (.lst _) from ⟨?_, acc.toList, c', vals_of_at ?_ ?_, by rw [Array.toArray_toList]; exact e⟩), rfl, q _ (I.hok.fresh (Nat.le_refl _))⟩
  · rw [List.length_map]; simpa [Str.length] using hz
  · rw [List.length_map, Array.length_toList, Array.length_toList, hi.1]
  · intro j v w e1 e2
    have hw : acc[j]? = some w := by rw [← Array.getElem?_toList]; exact e2
    have hs := hi.2 j w hw
    rw [List.getElem?_map] at e1
    simp only [Option.map_eq_some_iff] at e1
    obtain ⟨c, hc, rfl⟩ := e1
    obtain ⟨c2, tk', h1, h2⟩ := hs
    have hc2 : x.cps.toList[j]? = some c2 := by rw [Array.getElem?_toList]; exact h1
    rw [hc] at hc2; cases hc2
    exact ⟨tk', h2⟩
theorem cList (hc : X.calm = true) : ∃ r, CallR X (.type "list") r ∧ ML X.K gList r := by
  refine ⟨_, call_list_of.or (call_list_s hc), ?_⟩
  intro ρ fm st σ H ws vs w st' Q R rl e T
  have key : ∀ (xs : List Va) (us : List V) (l : Addr), H l = none → RepL X.K ρ H xs us → (w, st') = (Va.ref st.length, st ++ [Ob.lst xs]) → Q (.ref l) (upd H l (.lst us)) := by
    intro xs us l hl r1 e
    cases e
    exact T.push R hl (o := .lst xs) ⟨us, upd_same, RepL.mono (List.prefix_append _ _) (Kp.new hl) _ _ r1⟩ _ (ref_last R.s.rl)
  unfold gList at e
  split at e
  · split at e
    · rename_i s hz
      obtain ⟨v, rfl, rv⟩ := rep1 rl
      simp only [RepV] at rv
      refine .inr ⟨_, by rw [rv], by rw [slen, sizeLine_eq]; exact hz, fun l hl => ?_⟩
      refine key (strW s) _ l hl ?_ (by cases e; rfl)
      have : ∀ s : List Nat, RepL X.K ρ H (strW s) (s.map fun c => V.str ⟨#[c]⟩) := by
        intro s
        induction s with
        | nil => exact RepL.nil
        | cons c s ih => exact RepL.cons (by simp only [RepV]) ih
      simpa using this s
    · cases e
  · obtain ⟨v, rfl, rv⟩ := rep1 rl
    obtain ⟨a, vs, rfl, h1, r1⟩ := tup_of rv
    exact .inl ⟨a, vs, rfl, .inr h1, fun l hl => key _ _ l hl r1 (by cases e; rfl)⟩
  · obtain ⟨v, rfl, rv⟩ := rep1 rl
    obtain ⟨a, vs, rfl, h1, r1⟩ := ktp_of rv
    exact .inl ⟨a, vs, rfl, .inr h1, fun l hl => key _ _ l hl r1 (by cases e; rfl)⟩
  · simp only [Option.map_eq_some_iff] at e
    obtain ⟨xs, e1, e2⟩ := e
    obtain ⟨v, rfl, rv⟩ := rep1 rl
    obtain ⟨a, vs, rfl, g, r1⟩ := items_rep R rv e1
    exact .inl ⟨a, vs, rfl, .inl g, fun l hl => key _ _ l hl r1 e2.symm⟩
  · cases e
theorem cIsi : ∃ r, CallR X (.builtin "isinstance") r ∧ ML X.K gIsi r := by
  refine ⟨_, call_isi, ?_⟩
  intro ρ fm st σ H ws vs w st' Q R rl e T
  unfold gIsi at e
  split at e
  · rename_i w n
    simp only [Option.bind_eq_some_iff, Option.map_eq_some_iff] at e
    obtain ⟨t, e1, b, e2, e3⟩ := e
    cases e3
    obtain ⟨v, u, rfl, rv, ru⟩ := rep2 rl
    simp only [RepV] at ru; subst ru
    refine ⟨v, _, .type t, _, b, rfl, .ty n, ?_, kit_ty e2, T.same R _ repB⟩
    unfold tyN at e1
    split at e1
    · cases e1; simp only [RepV] at rv; subst rv; exact .base .non
    · cases e1; simp only [RepV] at rv; subst rv; exact .base (.bl _)
    · cases e1; simp only [RepV] at rv; subst rv; exact .base (.int _)
    · cases e1; simp only [RepV] at rv; subst rv; exact .base (.str _)
    · cases e1; simp only [RepV] at rv
      obtain ⟨a, vs, rfl, h, _⟩ := rv
      exact .base (.tup h)
    · split at e1
      · rename_i h
        cases e1
        obtain ⟨a, vs, rfl, _, g, r1⟩ := lst_of R rv h
        exact .base (.lst g)
      · rename_i h
        cases e1
        obtain ⟨a, vs, rfl, _, g, m, r1⟩ := dic_get R rv h
        exact .base (.dK g)
      · rename_i h
        cases e1
        obtain ⟨a, vs, rfl, _, g, m, r1⟩ := dit_get R rv h
        exact .base (.dT g)
      · cases e1
    · cases e1
  · cases e
end
/-- T, a built-in class as a value -/
theorem de_ty {X : Cx} {x : Str} {n : String} {pos : Pos} (hg : Gl X x) (hm : X.mg x = none) (hv : bootBuiltins x = some (.type n)) (hn : x ≠ "__name__" := by decide) (hd : (x == ("__debug__" : Str)) = false := by decide) : DE X (.Name x pos) (eC (.ty n)) :=
  de_c (v := .ty n) (pe_bltn hg hm hv rfl hn hd) fun _ _ => by simp only [RepV]
end
end T3
/-! T3, seventh part: methods, dicts, slices, calls of defs, defs, the law's end -/
namespace T3
open PySem PySem.Spec PyProof.Rows L2
noncomputable section

/-! ### methods -/
def hasTy (T : String) (w : Va) (st : Sto) : Bool := match w with
  | .str _ => T == "str"
  | .ref n => match st[n]? with
    | some (.lst _) => T == "list"
    | some (.rol _) => T == "list"
    | some (.dic _) => T == "dict"
    | some (.dit _) => T == "dict"
    | _ => false
  | _ => false
def eMt (T : String) (g : Va → List Va → Sto → Option (Va × Sto)) (f : Ev) (fa : Evs) : Ev := fun fm st => (f fm st).bind fun p => if hasTy T p.1 p.2 = true then (fa fm p.2).bind fun q => g p.1 q.1 q.2 else none
section
variable {X : Cx} {o e : Expr} {es : List Expr} {f fo : Ev} {fs : Evs} {apos cpos pos : Pos} {name : Str}
theorem hasTy_of {K : PySem.W.Frag} {ρ : List Addr} {fm : Fm} {st : Sto} {σ : L2.St} {H : Hp} {T : String} {w : Va} {v : V} (R : Rel K ρ fm st σ H) (rv : RepV K ρ H w v) (h : hasTy T w st = true) : tyV K T v H := by
  unfold hasTy at h
  split at h
  · simp only [RepV] at rv; subst rv; simpa [tyV] using h
  · split at h
    · rename_i hn
      obtain ⟨a, vs, rfl, _, g, _⟩ := lst_of R rv hn
      exact .inl ⟨by simpa using h, vs, SqL.of g⟩
    · rename_i hn
      obtain ⟨a, vs, rfl, _, g, _⟩ := rol_of R rv hn
      exact .inl ⟨by simpa using h, vs, g⟩
    · rename_i hn
      obtain ⟨a, vs, rfl, _, g, _⟩ := dic_get R rv hn
      exact .inr (.inr (.inl ⟨by simpa using h, .inl ⟨vs, g⟩⟩))
    · rename_i hn
      obtain ⟨a, vs, rfl, _, g, _⟩ := dit_get R rv hn
      exact .inr (.inr (.inl ⟨by simpa using h, .inr ⟨vs, g⟩⟩))
    · cases h
  · cases h
theorem de_mt {T id : String} {r : V → List V → Hp → VK → Prop} {g : Va → List Va → Sto → Option (Va × Sto)} (pa : PlainAttrs T) (slot : Slot T name id) (hty : typeOf (.builtin id) = pure (.type "method_descriptor")) (hm : MtR X id r) (hg : MM X.K g r) (ho : DE X o fo) (ha : DA X (e :: es) fs)
    (hbase : attributeBase o name X.env (eval o X.env) = eval o X.env := by rfl)
    (hfew : ((backTo cpos (starEach (e :: es) X.env)).all (fun x => !x.1) && (backToKw cpos (keywordEach [] X.env)).all (fun x => x.1.isSome)
      && decide ((e :: es).length + ([] : List Keyword).length + (if ([] : List Keyword).isEmpty then 0 else 1) < 30)) = true := by rfl)
    (hline : (apos.endLine == cpos.line) = true := by rfl) (hs : starEach (e :: es) X.env = (false, eval e X.env) :: starEach es X.env := by rfl) (hplain : (backTo cpos (starEach es X.env)).any (·.1) = false := by rfl) :
    DE X (.Call (.Attribute o name apos) (e :: es) [] cpos) (eMt T g fo fs) := PEi (pe_bm pa slot hty hm ho ha hbase hfew hline hs hplain) fun σ H Q h => by
  obtain ⟨ρ, fm, st, w, st', R, e, T0⟩ := h
  simp only [eMt, Option.bind_eq_some_iff] at e
  obtain ⟨⟨x, s1⟩, e1, e2⟩ := e
  split at e2
  · rename_i ht
    simp only [Option.bind_eq_some_iff] at e2
    obtain ⟨⟨ws, s2⟩, e3, e4⟩ := e2
    exact ⟨ρ, fm, st, x, s1, R, e1, fun ρ1 H1 p1 k1 R1 v rv => ⟨hasTy_of R1 rv ht, ρ1, fm, s1, ws, s2, R1, e3, fun ρ2 H2 p2 k2 R2 vs rvs =>
      hg _ _ _ _ _ _ _ _ _ _ _ _ R2 (RepV.mono p2 k2 _ _ rv) rvs e4 (T0.then (List.IsPrefix.trans p1 p2) (k1.trans k2))⟩⟩
  · cases e2
theorem de_mt0 {T id : String} {r : V → List V → Hp → VK → Prop} {g : Va → List Va → Sto → Option (Va × Sto)} (pa : PlainAttrs T) (slot : Slot T name id) (hty : typeOf (.builtin id) = pure (.type "method_descriptor")) (hm : MtR X id r) (hg : MM X.K g r) (ho : DE X o fo)
    (hbase : attributeBase o name X.env (eval o X.env) = eval o X.env := by rfl) (hline : (apos.endLine == cpos.line) = true := by rfl) :
    DE X (.Call (.Attribute o name apos) [] [] cpos) (eMt T g fo aN) := PEi (pe_bm0 pa slot hty hm ho hbase hline) fun σ H Q h => by
  obtain ⟨ρ, fm, st, w, st', R, e, T0⟩ := h
  simp only [eMt, Option.bind_eq_some_iff] at e
  obtain ⟨⟨x, s1⟩, e1, e2⟩ := e
  split at e2
  · rename_i ht
    simp only [Option.bind_eq_some_iff] at e2
    obtain ⟨⟨ws, s2⟩, e3, e4⟩ := e2
    cases e3
    exact ⟨ρ, fm, st, x, s1, R, e1, fun ρ1 H1 p1 k1 R1 v rv => ⟨hasTy_of R1 rv ht, hg _ _ _ _ _ _ _ _ _ _ _ _ R1 rv RepL.nil e4 (T0.then p1 k1)⟩⟩
  · cases e2
def gApp (w : Va) (ws : List Va) (st : Sto) : Option (Va × Sto) := match w, ws with
  | .ref n, [y] => match st[n]? with
    | some (.lst xs) => @ite _ (xs.length < 16777216) (Classical.propDecidable _) (some (.non, st.set n (.lst (xs ++ [y])))) none
    | _ => none
  | _, _ => none
theorem mApp : MM X.K gApp rAppend := by
  intro ρ fm st σ H a ws x vs w st' Q R ra rl e T
  unfold gApp at e
  split at e
  · split at e
    · rename_i xs hn
      split at e
      · rename_i hz
        cases e
        obtain ⟨a, vs, rfl, ea, g, r1⟩ := lst_of R ra hn
        obtain ⟨v, rfl, rv⟩ := rep1 rl
        refine ⟨a, vs, v, rfl, rfl, g, by rw [← r1.length, sizeLine_eq]; exact hz, ?_⟩
        have hk : Kp X.K H (upd H a (.lst (vs ++ [v]))) := Kp.upd (fun xs q => by rw [g] at q; cases q)
        exact T.write R hn ea rfl rfl ⟨_, upd_same, RepL.mono (List.prefix_refl _) hk _ _ (r1.append (RepL.one rv))⟩ _ repN
      · cases e
    · cases e
  · cases e
/-- xs.append(e) -/
theorem de_app (ho : DE X o fo) (he : DE X e f) (hbase : attributeBase o "append" X.env (eval o X.env) = eval o X.env := by rfl)
    (hfew : ((backTo cpos (starEach [e] X.env)).all (fun x => !x.1) && (backToKw cpos (keywordEach [] X.env)).all (fun x => x.1.isSome)
      && decide (([e] : List Expr).length + ([] : List Keyword).length + (if ([] : List Keyword).isEmpty then 0 else 1) < 30)) = true := by rfl)
    (hline : (apos.endLine == cpos.line) = true := by rfl) (hs : starEach [e] X.env = (false, eval e X.env) :: starEach [] X.env := by rfl) :
    DE X (.Call (.Attribute o "append" apos) [e] [] cpos) (eMt "list" gApp fo (aC f aN)) :=
  de_mt PySem.F.plainAttrs_list PySem.F.slot_list_append PySem.F.type_list_append mt_append mApp ho (da_cons he da_nil hs) hbase hfew hline hs
def joinN (s : List Nat) : List (List Nat) → List Nat
  | [] => []
  | [p] => p
  | p :: q :: r => p ++ (s ++ joinN s (q :: r))
def gJoin (w : Va) (ws : List Va) (st : Sto) : Option (Va × Sto) := match w, ws with
  | .str s, [y] => (itemsOf y st).bind fun xs => (strsOf xs).bind fun ps => @ite _ ((ps.map (·.length)).sum + ps.length * s.length ≤ 16777216) (Classical.propDecidable _) (some (.str (joinN s ps), st)) none
  | _, _ => none
theorem join_tl (s : List Nat) : ∀ ps : List (List Nat), TL.joinL (TL.tl ⟨s.toArray⟩) ((ps.map fun p => (⟨p.toArray⟩ : Str)).map TL.tl) = joinN s ps
  | [] => rfl
  | [_] => by simp [TL.joinL, joinN, TL.tl]
  | p :: q :: r => by
    have ih := join_tl s (q :: r)
    simp only [List.map_cons] at ih ⊢
    rw [TL.joinL, ih, joinN]
theorem mJoin : MM X.K gJoin (fun x xs H Q => ∃ a p, ∃ ys : List Str, x = .str a ∧ xs = [.ref p] ∧ (SqL X.K H p (ys.map V.str) ∨ SqT X.K H p (ys.map V.str)) ∧
    (ys.map (·.length)).sum + ys.length * a.length ≤ 16777216 ∧ Q (.str (Txt.join a ys)) H) := by
  intro ρ fm st σ H a ws x vs w st' Q R ra rl e T
  unfold gJoin at e
  split at e
  · rename_i s y
    simp only [Option.bind_eq_some_iff] at e
    obtain ⟨xs, e1, ps, e2, e3⟩ := e
    split at e3
    · rename_i hz
      cases e3
      obtain ⟨v, rfl, rv⟩ := rep1 rl
      obtain ⟨a, us, rfl, g, r1⟩ := items_rep R rv e1
      simp only [RepV] at ra
      have hs := strs_rep e2 r1
      subst hs
      refine ⟨_, a, ps.map fun s => (⟨s.toArray⟩ : Str), ra, rfl, .inl g, ?_, ?_⟩
      · rw [slen, List.length_map, List.map_map]
        have : ((fun s : Str => s.length) ∘ fun s : List Nat => (⟨s.toArray⟩ : Str)) = fun s => s.length := by funext s; exact slen s
        rw [this]; exact hz
      · have hj : Txt.join ⟨s.toArray⟩ (ps.map fun s => (⟨s.toArray⟩ : Str)) = ⟨(joinN s ps).toArray⟩ := by
          rw [TL.join_eq, ← join_tl s ps, ← TL.tl_join]
        rw [hj]
        exact T.same R _ repS
    · cases e3
  · cases e
theorem de_join (ho : DE X o fo) (he : DE X e f) (hbase : attributeBase o "join" X.env (eval o X.env) = eval o X.env := by rfl)
    (hfew : ((backTo cpos (starEach [e] X.env)).all (fun x => !x.1) && (backToKw cpos (keywordEach [] X.env)).all (fun x => x.1.isSome)
      && decide (([e] : List Expr).length + ([] : List Keyword).length + (if ([] : List Keyword).isEmpty then 0 else 1) < 30)) = true := by rfl)
    (hline : (apos.endLine == cpos.line) = true := by rfl) (hs : starEach [e] X.env = (false, eval e X.env) :: starEach [] X.env := by rfl) :
    DE X (.Call (.Attribute o "join" apos) [e] [] cpos) (eMt "str" gJoin fo (aC f aN)) :=
  de_mt PySem.F.plainAttrs_str PySem.F.slot_str_join PySem.F.type_str_join mt_join mJoin ho (da_cons he da_nil hs) hbase hfew hline hs
/-- s.index(t), t found -/
def gIndex (w : Va) (ws : List Va) (st : Sto) : Option (Va × Sto) := match w, ws with
  | .str s, [.str t] => (Txt.index0 ⟨s.toArray⟩ ⟨t.toArray⟩).map fun (k : Nat) => (.int (k : Int), st)
  | _, _ => none
theorem mt_index1 : MtR X "str.index" (fun x xs H Q => ∃ (a b : Str) (k : Nat), x = .str a ∧ xs = [.str b] ∧ Txt.index0 a b = some k ∧ Q (.int (k : Nat)) H) := by
  intro pins s σ H x xs v us Q I rx rs h
  obtain ⟨a, b, k, rfl, rfl, hk, q⟩ := h
  obtain ⟨t, rfl⟩ := rx
  cases rs with
  | cons r1 rs =>
    cases rs
    obtain ⟨u, rfl⟩ := r1
    unfold Txt.index0 at hk
    cases ho : Builtin.Str.occurrences a b 0 a.length 1 with
    | nil => rw [ho] at hk; cases hk
    | cons k' rest =>
      rw [ho] at hk
      cases hk
      exact PySem.SC.index ho ⟨.int (k : Nat), H, I.tok _, ⟨_, rfl⟩, q⟩
theorem mIndex : MM X.K gIndex (fun x xs H Q => ∃ (a b : Str) (k : Nat), x = .str a ∧ xs = [.str b] ∧ Txt.index0 a b = some k ∧ Q (.int (k : Nat)) H) := by
  intro ρ fm st σ H a ws x vs w st' Q R ra rl e T
  unfold gIndex at e
  split at e
  · simp only [Option.map_eq_some_iff] at e
    obtain ⟨k, e1, e2⟩ := e
    cases e2
    obtain ⟨v, rfl, rv⟩ := rep1 rl
    simp only [RepV] at ra rv; subst ra; subst rv
    exact ⟨_, _, k, rfl, rfl, e1, T.same R _ repI⟩
  · cases e
theorem de_index (ho : DE X o fo) (he : DE X e f) (hbase : attributeBase o "index" X.env (eval o X.env) = eval o X.env := by rfl)
    (hfew : ((backTo cpos (starEach [e] X.env)).all (fun x => !x.1) && (backToKw cpos (keywordEach [] X.env)).all (fun x => x.1.isSome)
      && decide (([e] : List Expr).length + ([] : List Keyword).length + (if ([] : List Keyword).isEmpty then 0 else 1) < 30)) = true := by rfl)
    (hline : (apos.endLine == cpos.line) = true := by rfl) (hs : starEach [e] X.env = (false, eval e X.env) :: starEach [] X.env := by rfl) :
    DE X (.Call (.Attribute o "index" apos) [e] [] cpos) (eMt "str" gIndex fo (aC f aN)) :=
  de_mt PySem.F.plainAttrs_str PySem.F.slot_str_index PySem.F.type_str_index mt_index1 mIndex ho (da_cons he da_nil hs) hbase hfew hline hs
end

/-! ### dicts -/
def kcs : List (Va × Va) → Option (List (Key × Va))
  | [] => some []
  | p :: r => (keyOf p.1).bind fun k => (kcs r).map ((k, p.2) :: ·)
def mrg (acc : List (Key × Va)) (more : List (Key × Va)) : List (Key × Va) := more.foldl (fun a p => dPut a p.1 p.2) acc
/-- the pairs of a display, from the left -/
abbrev Eps := Fm → Sto → Option (List (Va × Va) × Sto)
def pN : Eps := fun _ st => some ([], st)
def pC (f g : Ev) (r : Eps) : Eps := fun fm st => (f fm st).bind fun p => (g fm p.2).bind fun q => (r fm q.2).bind fun t => some ((p.1, q.1) :: t.1, t.2)
/-- a display: the dict is the first new thing -/
def eDic (fp : Eps) : Ev := fun fm st => (fp fm (st ++ [.dic []])).bind fun p => match p.2[st.length]? with
  | some (.dic []) => (kcs p.1).bind fun kvs => @ite _ (kvs.length ≤ 15) (Classical.propDecidable _) (some (.ref st.length, p.2.set st.length (.dic (mrg [] kvs)))) none
  | _ => none
def eDic0 : Ev := fun _ st => some (.ref st.length, st ++ [.dic []])
def eDit0 : Ev := fun _ st => some (.ref st.length, st ++ [.dit []])
section
variable {X : Cx} {o i e k v : Expr} {f g fo fi fv : Ev} {pos pos' : Pos}
theorem de_dic0 : DE X (.Dict [] [] pos) eDic0 := PEi pe_dnewK fun σ H Q h => by
  obtain ⟨ρ, fm, st, w, st', R, e, T⟩ := h
  cases e
  exact fun p hp => T.push R hp (o := .dic []) ⟨[], upd_same, rfl, RepL.nil⟩ _ (ref_last R.s.rl)
theorem de_dit0 : DE X (.Dict [] [] pos) eDit0 := PEi pe_dnewT fun σ H Q h => by
  obtain ⟨ρ, fm, st, w, st', R, e, T⟩ := h
  cases e
  exact fun p hp => T.push R hp (o := .dit []) ⟨[], upd_same, rfl, RepL.nil⟩ _ (ref_last R.s.rl)
def PrR (K : PySem.W.Frag) (ρ : List Addr) (H : Hp) : List (Va × Va) → List (V × V) → Prop
  | [], vs => vs = []
  | p :: r, vs => ∃ u t, vs = u :: t ∧ RepV K ρ H p.1 u.1 ∧ RepV K ρ H p.2 u.2 ∧ PrR K ρ H r t
structure DPs (X : Cx) (pos : Pos) (ks : List (Option Expr)) (vs : List Expr) (fp : Eps) : Prop where
  ex : ∃ trs, PPs X pos ks vs trs ∧ ∀ σ H (Q : List (V × V) → Hp → Prop) ρ fm st ws st', Rel X.K ρ fm st σ H → fp fm st = some (ws, st') →
    Th X.K ρ fm σ H st' (fun ρ' H' => ∀ us, PrR X.K ρ' H' ws us → Q us H') → tPairs trs σ H Q
theorem PrR.mono {K : PySem.W.Frag} {ρ ρ' : List Addr} {H H' : Hp} (hp : ρ <+: ρ') (hk : Kp K H H') : ∀ {ws : List (Va × Va)} {us : List (V × V)}, PrR K ρ H ws us → PrR K ρ' H' ws us
  | [], _, h => h
  | p :: r, _, ⟨u, t, e, a, b, c⟩ => ⟨u, t, e, RepV.mono hp hk _ _ a, RepV.mono hp hk _ _ b, PrR.mono hp hk c⟩
theorem dps_nil : DPs X pos [] [] pN := ⟨[], pps_nil, fun σ H Q ρ fm st ws st' R e T => by
  cases e
  exact T.same R [] rfl⟩
theorem dps_cons {ks : List (Option Expr)} {vs : List Expr} {fp : Eps} (hk : DE X k f) (hv : DE X v g) (hr : DPs X pos ks vs fp) : DPs X pos (some k :: ks) (v :: vs) (pC f g fp) := by
  obtain ⟨trs, h1, h2⟩ := hr.ex
  refine ⟨_, pps_cons hk hv h1, fun σ H Q ρ fm st ws st' R e T => ?_⟩
  simp only [pC, Option.bind_eq_some_iff] at e
  obtain ⟨⟨a, s1⟩, e1, ⟨b, s2⟩, e2, ⟨r, s3⟩, e3, e4⟩ := e
  cases e4
  refine ⟨ρ, fm, st, a, s1, R, e1, fun ρ1 H1 p1 k1 R1 x rx => ⟨ρ1, fm, s1, b, s2, R1, e2, fun ρ2 H2 p2 k2 R2 y ry => ?_⟩⟩
  refine h2 σ H2 _ ρ2 fm s2 r _ R2 e3 fun ρ3 H3 p3 k3 R3 us ru => ?_
  exact T ρ3 H3 (List.IsPrefix.trans p1 (List.IsPrefix.trans p2 p3)) (k1.trans (k2.trans k3)) R3 ((x, y) :: us)
    ⟨(x, y), us, rfl, RepV.mono p3 k3 _ _ (RepV.mono p2 k2 _ _ rx), RepV.mono p3 k3 _ _ ry, ru⟩
theorem kcs_rep {K : PySem.W.Frag} {ρ : List Addr} {H : Hp} : ∀ {ws : List (Va × Va)} {us : List (V × V)} {kvs : List (Key × Va)}, PrR K ρ H ws us → kcs ws = some kvs →
    ∃ ks : List (Key × V), us = ks.map (fun kv => (kV kv.1, kv.2)) ∧ ks.map (·.1) = kvs.map (·.1) ∧ RepL K ρ H (kvs.map (·.2)) (ks.map (·.2))
  | [], _, _, h, e => by cases e; simp only [PrR] at h; exact ⟨[], h, rfl, RepL.nil⟩
  | p :: r, _, _, h, e => by
    simp only [PrR] at h
    obtain ⟨u, t, rfl, h1, h2, h3⟩ := h
    simp only [kcs, Option.bind_eq_some_iff, Option.map_eq_some_iff] at e
    obtain ⟨k, ek, kv, er, rfl⟩ := e
    obtain ⟨ks, rfl, m, rl⟩ := kcs_rep h3 er
    refine ⟨(k, u.2) :: ks, ?_, by simp [m], RepL.cons h2 rl⟩
    have := keyOf_rep h1 ek
    simp [← this]
theorem mrg_rep {K : PySem.W.Frag} {ρ : List Addr} {H : Hp} : ∀ {more : List (Key × Va)} {mk : List (Key × V)} {acc : List (Key × Va)} {ak : List (Key × V)}, mk.map (·.1) = more.map (·.1) → RepL K ρ H (more.map (·.2)) (mk.map (·.2)) →
    ak.map (·.1) = acc.map (·.1) → RepL K ρ H (acc.map (·.2)) (ak.map (·.2)) → (mergeK ak mk).map (·.1) = (mrg acc more).map (·.1) ∧ RepL K ρ H ((mrg acc more).map (·.2)) ((mergeK ak mk).map (·.2))
  | [], mk, acc, ak, m, r, m2, r2 => by
    have : mk = [] := by simpa using m
    subst this; exact ⟨m2, r2⟩
  | p :: more, [], _, _, m, _, _, _ => by simp at m
  | p :: more, q :: mk, acc, ak, m, r, m2, r2 => by
    simp only [List.map_cons, List.cons.injEq] at m
    simp only [List.map_cons, RepL] at r
    obtain ⟨v', vs, e, r1, r3⟩ := r
    simp only [List.cons.injEq] at e
    obtain ⟨e1, e2⟩ := e
    subst e1; subst e2
    obtain ⟨a, b⟩ := dPut_rep (k := p.1) r1 m2 r2
    show (mergeK (putK ak q.1 q.2) mk).map (·.1) = _ ∧ RepL K ρ H _ ((mergeK (putK ak q.1 q.2) mk).map (·.2))
    rw [m.1]
    exact mrg_rep (more := more) (mk := mk) m.2 r3 a b
theorem de_dic {ks : List (Option Expr)} {vs : List Expr} {fp : Eps} (h : DPs X pos ks vs fp) (hall : ks.all (·.isSome) = true) (hl : ks.length = vs.length) (h0 : ks ≠ []) (h15 : ks.length ≤ 15) : DE X (.Dict ks vs pos) (eDic fp) := by
  obtain ⟨trs, h1, h2⟩ := h.ex
  refine PEi (pe_disp h1 hall hl h0 h15) fun σ H Q h => ?_
  obtain ⟨ρ, fm, st, w, st', R, e, T⟩ := h
  simp only [eDic, Option.bind_eq_some_iff] at e
  obtain ⟨⟨ws, s1⟩, e1, e2⟩ := e
  dsimp only at e2
  split at e2
  · rename_i hn
    simp only [Option.bind_eq_some_iff] at e2
    obtain ⟨kvs, e3, e4⟩ := e2
    split at e4
    · rename_i hz
      cases e4
      intro p hp
      have hk0 : Kp X.K H (upd H p (.dK [])) := Kp.new hp
      have R1 : Rel X.K (ρ ++ [p]) fm (st ++ [.dic []]) σ (upd H p (.dK [])) := R.mono (List.prefix_append _ _) hk0 (R.s.push hp (o := .dic []) ⟨[], upd_same, rfl, RepL.nil⟩)
      refine h2 σ _ _ _ fm _ ws s1 R1 e1 fun ρ2 H2 p2 k2 R2 us ru => ?_
      have hpn : (ρ ++ [p])[st.length]? = some p := by rw [← R.s.rl, List.getElem?_append_right (Nat.le_refl _)]; simp
      have hpn2 := pre_get p2 hpn
      obtain ⟨ks, e5, m, r⟩ := kcs_rep ru e3
      obtain ⟨a, ks0, ea, ea2, g, m0, r0⟩ := dic_get R2 (v := .ref p) (by simp only [RepV]; exact ⟨p, rfl, hpn2⟩) hn
      cases ea
      have : ks0 = [] := by simpa using m0
      subst this
      have hk3 : Kp X.K H2 (upd H2 p (.dK (mergeK [] ks))) := Kp.upd (fun xs q => by rw [g] at q; cases q)
      obtain ⟨m3, r3⟩ := mrg_rep m r (acc := []) (ak := []) rfl RepL.nil
      have hlen := congrArg List.length m
      simp only [List.length_map] at hlen
      obtain ⟨S, kS⟩ := R2.s.write (o' := .dic (mrg [] kvs)) hn hpn2 rfl rfl ⟨_, upd_same, m3, RepL.mono (List.prefix_refl _) hk3 _ _ r3⟩
      refine ⟨g, ks, e5, by rw [hlen]; exact hz, ?_⟩
      have P := List.IsPrefix.trans (List.prefix_append ρ [p]) p2
      refine T ρ2 _ P (hk0.trans (k2.trans kS)) ⟨S, R.e.mono P (hk0.trans (k2.trans kS))⟩ (.ref p) ?_
      simp only [RepV]
      exact ⟨p, rfl, hpn2⟩
    · cases e4
  · cases e2
/-- a store at a place -/
def setW (o i v : Va) (st : Sto) : Option Sto := match o with
  | .ref n => match st[n]? with
    | some (.lst ws) => match i with
      | .int k => (ixN ws.length k).map fun j => st.set n (.lst (ws.set j v))
      | _ => none
    | some (.dic kvs) => (keyOf i).bind fun k => @ite _ (kvs.length < 16777216) (Classical.propDecidable _) (some (st.set n (.dic (dPut kvs k v)))) none
    | some (.dit kvs) => match i with
      | .tup ks => (keysOf ks).bind fun k => @ite _ (kvs.length < 16777216) (Classical.propDecidable _) (some (st.set n (.dit (dPut kvs k v)))) none
      | _ => none
    | _ => none
  | _ => none
def sPut (fo fi fv : Ev) : Sm := fun fm st => (fv fm st).bind fun v => (fo fm v.2).bind fun o => (fi fm o.2).bind fun i => (setW o.1 i.1 v.1 i.2).map fun st' => (.nx, fm, st')
theorem ds_put (ho : DE X o fo) (hi : DE X i fi) (hv : DE X e fv) (hu : X.A.units + 1 < cLine) (hs : swapsWith e (some (.Subscript o i pos')) pos.line X.env = pure false := by rfl) (hs1 : swapsWithSole [.Subscript o i pos'] e pos.line X.env = pure false := by rfl) (hw : swappedStores [.Subscript o i pos'] e X.env = pure none := by rfl)
    (h1 : (assignEach [.Subscript o i pos'] X.env).map (·.2) = [assign (.Subscript o i pos') X.env] := by rfl)
    (ha : ∀ v, assign (.Subscript o i pos') X.env v = (do
      let ov ← holding [v] (eval o X.env)
      let iv ← holding [v, ov] (eval i X.env)
      standAt pos'
      holding [v, ov, iv] (setItem ov iv v)
      release [v, ov, iv] []) := by intro _; rfl) : DS X (.Assign [.Subscript o i pos'] e pos) (sPut fo fi fv) :=
  PSi (PS.orr (ps_asg hv (pg_sub ho hi set_list ha) hs1 hw h1) (ps_dput hu ho hi hv hs)) fun D σ H h => by
  obtain ⟨ρ, fm, st, fl, fm', st', R, e, T⟩ := h
  simp only [sPut, Option.bind_eq_some_iff, Option.map_eq_some_iff] at e
  obtain ⟨⟨v, s1⟩, e1, ⟨o, s2⟩, e2, ⟨i, s3⟩, e3, s4, e4, e5⟩ := e
  cases e5
  dsimp only at e2 e3 e4
  unfold setW at e4
  split at e4
  · rename_i n
    split at e4
    · rename_i ws hn
      split at e4
      · simp only [Option.map_eq_some_iff] at e4
        obtain ⟨j, ej, e6⟩ := e4
        subst e6
        refine .inl ⟨ρ, fm, st, v, s1, R, e1, fun ρ1 H1 p1 k1 R1 x rx => ⟨ρ1, fm, s1, _, s2, R1, e2, fun ρ2 H2 p2 k2 R2 y ry => ⟨ρ2, fm, s2, _, s3, R2, e3, fun ρ3 H3 p3 k3 R3 z rz => ?_⟩⟩⟩
        obtain ⟨a, vs, rfl, ea, g, r1⟩ := lst_of R3 (RepV.mono p3 k3 _ _ ry) hn
        simp only [RepV] at rz
        have hk4 : Kp X.K H3 (upd H3 a (.lst (vs.set j x))) := Kp.upd (fun xs q => by rw [g] at q; cases q)
        refine ⟨a, vs, _, j, rfl, rz, g, by rw [← r1.length]; exact ej, ?_⟩
        obtain ⟨S, kS⟩ := R3.s.write (o' := .lst (ws.set j v)) hn ea rfl rfl ⟨_, upd_same, RepL.mono (List.prefix_refl _) hk4 _ _ (r1.set (RepV.mono p3 k3 _ _ (RepV.mono p2 k2 _ _ rx)))⟩
        exact T ρ3 _ σ (List.IsPrefix.trans p1 (List.IsPrefix.trans p2 p3)) (k1.trans (k2.trans (k3.trans kS))) ⟨S, R3.e.mono (List.prefix_refl _) kS⟩
      · cases e4
    · rename_i kvs hn
      simp only [Option.bind_eq_some_iff] at e4
      obtain ⟨k, ek, e6⟩ := e4
      split at e6
      · rename_i hz
        cases e6
        refine .inr ⟨ρ, fm, st, v, s1, R, e1, fun ρ1 H1 p1 k1 R1 x rx => ⟨ρ1, fm, s1, _, s2, R1, e2, fun ρ2 H2 p2 k2 R2 y ry => ⟨ρ2, fm, s2, _, s3, R2, e3, fun ρ3 H3 p3 k3 R3 z rz => ?_⟩⟩⟩
        obtain ⟨a, ks, rfl, ea, g, m, r1⟩ := dic_get R3 (RepV.mono p3 k3 _ _ ry) hn
        have hv := keyOf_rep rz ek
        subst hv
        have hlen := congrArg List.length m
        simp only [List.length_map] at hlen
        have hk4 : Kp X.K H3 (upd H3 a (.dK (putK ks k x))) := Kp.upd (fun xs q => by rw [g] at q; cases q)
        refine ⟨a, _, rfl, DPut.k g (by rw [hlen, sizeLine_eq]; exact hz), ?_⟩
        obtain ⟨m3, r3⟩ := dPut_rep (k := k) (RepV.mono p3 k3 _ _ (RepV.mono p2 k2 _ _ rx)) m r1
        obtain ⟨S, kS⟩ := R3.s.write (o' := .dic (dPut kvs k v)) hn ea rfl rfl ⟨_, upd_same, m3, RepL.mono (List.prefix_refl _) hk4 _ _ r3⟩
        exact T ρ3 _ σ (List.IsPrefix.trans p1 (List.IsPrefix.trans p2 p3)) (k1.trans (k2.trans (k3.trans kS))) ⟨S, R3.e.mono (List.prefix_refl _) kS⟩
      · cases e6
    · rename_i kvs hn
      split at e4
      · rename_i kk
        simp only [Option.bind_eq_some_iff] at e4
        obtain ⟨k, ek, e6⟩ := e4
        split at e6
        · rename_i hz
          cases e6
          refine .inr ⟨ρ, fm, st, v, s1, R, e1, fun ρ1 H1 p1 k1 R1 x rx => ⟨ρ1, fm, s1, _, s2, R1, e2, fun ρ2 H2 p2 k2 R2 y ry => ⟨ρ2, fm, s2, _, s3, R2, e3, fun ρ3 H3 p3 k3 R3 z rz => ?_⟩⟩⟩
          obtain ⟨a, ks, rfl, ea, g, m, r1⟩ := dit_get R3 (RepV.mono p3 k3 _ _ ry) hn
          simp only [RepV] at rz
          obtain ⟨b, vs, rfl, hb, rl⟩ := rz
          have hv := keysOf_rep rl ek
          subst hv
          have hlen := congrArg List.length m
          simp only [List.length_map] at hlen
          have hk4 : Kp X.K H3 (upd H3 a (.dT (putK ks k x))) := Kp.upd (fun xs q => by rw [g] at q; cases q)
          refine ⟨a, _, rfl, DPut.t g hb (by rw [hlen, sizeLine_eq]; exact hz), ?_⟩
          obtain ⟨m3, r3⟩ := dPut_rep (k := k) (RepV.mono p3 k3 _ _ (RepV.mono p2 k2 _ _ rx)) m r1
          obtain ⟨S, kS⟩ := R3.s.write (o' := .dit (dPut kvs k v)) hn ea rfl rfl ⟨_, upd_same, m3, RepL.mono (List.prefix_refl _) hk4 _ _ r3⟩
          exact T ρ3 _ σ (List.IsPrefix.trans p1 (List.IsPrefix.trans p2 p3)) (k1.trans (k2.trans (k3.trans kS))) ⟨S, R3.e.mono (List.prefix_refl _) kS⟩
        · cases e6
      · cases e4
    · cases e4
  · cases e4
end
end
end T3
/-! T3, eighth part: slices, calls of defs, defs, the law's end -/
namespace T3
open PySem PySem.Spec PyProof.Rows L2
noncomputable section

/-! ### slices -/
def cutL {α : Type} (xs : List α) (lo hi : Option Int) : List α := (xs.drop (HT.sIx xs.length 0 lo)).take (HT.sIx xs.length xs.length hi - HT.sIx xs.length 0 lo)
abbrev Ep := Fm → Sto → Option (Option Int × Sto)
def pNo : Ep := fun _ st => some (none, st)
def pSo (f : Ev) : Ep := fun fm st => (f fm st).bind fun p => match p.1 with
  | .int i => some (some i, p.2)
  | _ => none
def gCut (w : Va) (lo hi : Option Int) (st : Sto) : Option (Va × Sto) := match w with
  | .str s => @ite _ (s.length ≤ 16777216) (Classical.propDecidable _) (some (.str (cutL s lo hi), st)) none
  | .tup ws => some (.tup (cutL ws lo hi), st)
  | w => (itemsOf w st).map fun ws => (.ref st.length, st ++ [.lst (cutL ws lo hi)])
def eCut (f : Ev) (a b : Ep) : Ev := fun fm st => (f fm st).bind fun p => (a fm p.2).bind fun q => (b fm q.2).bind fun r => gCut p.1 q.1 r.1 r.2
def tP (K : PySem.W.Frag) (f : Ep) : TO := fun σ H Q => ∃ ρ fm st i st', Rel K ρ fm st σ H ∧ f fm st = some (i, st') ∧ Th K ρ fm σ H st' fun _ H' => Q i H'
abbrev DP (X : Cx) (e : Option Expr) (f : Ep) : Prop := PO X e (tP X.K f)
theorem POi {X : Cx} {e : Option Expr} {t t' : TO} (h : PO X e t) (i : ∀ σ H Q, t' σ H Q → t σ H Q) : PO X e t' := ⟨fun pins s σ H Q I hw => h.run pins s σ H Q I (i _ _ _ hw)⟩
section
variable {X : Cx} {e : Expr} {f : Ev} {fa fb : Ep} {lo hi : Option Expr} {p2 pos : Pos}
theorem dp_no : DP X none pNo := POi po_none fun σ H Q h => by
  obtain ⟨ρ, fm, st, w, st', R, e, T⟩ := h
  cases e
  exact T.same R
theorem dp_so (h : DE X e f) : DP X (some e) (pSo f) := POi (po_some h) fun σ H Q h => by
  obtain ⟨ρ, fm, st, w, st', R, e, T⟩ := h
  simp only [pSo, Option.bind_eq_some_iff] at e
  obtain ⟨⟨x, s1⟩, e1, e2⟩ := e
  dsimp only at e2
  split at e2
  · cases e2
    refine ⟨ρ, fm, st, _, _, R, e1, fun ρ1 H1 p1 k1 R1 v rv => ?_⟩
    simp only [RepV] at rv
    exact ⟨_, rv, T ρ1 H1 p1 k1 R1⟩
  · cases e2
theorem cutL_map {α β : Type} (g : α → β) (xs : List α) (lo hi : Option Int) : cutL (xs.map g) lo hi = (cutL xs lo hi).map g := by
  simp only [cutL, List.length_map, List.map_take, List.map_drop]
theorem cutL_rep {K : PySem.W.Frag} {ρ : List Addr} {H : Hp} {ws : List Va} {vs : List V} (r : RepL K ρ H ws vs) (lo hi : Option Int) : RepL K ρ H (cutL ws lo hi) (cutV vs lo hi) := by
  unfold cutL cutV
  rw [r.length]
  exact (r.drop _).take _
theorem de_cut (he : DE X e f) (ha : DP X lo fa) (hb : DP X hi fb) : DE X (.Subscript e (.Slice lo hi none p2) pos) (eCut f fa fb) := PEi (pe_slice (sl_list.or (sl_tupA.or sl_str)) he ha hb) fun σ H Q h => by
  obtain ⟨ρ, fm, st, w, st', R, e, T⟩ := h
  simp only [eCut, Option.bind_eq_some_iff] at e
  obtain ⟨⟨x, s1⟩, e1, ⟨i, s2⟩, e2, ⟨j, s3⟩, e3, e4⟩ := e
  dsimp only at e2 e3 e4
  refine ⟨ρ, fm, st, x, s1, R, e1, fun ρ1 H1 p1 k1 R1 v rv => ⟨ρ1, fm, s1, i, s2, R1, e2, fun ρ2 H2 p2 k2 R2 => ⟨ρ2, fm, s2, j, s3, R2, e3, fun ρ3 H3 p3 k3 R3 => ?_⟩⟩⟩
  replace rv := RepV.mono p3 k3 _ _ (RepV.mono p2 k2 _ _ rv)
  replace T := T.then (List.IsPrefix.trans p1 (List.IsPrefix.trans p2 p3)) (k1.trans (k2.trans k3))
  unfold gCut at e4
  split at e4
  · split at e4
    · rename_i s hz
      cases e4
      simp only [RepV] at rv
      refine .inr (.inr ⟨_, rv, by rw [slen, sizeLine_eq]; exact hz, ?_⟩)
      have : cutS (⟨s.toArray⟩ : Str) i j = ⟨(cutL s i j).toArray⟩ := by
        unfold cutS cutL
        rw [slen]
      rw [this]
      exact T.same R3 _ repS
    · cases e4
  · rename_i ws
    cases e4
    obtain ⟨a, vs, rfl, h1, r1⟩ := tup_of rv
    refine .inr (.inl ⟨a, vs, rfl, h1, fun hw => ?_, fun _ p hp => ?_⟩)
    · have : cutL ws i j = ws := by
        unfold cutL
        rw [r1.length, hw.1, hw.2, List.drop_zero, Nat.sub_zero, ← r1.length]
        exact List.take_length
      rw [this] at T
      exact T.same R3 _ rv
    · refine T.tup R3 hp _ ?_
      simp only [RepV]
      exact ⟨p, _, rfl, upd_same, RepL.mono (List.prefix_refl _) (Kp.new hp) _ _ (cutL_rep r1 i j)⟩
  · simp only [Option.map_eq_some_iff] at e4
    obtain ⟨ws, e5, e6⟩ := e4
    cases e6
    obtain ⟨a, vs, rfl, g, r1⟩ := items_rep R3 rv e5
    exact .inl ⟨a, vs, rfl, g, fun p hp => T.push R3 hp (o := .lst _) ⟨_, upd_same, RepL.mono (List.prefix_append _ _) (Kp.new hp) _ _ (cutL_rep r1 i j)⟩ _ (ref_last R3.s.rl)⟩
end
/-! s[::-1], xs[::-1] -/
theorem sub_rev (a : Array Nat) : ((List.range a.size).map fun k => a.getD (a.size - 1 - k) 0) = a.toList.reverse := by
  apply List.ext_getElem
  · simp
  · intro i h1 h2
    simp at h1
    have : a.size - 1 - i < a.size := by omega
    simp [Array.getD, this]
def tRevS (te : TE) : TE := fun σ H Q => te σ H fun x H1 => ∃ z, x = .str z ∧ z.length ≤ sizeLine ∧ Q (.str ⟨z.cps.toList.reverse.toArray⟩) H1
theorem pe_revS {X : Cx} {e : Expr} {te : TE} {k : Nat} {p1 p2 p3 pos : Pos} (he : PE X e te) : PE X (.Subscript e (.Slice none none (some (.UnaryOp .USub (.Constant (.int 1) k p1) p2)) p3) pos) (tRevS te) := by
  refine ⟨fun pins s σ H Q I h => Subscript_ (thn (he.run pins s σ H _ I h) fun v s1 ⟨x, H1, I1, r1, z, ex, hz, q⟩ => ?_)⟩
  subst ex
  obtain ⟨t, rfl⟩ := r1
  have hst : PO X (some (.UnaryOp .USub (.Constant (.int 1) k p1) p2)) (tPart (tUn (rU fun i => .int (-i)) (tC (.int 1)))) := po_some (pe_un un_neg pe_int)
  refine wpAny_Slice (thn (po_none.run pins s1 σ H1 (fun o H2 => o = none ∧ H2 = H1) I1 ⟨rfl, rfl⟩) fun vl s2 ⟨l, H2, I2, pl, el, e2⟩ => ?_)
  subst el; subst e2
  refine thn (po_none.run pins s2 σ H2 (fun o H3 => o = none ∧ H3 = H2) I2 ⟨rfl, rfl⟩) fun vu s3 ⟨u, H3, I3, pu, eu, e3⟩ => ?_
  subst eu; subst e3
  refine thn (hst.run pins s3 σ H3 (fun o H4 => o = some (-1) ∧ H4 = H3) I3 ⟨1, rfl, -1, rfl, rfl, rfl⟩) fun vs s4 ⟨o, H4, I4, ps, eo, e4⟩ => ?_
  subst eo; subst e4
  have I5 : Inv X pins σ H4 { s4 with heap := s4.heap.push { cls := .type "slice", data := .fields #[vl, vu, vs] } } := I4.kept (t' := s4.toks) fun b ob q => Heap.get?_push_of_some _ q
  obtain ⟨l, el, elo⟩ := IsPart.raw pl
  obtain ⟨u, eu, euo⟩ := IsPart.raw pu
  obtain ⟨st, es, eso⟩ := IsPart.raw ps
  have hl : l = none := by simpa using elo
  have hu : u = none := by simpa using euo
  obtain ⟨⟨m, tm⟩, rfl, em⟩ := Option.map_eq_some_iff.mp eso
  have hm : m = -1 := em
  subst hl; subst hu; subst el; subst eu; subst es; subst hm
  show wpAny (model X.prog X.w) X.A (subscriptTail e (.Slice none none (some (.UnaryOp .USub (.Constant (.int 1) k p1) p2)) p3) (.str z t) (.ref s4.heap.objs.size)) (EP X pins σ Q) X.xe _
  refine tail_any (ops := [.str z t, .ref s4.heap.objs.size]) (typeIs_str _ _ _) F.slot_str_getitem.lookup ?_ (by with_unfolding_all rfl)
  refine wpAny_getItem_str_slice (l := none) (u := none) (st := some (-1, tm)) ⟨_, Heap.get?_push_size _ rfl, rfl, rfl⟩ rfl ?_
  have hp : Builtin.Str.strSliceIndices none none (-1) z.length = (List.range z.length).map fun k => z.length - 1 - k := picked_rev _
  have hx : ((Builtin.Str.strSliceIndices none none (-1) z.length).filterMap (z.cps[·]?)) = z.cps.toList.reverse := by
    rw [hp, filterMap_get, List.map_map]
    · exact sub_rev z.cps
    · intro i hi
      obtain ⟨k, hk, rfl⟩ := List.mem_map.mp hi
      have hk' : k < z.length := List.mem_range.mp hk
      show z.length - 1 - k < z.length
      omega
  show Made.post (if ((-1 : Int) == 1 && (Builtin.Str.strSliceIndices none none (-1) z.length).length == z.length) = true then Made.val (.str z t)
    else Made.str ⟨((Builtin.Str.strSliceIndices none none (-1) z.length).filterMap (z.cps[·]?)).toArray⟩) (EP X pins σ Q) _
  rw [hx, if_neg (by rw [show ((-1 : Int) == 1) = false from rfl, Bool.false_and]; exact Bool.false_ne_true)]
  exact ⟨by show z.cps.toList.reverse.toArray.size ≤ sizeLine; simpa [Str.length] using hz, .str _, H4, I5.tok _, ⟨_, rfl⟩, q⟩
def gRev (w : Va) (st : Sto) : Option (Va × Sto) := match w with
  | .str s => @ite _ (s.length ≤ 16777216) (Classical.propDecidable _) (some (.str s.reverse, st)) none
  | w => (itemsOf w st).map fun ws => (.ref st.length, st ++ [.lst ws.reverse])
theorem de_rev {X : Cx} {e : Expr} {f : Ev} {k : Nat} {p1 p2 p3 pos : Pos} (he : DE X e f) : DE X (.Subscript e (.Slice none none (some (.UnaryOp .USub (.Constant (.int 1) k p1) p2)) p3) pos) (eU gRev f) := PEi (PE.orr (pe_revS he) (pe_revL he)) fun σ H Q h => by
  obtain ⟨ρ, fm, st, w, st', R, e, T⟩ := h
  simp only [eU, Option.bind_eq_some_iff] at e
  obtain ⟨⟨x, s1⟩, e1, e2⟩ := e
  dsimp only at e2
  unfold gRev at e2
  split at e2
  · split at e2
    · rename_i s hz
      cases e2
      refine .inl ⟨ρ, fm, st, _, _, R, e1, fun ρ1 H1 p1 k1 R1 v rv => ?_⟩
      simp only [RepV] at rv
      exact ⟨_, rv, by rw [slen, sizeLine_eq]; exact hz, by simpa using (T.then p1 k1).same R1 _ repS⟩
    · cases e2
  · simp only [Option.map_eq_some_iff] at e2
    obtain ⟨ws, e5, e6⟩ := e2
    cases e6
    refine .inr ⟨ρ, fm, st, _, _, R, e1, fun ρ1 H1 p1 k1 R1 v rv => ?_⟩
    obtain ⟨a, vs, rfl, g, r1⟩ := items_rep R1 rv e5
    exact ⟨a, vs, rfl, g, fun p hp => (T.then p1 k1).push R1 hp (o := .lst _) ⟨_, upd_same, RepL.mono (List.prefix_append _ _) (Kp.new hp) _ _ r1.reverse⟩ _ (ref_last R1.s.rl)⟩

/-! ### calls of defs -/
def spD (K : PySem.W.Frag) (f : Fn) (np : Nat) : Sp := fun vs H Q _ => vs.length = np ∧ ∃ ρ st ws w st', SRel K ρ st H ∧ RepL K ρ H ws vs ∧ f ws st = some (w, st') ∧
  ∀ ρ' H', ρ <+: ρ' → Kp K H H' → SRel K ρ' st' H' → ∀ v, RepV K ρ' H' w v → Q v H'
def eCall (np : Nat) (f : Fn) (fa : Evs) : Ev := fun fm st => (fa fm st).bind fun p => if p.1.length = np then f p.1 p.2 else none
theorem spD_of {K : PySem.W.Frag} {f : Fn} {np : Nat} {fa : Evs} {E : XK} {σ : L2.St} {H : Hp} {Q : VK} (h : tD K (eCall np f fa) σ H Q) : tCall (spD K f np) [] E (tDs K fa) σ H Q := by
  obtain ⟨ρ, fm, st, w, st', R, e, T⟩ := h
  simp only [eCall, Option.bind_eq_some_iff] at e
  obtain ⟨⟨ws, s1⟩, e1, e2⟩ := e
  dsimp only at e2
  split at e2
  · rename_i hn
    refine ⟨ρ, fm, st, ws, s1, R, e1, fun ρ1 H1 p1 k1 R1 vs rv => ?_⟩
    show spD K f np (vs ++ []) H1 Q E
    rw [List.append_nil]
    exact ⟨by rw [← rv.length]; exact hn, ρ1, s1, ws, w, st', R1.s, rv, e2, fun ρ2 H2 p2 k2 S2 => (T.then p1 k1) ρ2 H2 p2 k2 ⟨S2, R1.e.mono p2 k2⟩⟩
  · cases e2
theorem de_call {X : Cx} {k : Nat} {f : Addr} {fd : FuncData} {ps : List Str} {fn : Fn} {np : Nat} {x : Str} {p pos : Pos} {e : Expr} {es : List Expr} {fa : Evs} (F : FnOk X.prog X.w X.K X.mg X.base CX0 k f fd ps (spD X.K fn np)) (hr : Room k X.A) (hg : Gl X x) (hm : X.mg x = some (.ref f)) (hk : PySem.W.keepIn X.K (.ref f) = true) (hb : Binds X.K fd ps [])
    (ha : DA X (e :: es) fa) (hdb : (x == ("__debug__" : Str)) = false := by decide) (he : starEach (e :: es) X.env = (false, eval e X.env) :: starEach es X.env := by rfl) (hpl : (backTo pos (starEach es X.env)).any (·.1) = false := by rfl) :
    DE X (.Call (.Name x p) (e :: es) [] pos) (eCall np fn fa) := PEi (pe_call F hr hg hm hk hb .nil pass0 ha hdb he hpl) fun _ _ _ h => spD_of h
/-- what is left of the store behind a call -/
def KeepOk (st st' : Sto) : Prop := ∀ (i : Nat) o, i < st.length → st'[i]? = some o → st[i]? = some o ∨ o.und st.length = true
section
open Classical
noncomputable def fin (st : Sto) (w : Va) (st' : Sto) : Va × Sto := if w.und st.length = true ∧ KeepOk st st' then (w, st'.take st.length) else (w, st')
noncomputable def fn (N np : Nat) (body : Sm) : Fn := fun ws st => if ws.length = np then (body (ws.map some ++ List.replicate (N - np) none) st).bind fun r => match r.1 with
  | .nx => some (fin st .non r.2.2)
  | .rt w => some (fin st w r.2.2)
  | _ => none else none
theorem fin_ok {K : PySem.W.Frag} {ρ ρ' : List Addr} {st st' : Sto} {H H' : Hp} {w : Va} {v : V} (S : SRel K ρ st H) (hp : ρ <+: ρ') (S' : SRel K ρ' st' H') (rv : RepV K ρ' H' w v) :
    ∃ ρ2, ρ <+: ρ2 ∧ SRel K ρ2 (fin st w st').2 H' ∧ RepV K ρ2 H' (fin st w st').1 v := by
  unfold fin
  split
  · rename_i h
    obtain ⟨h1, h2⟩ := h
    have hle : ρ.length ≤ ρ'.length := hp.length_le
    have hr : ρ'.take st.length = ρ := by
      obtain ⟨t, rfl⟩ := hp
      rw [← S.rl]; simp
    refine ⟨ρ'.take st.length, by rw [hr]; exact List.prefix_refl _, ⟨?_, fun i o e => ?_, fun i j a o o' e1 e2 e3 e4 m1 m2 => ?_⟩, RepV.cut w v h1 rv⟩
    · rw [List.length_take, List.length_take, S'.rl]
    · have hi : i < (st'.take st.length).length := (List.getElem?_eq_some_iff.mp e).1
      rw [List.length_take] at hi
      have hi' : i < st.length := by omega
      have e' : st'[i]? = some o := by
        rw [List.getElem?_take] at e
        simpa [hi'] using e
      obtain ⟨a, ea, ro⟩ := S'.sto i o e'
      have hu : o.und st.length = true := by
        rcases h2 i o hi' e' with q | q
        · obtain ⟨b, eb, r0⟩ := S.sto i o q
          rw [← S.rl]
          cases o with
          | lst ws => obtain ⟨vs, _, r⟩ := r0; exact RepL.has ws vs r
          | rol ws => obtain ⟨vs, _, r⟩ := r0; exact RepL.has ws vs r
          | dic kvs => obtain ⟨ks, _, _, r⟩ := r0; exact RepL.has _ _ r
          | dit kvs => obtain ⟨ks, _, _, r⟩ := r0; exact RepL.has _ _ r
        · exact q
      refine ⟨a, by rw [List.getElem?_take]; simp [hi', ea], ?_⟩
      cases o with
      | lst ws => obtain ⟨vs, q, r⟩ := ro; exact ⟨vs, q, RepL.cut _ _ hu r⟩
      | rol ws => obtain ⟨vs, q, r⟩ := ro; exact ⟨vs, q, RepL.cut _ _ hu r⟩
      | dic kvs => obtain ⟨ks, q, m, r⟩ := ro; exact ⟨ks, q, m, RepL.cut _ _ hu r⟩
      | dit kvs => obtain ⟨ks, q, m, r⟩ := ro; exact ⟨ks, q, m, RepL.cut _ _ hu r⟩
    · have tk : ∀ {α : Type} {l : List α} {i : Nat} {x : α}, (l.take st.length)[i]? = some x → l[i]? = some x := by
        intro α l i x e
        rw [List.getElem?_take] at e
        split at e
        · exact e
        · cases e
      exact S'.inj i j a o o' (tk e1) (tk e2) (tk e3) (tk e4) m1 m2
  · exact ⟨ρ', hp, S', rv⟩
end
theorem ok_def {P : Program} {w : World} {K : PySem.W.Frag} {mg : Str → Option Value} {base : Heap} {x qual : Str} {s : Stmt} {f : Addr} {fd : FuncData} {N ps : List Str} {k : Nat} {body : Sm} {n np : Nat} (F : Fun K x qual s f fd) (S : FnScope N ps (defScope s)) (hn : N.length = n) (hnp : ps.length = np) (hle : np ≤ n)
    (hb : ∀ (cdv : Value) (A : Around) (outer : List Env) (sh : Shared) (H : Hp) (E : XK), Room k (A.deeper (envOfC qual (defScope s) sh.heap.objs.size f cdv)) → DSs (cxOf CX0 P w K mg base N qual (defScope s) f cdv A outer sh H E).nox (defBody s) body) :
    FnOk P w K mg base CX0 (k + 1) f fd ps (spD K (fn n np body) np) := by
  subst hn; subst hnp
  refine F.ok S (fun vs H Q E h => h.1) fun cdv A outer sh H vs Q E hr h => ⟨_, hb cdv A outer sh H E hr, ?_⟩
  obtain ⟨hl, ρ, st, ws, w, st', S0, rl, e, T⟩ := h
  unfold fn at e
  split at e
  · rename_i hws
    simp only [Option.bind_eq_some_iff] at e
    obtain ⟨⟨fl, fm', s1⟩, e1, e2⟩ := e
    have E0 : ERel K ρ (ws.map some ++ List.replicate (N.length - ps.length) none) (L2.start N vs) H := by
      unfold L2.start
      have hlen := rl.length
      refine ⟨by rw [List.length_append, List.length_append, List.length_map, List.length_map, List.length_replicate, List.length_replicate]; omega, fun i w e => ?_⟩
      by_cases hi : i < ws.length
      · rw [List.getElem?_append_left (by rw [List.length_map]; exact hi), List.getElem?_map] at e
        obtain ⟨w', e', rfl⟩ : ∃ w', ws[i]? = some w' ∧ w' = w := by
          cases q : ws[i]? with
          | none => rw [q] at e; cases e
          | some w' => rw [q] at e; cases e; exact ⟨_, rfl, rfl⟩
        obtain ⟨v, hv, rv⟩ := rl.get e'
        exact ⟨v, by rw [List.getElem?_append_left (by rw [List.length_map, ← hlen]; exact hi), List.getElem?_map, hv]; rfl, rv⟩
      · rw [List.getElem?_append_right (by rw [List.length_map]; omega), List.getElem?_replicate] at e
        split at e <;> cases e
    refine ⟨ρ, _, st, fl, fm', s1, ⟨S0, E0⟩, e1, fun ρ1 H1 σ1 p1 k1 R1 => ?_⟩
    cases fl with
    | nx =>
      have e3 : fin st .non s1 = (w, st') := Option.some.inj e2
      obtain ⟨ρ2, a, b, c⟩ := fin_ok (w := .non) (v := .non) S0 p1 R1.s repN
      rw [e3] at b c
      exact T ρ2 H1 a k1 b _ c
    | rt w' =>
      intro v rv
      have e3 : fin st w' s1 = (w, st') := Option.some.inj e2
      obtain ⟨ρ2, a, b, c⟩ := fin_ok S0 p1 R1.s rv
      rw [e3] at b c
      exact T ρ2 H1 a k1 b _ c
    | bk => cases e2
    | ct => cases e2
  · cases e
/-- another name for what a def computes -/
theorem ok_eq {P : Program} {w : World} {K : PySem.W.Frag} {mg : Str → Option Value} {base : Heap} {f : Addr} {fd : FuncData} {ps : List Str} {k np : Nat} {g h : Fn} (e : g = h) (F : FnOk P w K mg base CX0 k f fd ps (spD K g np)) : FnOk P w K mg base CX0 k f fd ps (spD K h np) := e ▸ F

/-! ### the law's end -/
theorem end_of {K : PySem.W.Frag} {f : Fn} {H : Hp} {a : Addr} {ns : List Int} {s' : Sto} (hO : Only H) (hS : SqL K H a (ns.map V.int)) (h : f [.ref 0] [.rol (ns.map Va.int)] = some (.bl true, s')) :
    spD K f 1 [.ref a] H (fun v _ => v = .bl true) fun _ _ _ => False := by
  have hro : Ro K H a (ns.map V.int) := by
    rcases hS with (h | ⟨o, h⟩) | h
    · rcases hO a with z | ⟨o, xs, z⟩
      · rw [h] at z; cases z
      · rw [h] at z; cases z
    · exact .inl ⟨o, h⟩
    · exact .inr (.inr h)
  refine ⟨rfl, [a], [.rol (ns.map Va.int)], [.ref 0], .bl true, s', ⟨rfl, fun i o e => ?_, fun i j b o o' e1 e2 e3 e4 m1 m2 => ?_⟩, ?_, h, fun ρ' H' p k S v rv => by simpa only [RepV] using rv⟩
  · match i with
    | 0 =>
      simp at e; subst e
      exact ⟨a, rfl, ns.map V.int, hro, RepL.of_ints ns⟩
    | i + 1 => simp at e
  · match i, j with
    | 0, 0 => rfl
    | i + 1, _ => simp at e3
    | 0, j + 1 => simp at e4
  · exact RepL.cons (by simp only [RepV]; exact ⟨a, rfl, rfl⟩) RepL.nil
end
end T3
/-! T3, ninth part: short words for what the printer writes; chains of comparisons; membership -/
namespace T3
open PySem PySem.Spec PyProof.Rows L2
noncomputable section

/-! ### membership -/
def atomV : Va → Option V
  | .non => some .non
  | .bl b => some (.bl b)
  | .int i => some (.int i)
  | .str s => some (.str ⟨s.toArray⟩)
  | _ => none
def atomsV : List Va → Option (List V)
  | [] => some []
  | w :: ws => (atomV w).bind fun v => (atomsV ws).map (v :: ·)
/-- the items of a list or tuple -/
def seqOf (w : Va) (st : Sto) : Option (List Va) := match w with
  | .tup ws => some ws
  | .ktp ws => some ws
  | w => itemsOf w st
def inSeq (a : Va) (ws : List Va) : Option Bool := match (atomV a), (atomsV ws) with
  | some x, some xs => some (inV x xs)
  | _, _ => none
def dicIn (a b : Va) (st : Sto) : Option Bool := match b with
  | .ref n => match st[n]? with
    | some o => (dicAt o a).map (·.isSome)
    | _ => none
  | _ => none
/-- in a text, a list, a tuple -/
def inS (a b : Va) (st : Sto) : Option Bool := match a, b with
  | .str [c], .str s => some (decide (c ∈ s))
  | a, b => (seqOf b st).bind fun ws => match inSeq a ws with
    | some r => some r
    | none => match b with
      | .ref _ => (pyOf a st).bind fun d => (toPyL ws).bind fun ds => if SeqAt.shaped d = true ∧ SeqAt.shaped (.list ds) = true then some (ds.any fun z => PyData.eqv z d) else none
      | _ => none
def inW (a b : Va) (st : Sto) : Option Bool := match inS a b st with
  | some r => some r
  | none => dicIn a b st
def gIn (a b : Va) (st : Sto) : Option (Va × Sto) := (inW a b st).map fun r => (.bl r, st)
def gNin (a b : Va) (st : Sto) : Option (Va × Sto) := (inW a b st).map fun r => (.bl (!r), st)
section
variable {K : PySem.W.Frag} {ρ : List Addr} {H : Hp} {fm : Fm} {st : Sto} {σ : L2.St}
theorem atomV_rep {w : Va} {v x : V} (r : RepV K ρ H w v) (e : atomV w = some x) : v = x ∧ flatV x = true := by
  cases w <;> simp [atomV] at e <;> subst e <;> simp only [RepV] at r <;> exact ⟨r, rfl⟩
theorem atomsV_rep : ∀ {ws : List Va} {vs xs : List V}, RepL K ρ H ws vs → atomsV ws = some xs → vs = xs ∧ xs.all flatV = true
  | [], _, _, r, e => by cases e; simp only [RepL] at r; exact ⟨r, rfl⟩
  | w :: ws, _, _, r, e => by
    simp only [RepL] at r
    obtain ⟨v, vs, rfl, r1, r2⟩ := r
    simp only [atomsV, Option.bind_eq_some_iff, Option.map_eq_some_iff] at e
    obtain ⟨x, e1, xs, e2, rfl⟩ := e
    obtain ⟨rfl, h1⟩ := atomV_rep r1 e1
    obtain ⟨rfl, h2⟩ := atomsV_rep r2 e2
    exact ⟨rfl, by simp [h1, h2]⟩
theorem seq_rep {w : Va} {v : V} {xs : List Va} (R : Rel K ρ fm st σ H) (r : RepV K ρ H w v) (e : seqOf w st = some xs) : ∃ a vs, v = .ref a ∧ (SqL K H a vs ∨ SqT K H a vs) ∧ RepL K ρ H xs vs := by
  unfold seqOf at e
  split at e
  · cases e
    obtain ⟨a, vs, rfl, h, r⟩ := tup_of r
    exact ⟨a, vs, rfl, .inr h, r⟩
  · cases e
    obtain ⟨a, vs, rfl, h, r⟩ := ktp_of r
    exact ⟨a, vs, rfl, .inr h, r⟩
  · obtain ⟨a, vs, rfl, h, r⟩ := items_rep R r e
    exact ⟨a, vs, rfl, .inl h, r⟩
/-- the three ways of «in» that are no dict's -/
theorem inCase {a b : Va} {x y : V} {r : Bool} (R : Rel K ρ fm st σ H) (ra : RepV K ρ H a x) (rb : RepV K ρ H b y) (e : inS a b st = some r) :
    (∃ (c : Nat) (z : Str), x = .str ⟨#[c]⟩ ∧ y = .str z ∧ decide (c ∈ z.cps.toList) = r) ∨ (∃ p xs, y = .ref p ∧ (SqL K H p xs ∨ SqT K H p xs) ∧ flatV x = true ∧ xs.all flatV = true ∧ inV x xs = r) ∨
    (∃ d ds, Dp K H x d ∧ Dp K H y (.list ds) ∧ SeqAt.shaped d = true ∧ SeqAt.shaped (.list ds) = true ∧ (ds.any fun z => PyData.eqv z d) = r) := by
  unfold inS at e
  split at e
  · simp only [RepV] at ra rb
    cases e
    exact .inl ⟨_, _, ra, rb, by simp⟩
  · simp only [Option.bind_eq_some_iff] at e
    obtain ⟨ws, hs, e⟩ := e
    split at e
    · rename_i r' hr
      cases e
      obtain ⟨p, vs, rfl, h, rl⟩ := seq_rep R rb hs
      unfold inSeq at hr
      split at hr
      · rename_i x' xs' e1 e2
        cases hr
        obtain ⟨rfl, h1⟩ := atomV_rep ra e1
        obtain ⟨rfl, h2⟩ := atomsV_rep rl e2
        exact .inr (.inl ⟨p, _, rfl, h, h1, h2, rfl⟩)
      · cases hr
    · split at e
      · rename_i n
        simp only [Option.bind_eq_some_iff] at e
        obtain ⟨d, e1, ds, e2, e3⟩ := e
        split at e3
        · rename_i hz
          cases e3
          obtain ⟨p, vs, rfl, h, rl⟩ := items_rep R rb hs
          exact .inr (.inr ⟨d, ds, pyOf_dp R ra e1, .lst h (toPyL_dp _ _ _ rl e2), hz.1, hz.2, rfl⟩)
        · cases e3
      · cases e
theorem dicIn_rep {a b : Va} {x y : V} {r : Bool} (R : Rel K ρ fm st σ H) (ra : RepV K ρ H a x) (rb : RepV K ρ H b y) (e : dicIn a b st = some r) : ∃ p o, y = .ref p ∧ DGet H p x o ∧ o.isSome = r := by
  unfold dicIn at e
  split at e
  · split at e
    · rename_i o ho
      simp only [Option.map_eq_some_iff] at e
      obtain ⟨q, e1, e2⟩ := e
      obtain ⟨p, q', rfl, dg, hq⟩ := dic_at R rb ho ra e1
      refine ⟨p, q', rfl, dg, ?_⟩
      cases q with
      | none => dsimp only at hq; rw [hq]; exact e2
      | some w => dsimp only at hq; obtain ⟨v, rfl, _⟩ := hq; exact e2
    · cases e
  · cases e
end
section
variable {X : Cx} {a b c e : Expr} {es : List Expr} {f f1 f2 f3 : Ev} {fs : Evs} {p pos : Pos}
theorem in_imp (g : Bool → Bool) {r : R2} {td : TE → TE → TE} (hr : ∀ x y H Q, ((∃ (c : Nat) (z : Str), x = .str ⟨#[c]⟩ ∧ y = .str z ∧ Q (.bl (g (decide (c ∈ z.cps.toList)))) H) ∨ (∃ p xs, y = .ref p ∧ (SqL X.K H p xs ∨ SqT X.K H p xs) ∧ flatV x = true ∧ xs.all flatV = true ∧ Q (.bl (g (inV x xs))) H) ∨
    (∃ d ds, Dp X.K H x d ∧ Dp X.K H y (.list ds) ∧ SeqAt.shaped d = true ∧ SeqAt.shaped (.list ds) = true ∧ Q (.bl (g (ds.any fun z => PyData.eqv z d))) H)) → r x y H Q)
    (htd : ∀ ta tb σ H Q, (ta σ H fun y H1 => tb σ H1 fun x H2 => ∃ p o, x = .ref p ∧ DGet H2 p y o ∧ Q (.bl (g o.isSome)) H2) → td ta tb σ H Q) {σ : L2.St} {H : Hp} {Q : VK}
    (h : tD X.K (eB (fun a b st => (inW a b st).map fun r => (.bl (g r), st)) f1 f2) σ H Q) : tOp r (tD X.K f1) (tD X.K f2) σ H Q ∨ td (tD X.K f1) (tD X.K f2) σ H Q := by
  obtain ⟨ρ, fm, st, w, st', R, e, T⟩ := h
  simp only [eB, Option.bind_eq_some_iff, Option.map_eq_some_iff] at e
  obtain ⟨⟨x, s1⟩, e1, ⟨y, s2⟩, e2, r, e3, e4⟩ := e
  cases e4
  dsimp only at e2 e3 T
  unfold inW at e3
  split at e3
  · rename_i r' hs
    cases e3
    refine .inl ⟨ρ, fm, st, x, s1, R, e1, fun ρ1 H1 p1 k1 R1 u ru => ⟨ρ1, fm, s1, y, s2, R1, e2, fun ρ2 H2 p2 k2 R2 z rz => hr _ _ _ _ ?_⟩⟩
    have T2 := (T.then (List.IsPrefix.trans p1 p2) (k1.trans k2)).same R2 _ repB
    rcases inCase R2 (RepV.mono p2 k2 _ _ ru) rz hs with ⟨c, z', h1, h2, h3⟩ | ⟨p, xs, h1, h2, h3, h4, h5⟩ | ⟨d, ds, h1, h2, h3, h4, h5⟩
    · exact .inl ⟨c, z', h1, h2, by rw [h3]; exact T2⟩
    · exact .inr (.inl ⟨p, xs, h1, h2, h3, h4, by rw [h5]; exact T2⟩)
    · exact .inr (.inr ⟨d, ds, h1, h2, h3, h4, by rw [h5]; exact T2⟩)
  · refine .inr (htd _ _ _ _ _ ⟨ρ, fm, st, x, s1, R, e1, fun ρ1 H1 p1 k1 R1 u ru => ⟨ρ1, fm, s1, y, s2, R1, e2, fun ρ2 H2 p2 k2 R2 z rz => ?_⟩⟩)
    obtain ⟨p, o, h1, h2, h3⟩ := dicIn_rep R2 (RepV.mono p2 k2 _ _ ru) rz e3
    exact ⟨p, o, h1, h2, by rw [h3]; exact (T.then (List.IsPrefix.trans p1 p2) (k1.trans k2)).same R2 _ repB⟩
theorem bB_imp {g : Va → Va → Sto → Option (Va × Sto)} {K : PySem.W.Frag} {σ : L2.St} {H : Hp} {Q : Bool → Hp → Prop} (h : tDt K (bB g f1 f2) σ H Q) : tD K (eB g f1 f2) σ H (fun x H' => ∃ k, x = .bl k ∧ Q k H') := by
  obtain ⟨ρ, fm, st, b, st', R, e, T⟩ := h
  simp only [bB, Option.bind_eq_some_iff] at e
  obtain ⟨⟨a, s1⟩, e1, ⟨c, s2⟩, e2, ⟨r, s3⟩, e3, e4⟩ := e
  dsimp only at e4
  split at e4
  · cases e4
    refine ⟨ρ, fm, st, .bl b, st', R, ?_, fun ρ1 H1 p1 k1 R1 v rv => ?_⟩
    · simp only [eB, Option.bind_eq_some_iff]
      exact ⟨_, e1, _, e2, e3⟩
    · simp only [RepV] at rv
      exact ⟨b, rv, T ρ1 H1 p1 k1 R1⟩
  · cases e4
theorem PT.orr {X : Cx} {e : Expr} {t u : TT} (h : PT X e t) (h' : PT X e u) : PT X e (fun σ H Q => t σ H Q ∨ u σ H Q) := ⟨fun pins s σ H Q I q => q.elim (h.run pins s σ H Q I) (h'.run pins s σ H Q I)⟩
theorem in_hr {K : PySem.W.Frag} (x y : V) (H : Hp) (Q : VK) (h : (∃ (c : Nat) (z : Str), x = .str ⟨#[c]⟩ ∧ y = .str z ∧ Q (.bl ((fun b => b) (decide (c ∈ z.cps.toList)))) H) ∨ (∃ p xs, y = .ref p ∧ (SqL K H p xs ∨ SqT K H p xs) ∧ flatV x = true ∧ xs.all flatV = true ∧ Q (.bl ((fun b => b) (inV x xs))) H) ∨
    (∃ d ds, Dp K H x d ∧ Dp K H y (.list ds) ∧ SeqAt.shaped d = true ∧ SeqAt.shaped (.list ds) = true ∧ Q (.bl ((fun b => b) (ds.any fun z => PyData.eqv z d))) H)) :
    (∃ (c : Nat) (z : Str), x = .str ⟨#[c]⟩ ∧ y = .str z ∧ Q (.bl (decide (c ∈ z.cps.toList))) H) ∨ rIn K false x y H Q ∨ rInD K x y H Q := by
  rcases h with h | ⟨p, xs, h1, h2, h3, h4, h5⟩ | h
  · exact .inl h
  · exact .inr (.inl ⟨p, xs, h1, h2, h3, h4, by rw [if_neg Bool.false_ne_true]; exact h5⟩)
  · exact .inr (.inr h)
theorem nin_hr {K : PySem.W.Frag} (x y : V) (H : Hp) (Q : VK) (h : (∃ (c : Nat) (z : Str), x = .str ⟨#[c]⟩ ∧ y = .str z ∧ Q (.bl ((fun b => !b) (decide (c ∈ z.cps.toList)))) H) ∨ (∃ p xs, y = .ref p ∧ (SqL K H p xs ∨ SqT K H p xs) ∧ flatV x = true ∧ xs.all flatV = true ∧ Q (.bl ((fun b => !b) (inV x xs))) H) ∨
    (∃ d ds, Dp K H x d ∧ Dp K H y (.list ds) ∧ SeqAt.shaped d = true ∧ SeqAt.shaped (.list ds) = true ∧ Q (.bl ((fun b => !b) (ds.any fun z => PyData.eqv z d))) H)) :
    (∃ (c : Nat) (z : Str), x = .str ⟨#[c]⟩ ∧ y = .str z ∧ Q (.bl (!decide (c ∈ z.cps.toList))) H) ∨ rIn K true x y H Q ∨ rNotInD K x y H Q := by
  rcases h with h | ⟨p, xs, h1, h2, h3, h4, h5⟩ | h
  · exact .inl h
  · exact .inr (.inl ⟨p, xs, h1, h2, h3, h4, by rw [if_pos rfl]; exact h5⟩)
  · exact .inr (.inr h)
theorem de_in (hu : X.A.units + 65 < cLine) (ha : DE X a f1) (hb : DE X b f2) (hk : behindInMarks .In b = false := by rfl) : DE X (.Compare a [.In] [b] pos) (eB gIn f1 f2) :=
  PEi (PE.orr (pe_cmpR (op_in_sign.or (op_in_seq.or (op_inD hu))) ha hb hk) (pe_cmp (pc_din (by omega) ha hb) hk)) fun σ H Q h =>
    in_imp (fun b => b) (td := fun ta tb => tDIn ta tb) in_hr (fun ta tb σ H Q h => h) h
theorem de_nin (hu : X.A.units + 65 < cLine) (ha : DE X a f1) (hb : DE X b f2) (hk : behindInMarks .NotIn b = false := by rfl) : DE X (.Compare a [.NotIn] [b] pos) (eB gNin f1 f2) :=
  PEi (PE.orr (pe_cmpR (op_notIn_sign.or (op_notIn_seq.or (op_notInD hu))) ha hb hk) (pe_cmp (pc_dnotin (by omega) ha hb) hk)) fun σ H Q h =>
    in_imp (fun b => !b) (td := fun ta tb => tDNotIn ta tb) nin_hr (fun ta tb σ H Q h => h) h
theorem dt_in (hu : X.A.units + 65 < cLine) (ha : DE X a f1) (hb : DE X b f2) (hk : behindInMarks .In b = false := by rfl) : DT X (.Compare a [.In] [b] pos) (bB gIn f1 f2) :=
  PTi (PT.orr (pt_cmpR (op_in_sign.or (op_in_seq.or (op_inD hu))) ha hb hk) (pt_cmp (pc_din (by omega) ha hb) hk)) fun σ H Q h =>
    in_imp (fun b => b) (td := fun ta tb => tDIn ta tb) in_hr (fun ta tb σ H Q h => h) (bB_imp h)
theorem dt_nin (hu : X.A.units + 65 < cLine) (ha : DE X a f1) (hb : DE X b f2) (hk : behindInMarks .NotIn b = false := by rfl) : DT X (.Compare a [.NotIn] [b] pos) (bB gNin f1 f2) :=
  PTi (PT.orr (pt_cmpR (op_notIn_sign.or (op_notIn_seq.or (op_notInD hu))) ha hb hk) (pt_cmp (pc_dnotin (by omega) ha hb) hk)) fun σ H Q h =>
    in_imp (fun b => !b) (td := fun ta tb => tDNotIn ta tb) nin_hr (fun ta tb σ H Q h => h) (bB_imp h)

/-! ### comparisons in short -/
theorem de_eq (hu : X.A.units + 64 < cLine) (ha : DE X a f1) (hb : DE X b f2) : DE X (.Compare a [.Eq] [b] pos) (eB gEq f1 f2) := let ⟨_, h1, h2⟩ := cmpEq hu; de_cmp h1 h2 ha hb (nomark _)
theorem de_ne (hu : X.A.units + 64 < cLine) (ha : DE X a f1) (hb : DE X b f2) : DE X (.Compare a [.NotEq] [b] pos) (eB gNe f1 f2) := let ⟨_, h1, h2⟩ := cmpNe hu; de_cmp h1 h2 ha hb (nomark _)
theorem de_lt (ha : DE X a f1) (hb : DE X b f2) : DE X (.Compare a [.Lt] [b] pos) (eB gLt f1 f2) := let ⟨_, h1, h2⟩ := cmpLt; de_cmp h1 h2 ha hb (nomark _)
theorem de_le (ha : DE X a f1) (hb : DE X b f2) : DE X (.Compare a [.LtE] [b] pos) (eB gLe f1 f2) := let ⟨_, h1, h2⟩ := cmpLe; de_cmp h1 h2 ha hb (nomark _)
theorem de_gt (ha : DE X a f1) (hb : DE X b f2) : DE X (.Compare a [.Gt] [b] pos) (eB gGt f1 f2) := let ⟨_, h1, h2⟩ := cmpGt; de_cmp h1 h2 ha hb (nomark _)
theorem de_ge (ha : DE X a f1) (hb : DE X b f2) : DE X (.Compare a [.GtE] [b] pos) (eB gGe f1 f2) := let ⟨_, h1, h2⟩ := cmpGe; de_cmp h1 h2 ha hb (nomark _)
theorem de_is (ha : DE X a f1) (hb : DE X b f2) : DE X (.Compare a [.Is] [b] pos) (eB gIs f1 f2) := let ⟨_, h1, h2⟩ := cmpIs; de_cmp h1 h2 ha hb (nomark _)
theorem de_isn (ha : DE X a f1) (hb : DE X b f2) : DE X (.Compare a [.IsNot] [b] pos) (eB gIsN f1 f2) := let ⟨_, h1, h2⟩ := cmpIsN; de_cmp h1 h2 ha hb (nomark _)
theorem dt_eq (hu : X.A.units + 64 < cLine) (ha : DE X a f1) (hb : DE X b f2) : DT X (.Compare a [.Eq] [b] pos) (bB gEq f1 f2) := let ⟨_, h1, h2⟩ := cmpEq hu; dt_cmp h1 h2 ha hb (nomark _)
theorem dt_ne (hu : X.A.units + 64 < cLine) (ha : DE X a f1) (hb : DE X b f2) : DT X (.Compare a [.NotEq] [b] pos) (bB gNe f1 f2) := let ⟨_, h1, h2⟩ := cmpNe hu; dt_cmp h1 h2 ha hb (nomark _)
theorem dt_lt (ha : DE X a f1) (hb : DE X b f2) : DT X (.Compare a [.Lt] [b] pos) (bB gLt f1 f2) := let ⟨_, h1, h2⟩ := cmpLt; dt_cmp h1 h2 ha hb (nomark _)
theorem dt_le (ha : DE X a f1) (hb : DE X b f2) : DT X (.Compare a [.LtE] [b] pos) (bB gLe f1 f2) := let ⟨_, h1, h2⟩ := cmpLe; dt_cmp h1 h2 ha hb (nomark _)
theorem dt_gt (ha : DE X a f1) (hb : DE X b f2) : DT X (.Compare a [.Gt] [b] pos) (bB gGt f1 f2) := let ⟨_, h1, h2⟩ := cmpGt; dt_cmp h1 h2 ha hb (nomark _)
theorem dt_ge (ha : DE X a f1) (hb : DE X b f2) : DT X (.Compare a [.GtE] [b] pos) (bB gGe f1 f2) := let ⟨_, h1, h2⟩ := cmpGe; dt_cmp h1 h2 ha hb (nomark _)
theorem dt_is (ha : DE X a f1) (hb : DE X b f2) : DT X (.Compare a [.Is] [b] pos) (bB gIs f1 f2) := let ⟨_, h1, h2⟩ := cmpIs; dt_cmp h1 h2 ha hb (nomark _)
theorem dt_isn (ha : DE X a f1) (hb : DE X b f2) : DT X (.Compare a [.IsNot] [b] pos) (bB gIsN f1 f2) := let ⟨_, h1, h2⟩ := cmpIsN; dt_cmp h1 h2 ha hb (nomark _)
/-- a op b op' c -/
def eCh (g g' : Va → Va → Sto → Option (Va × Sto)) (f1 f2 f3 : Ev) : Ev := fun fm st => (f1 fm st).bind fun p => (f2 fm p.2).bind fun q => (g p.1 q.1 q.2).bind fun r => match r.1 with
  | .bl true => (f3 fm r.2).bind fun t => g' q.1 t.1 t.2
  | .bl false => some (.bl false, r.2)
  | _ => none
theorem ch_imp {g g' : Va → Va → Sto → Option (Va × Sto)} {r r' : R2} {K : PySem.W.Frag} {σ : L2.St} {H : Hp} {Q : VK} (hm : MB K g r) (hm' : MB K g' r') (h : tD K (eCh g g' f1 f2 f3) σ H Q) : tChain r r' (tD K f1) (tD K f2) (tD K f3) σ H Q := by
  obtain ⟨ρ, fm, st, w, st', R, e, T⟩ := h
  simp only [eCh, Option.bind_eq_some_iff] at e
  obtain ⟨⟨x, s1⟩, e1, ⟨y, s2⟩, e2, ⟨z, s3⟩, e3, e4⟩ := e
  dsimp only at e2 e3 e4
  refine ⟨ρ, fm, st, x, s1, R, e1, fun ρ1 H1 p1 k1 R1 u ru => ⟨ρ1, fm, s1, y, s2, R1, e2, fun ρ2 H2 p2 k2 R2 v rv => ?_⟩⟩
  refine hm ρ2 fm s2 σ H2 x y u v z s3 _ R2 (RepV.mono p2 k2 _ _ ru) rv e3 fun ρ3 H3 p3 k3 R3 t rt => ?_
  have T3 := T.then (List.IsPrefix.trans p1 (List.IsPrefix.trans p2 p3)) (k1.trans (k2.trans k3))
  split at e4
  · simp only [RepV] at rt
    refine ⟨true, rt, ?_⟩
    rw [if_pos rfl]
    simp only [Option.bind_eq_some_iff] at e4
    obtain ⟨⟨q, s4⟩, e5, e6⟩ := e4
    exact ⟨ρ3, fm, _, q, s4, R3, e5, fun ρ4 H4 p4 k4 R4 q' rq => hm' ρ4 fm s4 σ H4 y q v q' w st' _ R4 (RepV.mono p4 k4 _ _ (RepV.mono p3 k3 _ _ rv)) rq e6 (T3.then p4 k4)⟩
  · simp only [RepV] at rt
    refine ⟨false, rt, ?_⟩
    rw [if_neg Bool.false_ne_true]
    cases e4
    exact T3.same R3 _ repB
  · cases e4
theorem de_ch {op op' : CmpOp} {g g' : Va → Va → Sto → Option (Va × Sto)} (h1 : ∃ r, OpR X (compareOp op) r ∧ MB X.K g r) (h2 : ∃ r, OpR X (compareOp op') r ∧ MB X.K g' r) (ha : DE X a f1) (hb : DE X b f2) (hc : DE X c f3) (hm : lastMarks [op, op'] [b, c] = false := by with_unfolding_all rfl) :
    DE X (.Compare a [op, op'] [b, c] pos) (eCh g g' f1 f2 f3) := let ⟨_, a1, a2⟩ := h1; let ⟨_, b1, b2⟩ := h2; PEi (pe_chain a1 b1 ha hb hc hm) fun _ _ _ h => ch_imp a2 b2 h
/-- a test by a value that is a bool -/
def bO (f : Ev) : Et := fun fm st => (f fm st).bind fun p => match p.1 with
  | .bl b => some (b, p.2)
  | _ => none
theorem bO_imp {K : PySem.W.Frag} {σ : L2.St} {H : Hp} {Q : Bool → Hp → Prop} (h : tDt K (bO f) σ H Q) : tD K f σ H (fun x H' => ∃ k, x = .bl k ∧ Q k H') := by
  obtain ⟨ρ, fm, st, b, st', R, e, T⟩ := h
  simp only [bO, Option.bind_eq_some_iff] at e
  obtain ⟨⟨a, s1⟩, e1, e4⟩ := e
  dsimp only at e4
  split at e4
  · cases e4
    refine ⟨ρ, fm, st, .bl b, st', R, e1, fun ρ1 H1 p1 k1 R1 v rv => ?_⟩
    simp only [RepV] at rv
    exact ⟨b, rv, T ρ1 H1 p1 k1 R1⟩
  · cases e4
theorem dt_ch {op op' : CmpOp} {g g' : Va → Va → Sto → Option (Va × Sto)} (h1 : ∃ r, OpR X (compareOp op) r ∧ MB X.K g r) (h2 : ∃ r, OpR X (compareOp op') r ∧ MB X.K g' r) (ha : DE X a f1) (hb : DE X b f2) (hc : DE X c f3) (hm : lastMarks [op, op'] [b, c] = false := by with_unfolding_all rfl) :
    DT X (.Compare a [op, op'] [b, c] pos) (bO (eCh g g' f1 f2 f3)) := let ⟨_, a1, a2⟩ := h1; let ⟨_, b1, b2⟩ := h2; PTi (pt_chain a1 b1 ha hb hc hm) fun _ _ _ h => ch_imp a2 b2 (bO_imp h)

/-! ### built-ins in short -/
variable (pos p)
theorem de_B {x : Str} {id : String} {g : List Va → Sto → Option (Va × Sto)} (hc : ∃ r, CallR X (.builtin id) r ∧ ML X.K g r) (hv : bootBuiltins x = some (.builtin id)) (hx : X.mg x = none) (ha : DA X (e :: es) fs) (hg : Gl X x := by rfl) (hn : x ≠ "__name__" := by decide) (hdb : (x == ("__debug__" : Str)) = false := by decide)
    (he : starEach (e :: es) X.env = (false, eval e X.env) :: starEach es X.env := by rfl) (hpl : (backTo pos (starEach es X.env)).any (·.1) = false := by rfl) : DE X (.Call (.Name x p) (e :: es) [] pos) (eA g fs) :=
  let ⟨_, a1, a2⟩ := hc; de_callB a1 a2 hg hx hv ha hn hdb he hpl
theorem de_T {x : Str} {id : String} {g : List Va → Sto → Option (Va × Sto)} (hc : ∃ r, CallR X (.type id) r ∧ ML X.K g r) (hv : bootBuiltins x = some (.type id)) (hx : X.mg x = none) (ha : DA X (e :: es) fs) (hg : Gl X x := by rfl) (hn : x ≠ "__name__" := by decide) (hdb : (x == ("__debug__" : Str)) = false := by decide)
    (he : starEach (e :: es) X.env = (false, eval e X.env) :: starEach es X.env := by rfl) (hpl : (backTo pos (starEach es X.env)).any (·.1) = false := by rfl) : DE X (.Call (.Name x p) (e :: es) [] pos) (eA g fs) :=
  let ⟨_, a1, a2⟩ := hc; de_callT a1 a2 hg hx hv ha hn hdb he hpl
theorem de_g {x : Str} {w : Va} {v : V} {u : Value} (hm : X.mg x = some u) (r : RelV v u) (h : ∀ ρ H, RepV X.K ρ H w v) (hg : Gl X x := by rfl) (hd : (x == ("__debug__" : Str)) = false := by decide) : DE X (.Name x pos) (eC w) := de_c (pe_glob hg hm r hd) h
theorem de_gi {x : Str} {i : Int} {t : Tok} (hm : X.mg x = some (.int i t)) (hg : Gl X x := by rfl) (hd : (x == ("__debug__" : Str)) = false := by decide) : DE X (.Name x pos) (eC (.int i)) := de_g (v := .int i) pos hm ⟨t, rfl⟩ (fun _ _ => repI) hg hd
theorem de_gs {x : Str} {z : Str} {l : List Nat} {t : Tok} (hm : X.mg x = some (.str z t)) (hz : z = ⟨l.toArray⟩) (hg : Gl X x := by rfl) (hd : (x == ("__debug__" : Str)) = false := by decide) : DE X (.Name x pos) (eC (.str l)) := de_g (v := .str z) pos hm ⟨t, rfl⟩ (fun _ _ => by rw [hz]; exact repS) hg hd
end
/-- a def of which no call is let in -/
theorem ok_none {P : Program} {w : World} {K : PySem.W.Frag} {mg : Str → Option Value} {base : Heap} {f : Addr} {fd : FuncData} {ps : List Str} {k np : Nat} (h : ps.length = np) : FnOk P w K mg base CX0 k f fd ps (spD K (fun _ _ => none) np) :=
  ⟨fun vs H Q E h' => h'.1.trans h.symm, fun A outer s H args us vs Q E hr e0 hb r ⟨_, _, _, _, _, _, _, _, e, _⟩ => by cases e⟩
end
end T3
namespace T3
open PySem PySem.Spec PyProof.Rows L2
noncomputable section
theorem hu65_of {A : Around} {k : Nat} (hr : Room k A) : A.units + 65 < cLine := by
  have h := hr.un
  have h2 : (0 : Nat) ≤ k := Nat.zero_le _
  omega
end
end T3
/-! T3: comprehensions within comprehensions -/
namespace T3
open PySem PySem.Spec PyProof.Rows L2
/-- a comprehension's names as they are met, over the block around it -/
def relab (scope sc0 : Scope) : Scope :=
  { scope with names := scope.names.map fun (n, k) => if (k == .free && sc0.kind == .function && sc0.names.lookup n == some .cell) then (n, .cell) else (n, k) }
end T3
/-! T3: what the combinators give where they stand at a frame and a store -/
namespace T3
open PySem PySem.Spec PyProof.Rows L2
noncomputable section
variable {f g h f1 f2 f3 : Ev} {fa ga : Evs} {ft gt : Et} {fs gs : Sm} {fm : Fm} {st : Sto} {w : Va} {i : Nat} {fg : Fg} {fgs : Fgs}
theorem eC_ap : eC w fm st = some (w, st) := rfl
theorem eB_ap {k : Va → Va → Sto → Option (Va × Sto)} : eB k f1 f2 fm st = (f1 fm st).bind fun p => (f2 fm p.2).bind fun q => k p.1 q.1 q.2 := rfl
theorem eU_ap {k : Va → Sto → Option (Va × Sto)} : eU k f fm st = (f fm st).bind fun p => k p.1 p.2 := rfl
theorem aN_ap : aN fm st = some ([], st) := rfl
theorem aC_ap : aC f fa fm st = (f fm st).bind fun p => (fa fm p.2).bind fun q => some (p.1 :: q.1, q.2) := rfl
theorem eA_ap {k : List Va → Sto → Option (Va × Sto)} : eA k fa fm st = (fa fm st).bind fun p => k p.1 p.2 := rfl
theorem eMt_ap {T : String} {k : Va → List Va → Sto → Option (Va × Sto)} : eMt T k f fa fm st = (f fm st).bind fun p => if hasTy T p.1 p.2 = true then (fa fm p.2).bind fun q => k p.1 q.1 q.2 else none := rfl
theorem bB_ap {k : Va → Va → Sto → Option (Va × Sto)} : bB k f1 f2 fm st = (f1 fm st).bind fun p => (f2 fm p.2).bind fun q => (k p.1 q.1 q.2).bind fun r => match r.1 with
  | .bl b => some (b, r.2)
  | _ => none := rfl
theorem bV_ap : bV f fm st = (f fm st).bind fun p => (truth p.1 p.2).bind fun b => some (b, p.2) := rfl
theorem bO_ap : bO f fm st = (f fm st).bind fun p => match p.1 with
  | .bl b => some (b, p.2)
  | _ => none := rfl
theorem bAnd_ap : bAnd ft gt fm st = (ft fm st).bind fun p => if p.1 = true then gt fm p.2 else some (false, p.2) := rfl
theorem bOr_ap : bOr ft gt fm st = (ft fm st).bind fun p => if p.1 = true then some (true, p.2) else gt fm p.2 := rfl
theorem bNot_ap : bNot ft fm st = (ft fm st).bind fun p => some (!p.1, p.2) := rfl
theorem bYes_ap : bYes fm st = some (true, st) := rfl
theorem eAnd_ap : eAnd f g fm st = (f fm st).bind fun p => match p.1 with
  | .bl true => g fm p.2
  | .bl false => some (.bl false, p.2)
  | _ => none := rfl
theorem eOr_ap : eOr f g fm st = (f fm st).bind fun p => match p.1 with
  | .bl false => g fm p.2
  | .bl true => some (.bl true, p.2)
  | _ => none := rfl
theorem eNot_ap : eNot f fm st = (f fm st).bind fun p => match p.1 with
  | .bl b => some (.bl (!b), p.2)
  | _ => none := rfl
theorem eIf_ap : eIf ft f g fm st = (ft fm st).bind fun p => if p.1 = true then f fm p.2 else g fm p.2 := rfl
theorem eCh_ap {k k' : Va → Va → Sto → Option (Va × Sto)} : eCh k k' f1 f2 f3 fm st = (f1 fm st).bind fun p => (f2 fm p.2).bind fun q => (k p.1 q.1 q.2).bind fun r => match r.1 with
  | .bl true => (f3 fm r.2).bind fun t => k' q.1 t.1 t.2
  | .bl false => some (.bl false, r.2)
  | _ => none := rfl
theorem eTup_ap : eTup fa fm st = (fa fm st).bind fun p => @ite _ (p.1.length ≤ 16777216) (Classical.propDecidable _) (some (.tup p.1, p.2)) none := rfl
theorem eLst_ap : eLst fa fm st = (fa fm st).bind fun p => @ite _ (p.1.length ≤ 16777216) (Classical.propDecidable _) (some (.ref p.2.length, p.2 ++ [.lst p.1])) none := rfl
theorem sNil_ap : sNil fm st = some (.nx, fm, st) := rfl
theorem sCons_ap : sCons fs gs fm st = (fs fm st).bind fun r => match r.1 with
  | .nx => gs r.2.1 r.2.2
  | _ => some r := rfl
theorem sSet_ap : sSet i f fm st = (f fm st).bind fun p => some (.nx, fm.set i (some p.1), p.2) := rfl
theorem sEx_ap : sEx f fm st = (f fm st).bind fun p => some (.nx, fm, p.2) := rfl
theorem sRet_ap : sRet f fm st = (f fm st).bind fun p => some (.rt p.1, fm, p.2) := rfl
theorem sRetN_ap : sRetN fm st = some (.rt .non, fm, st) := rfl
theorem sBk_ap : sBk fm st = some (.bk, fm, st) := rfl
theorem sCt_ap : sCt fm st = some (.ct, fm, st) := rfl
theorem sIf_ap : sIf ft fs gs fm st = (ft fm st).bind fun p => if p.1 = true then fs fm p.2 else gs fm p.2 := rfl
theorem gN_ap : gN i w fm = some (fm.set i (some w)) := rfl
theorem gT_ap {ws : List Va} : gT fgs (.tup ws) fm = fgs ws fm := rfl
theorem gsC_ap {ws : List Va} : gsC fg fgs (w :: ws) fm = (fg w fm).bind (fgs ws) := rfl
theorem gsN_ap : gsN [] fm = some fm := rfl
theorem sAsg_ap : sAsg fg f fm st = (f fm st).bind fun p => (fg p.1 fm).bind fun fm' => some (.nx, fm', p.2) := rfl
theorem sFor_ap {fi : Fi} : sFor fi fg fs fm st = (fi fm st).bind fun r => forL r.1.gd fg fs r.1.ws fm r.2 := rfl
theorem iA_ap : iA f fm st = (f fm st).bind fun p => (srcOf p.1 p.2).map fun S => (S, p.2) := rfl
theorem eCall_ap {np : Nat} {k : Fn} : eCall np k fa fm st = (fa fm st).bind fun p => if p.1.length = np then k p.1 p.2 else none := rfl
theorem fn_ap {N np : Nat} {ws : List Va} : fn N np fs ws st = if ws.length = np then (fs (ws.map some ++ List.replicate (N - np) none) st).bind fun r => match r.1 with
  | .nx => some (fin st .non r.2.2)
  | .rt w => some (fin st w r.2.2)
  | _ => none else none := rfl
theorem eCut_ap {a b : Ep} : eCut f a b fm st = (f fm st).bind fun p => (a fm p.2).bind fun q => (b fm q.2).bind fun r => gCut p.1 q.1 r.1 r.2 := rfl
theorem pNo_ap : pNo fm st = some (none, st) := rfl
theorem pSo_ap : pSo f fm st = (f fm st).bind fun p => match p.1 with
  | .int i => some (some i, p.2)
  | _ => none := rfl
theorem sPut_ap {fo fi fv : Ev} : sPut fo fi fv fm st = (fv fm st).bind fun v => (fo fm v.2).bind fun o => (fi fm o.2).bind fun i => (setW o.1 i.1 v.1 i.2).map fun st' => (.nx, fm, st') := rfl
theorem eV_ap (h : fm[i]? = some (some w)) : eV i fm st = some (w, st) := by simp only [eV, h]
theorem eV0 {r : Fm} : eV 0 (some w :: r) st = some (w, st) := rfl
theorem eV1 {a0 : Option Va} {r : Fm} : eV 1 (a0 :: some w :: r) st = some (w, st) := rfl
theorem eV2 {a0 a1 : Option Va} {r : Fm} : eV 2 (a0 :: a1 :: some w :: r) st = some (w, st) := rfl
theorem eV3 {a0 a1 a2 : Option Va} {r : Fm} : eV 3 (a0 :: a1 :: a2 :: some w :: r) st = some (w, st) := rfl
theorem eV4 {a0 a1 a2 a3 : Option Va} {r : Fm} : eV 4 (a0 :: a1 :: a2 :: a3 :: some w :: r) st = some (w, st) := rfl
theorem eV5 {a0 a1 a2 a3 a4 : Option Va} {r : Fm} : eV 5 (a0 :: a1 :: a2 :: a3 :: a4 :: some w :: r) st = some (w, st) := rfl
theorem eV6 {a0 a1 a2 a3 a4 a5 : Option Va} {r : Fm} : eV 6 (a0 :: a1 :: a2 :: a3 :: a4 :: a5 :: some w :: r) st = some (w, st) := rfl
theorem eV7 {a0 a1 a2 a3 a4 a5 a6 : Option Va} {r : Fm} : eV 7 (a0 :: a1 :: a2 :: a3 :: a4 :: a5 :: a6 :: some w :: r) st = some (w, st) := rfl
theorem eV8 {a0 a1 a2 a3 a4 a5 a6 a7 : Option Va} {r : Fm} : eV 8 (a0 :: a1 :: a2 :: a3 :: a4 :: a5 :: a6 :: a7 :: some w :: r) st = some (w, st) := rfl
theorem eV9 {a0 a1 a2 a3 a4 a5 a6 a7 a8 : Option Va} {r : Fm} : eV 9 (a0 :: a1 :: a2 :: a3 :: a4 :: a5 :: a6 :: a7 :: a8 :: some w :: r) st = some (w, st) := rfl
end
end T3
/-! T3, tenth part: how the laws draw -/
namespace T3
open PySem PySem.Spec PyProof.Rows L2
noncomputable section

theorem gMul_r {i j : Int} {st : Sto} (h : j.natAbs < 18446744073709551616) : gMul (.int i) (.int j) st = some (.int (i * j), st) := by
  simp only [gMul]; rw [if_pos (.inr (.inr h))]
theorem gMul_l {i j : Int} {st : Sto} (h : i.natAbs < 18446744073709551616) : gMul (.int i) (.int j) st = some (.int (i * j), st) := by
  simp only [gMul]; rw [if_pos (.inr (.inl h))]
theorem gMod_p {i j : Int} {st : Sto} (h : 0 < j) : gMod (.int i) (.int j) st = some (.int (i % j), st) := by
  simp only [gMod]; rw [if_pos h]
theorem gAdd_i {i j : Int} {st : Sto} : gAdd (.int i) (.int j) st = some (.int (i + j), st) := rfl
theorem gSub_i {i j : Int} {st : Sto} : T3.gSub (.int i) (.int j) st = some (.int (i - j), st) := rfl
theorem gInt_i {i : Int} {st : Sto} : gInt [.int i] st = some (.int i, st) := rfl
theorem gMul_big {i j : Int} {st : Sto} (h : i.natAbs.log2 + j.natAbs.log2 < 1000000) : gMul (.int i) (.int j) st = some (.int (i * j), st) := if_pos (.inl h)
theorem gEq_i {i j : Int} {st : Sto} : gEq (.int i) (.int j) st = some (.bl (decide (i = j)), st) := rfl
theorem gEq_s {i j : List Nat} {st : Sto} : gEq (.str i) (.str j) st = some (.bl (decide (i = j)), st) := rfl
theorem gEq_b {i j : Bool} {st : Sto} : gEq (.bl i) (.bl j) st = some (.bl (decide (i = j)), st) := rfl
theorem gNe_i {i j : Int} {st : Sto} : gNe (.int i) (.int j) st = some (.bl (!decide (i = j)), st) := rfl
theorem gNe_s {i j : List Nat} {st : Sto} : gNe (.str i) (.str j) st = some (.bl (!decide (i = j)), st) := rfl
theorem gNe_b {i j : Bool} {st : Sto} : gNe (.bl i) (.bl j) st = some (.bl (!decide (i = j)), st) := rfl
theorem gLt_i {i j : Int} {st : Sto} : gLt (.int i) (.int j) st = some (.bl (decide (i < j)), st) := rfl
theorem gLe_i {i j : Int} {st : Sto} : gLe (.int i) (.int j) st = some (.bl (decide (i ≤ j)), st) := rfl
theorem gGt_i {i j : Int} {st : Sto} : gGt (.int i) (.int j) st = some (.bl (decide (j < i)), st) := rfl
theorem gGe_i {i j : Int} {st : Sto} : gGe (.int i) (.int j) st = some (.bl (decide (j ≤ i)), st) := rfl
theorem gAdd_s {i j : List Nat} {st : Sto} (h : i.length + j.length ≤ 16777216) : gAdd (.str i) (.str j) st = some (.str (i ++ j), st) := if_pos h
theorem und_non {n : Nat} : Va.und n .non = true := rfl
theorem und_bl {n : Nat} {b : Bool} : Va.und n (.bl b) = true := rfl
theorem und_int {n : Nat} {b : Int} : Va.und n (.int b) = true := rfl
theorem und_str {n : Nat} {b : List Nat} : Va.und n (.str b) = true := rfl
theorem und_ref {n m : Nat} : Va.und n (.ref m) = decide (m < n) := rfl
theorem und_tup {n : Nat} {ws : List Va} : Va.und n (.tup ws) = Va.undL n ws := rfl
theorem undL_nil {n : Nat} : Va.undL n [] = true := rfl
theorem undL_cons {n : Nat} {w : Va} {ws : List Va} : Va.undL n (w :: ws) = (w.und n && Va.undL n ws) := rfl
theorem fin_keep {st st' : Sto} {w : Va} (h : w.und st.length = true) (k : KeepOk st st') : fin st w st' = (w, st'.take st.length) := by
  unfold fin; rw [if_pos ⟨h, k⟩]
theorem keep_refl (st : Sto) : KeepOk st st := fun _ _ _ h => .inl h
theorem keep_app (st l : Sto) : KeepOk st (st ++ l) := fun i o hi h => .inl (by rw [List.getElem?_append_left hi] at h; exact h)
theorem fin_self {st : Sto} {w : Va} (h : w.und st.length = true) : fin st w st = (w, st) := by
  rw [fin_keep h (keep_refl st), List.take_length]
theorem fin_app {st l : Sto} {w : Va} (h : w.und st.length = true) : fin st w (st ++ l) = (w, st) := by
  rw [fin_keep h (keep_app st l)]; simp
theorem keep_set {st l : Sto} {d : Nat} {o : Ob} (h : o.und st.length = true) : KeepOk st (st.set d o ++ l) := fun i o' hi h' => by
  rw [List.getElem?_append_left (by rw [List.length_set]; exact hi)] at h'
  by_cases e : d = i
  · subst e
    rw [List.getElem?_set_self hi] at h'
    cases h'; exact .inr h
  · rw [List.getElem?_set_ne e] at h'; exact .inl h'
theorem fin_set {st l : Sto} {d : Nat} {o : Ob} {w : Va} (h : w.und st.length = true) (h2 : o.und st.length = true) : fin st w (st.set d o ++ l) = (w, st.set d o) := by
  rw [fin_keep h (keep_set h2)]; simp [List.take_append]

theorem fin_si {st : Sto} {i : Int} : fin st (.int i) st = (.int i, st) := fin_self rfl
theorem fin_sb {st : Sto} {i : Bool} : fin st (.bl i) st = (.bl i, st) := fin_self rfl
theorem fin_ss {st : Sto} {i : List Nat} : fin st (.str i) st = (.str i, st) := fin_self rfl
theorem fin_sn {st : Sto} : fin st .non st = (.non, st) := fin_self rfl
theorem fin_ai {st l : Sto} {i : Int} : fin st (.int i) (st ++ l) = (.int i, st) := fin_app rfl
theorem fin_ab {st l : Sto} {i : Bool} : fin st (.bl i) (st ++ l) = (.bl i, st) := fin_app rfl
theorem fin_as {st l : Sto} {i : List Nat} : fin st (.str i) (st ++ l) = (.str i, st) := fin_app rfl
theorem fin_an {st l : Sto} : fin st .non (st ++ l) = (.non, st) := fin_app rfl
noncomputable def c_mix : Fn := fn 3 2 (sCons (sSet 2 (eB gMod (eA gInt (aC (eB gAdd (eB gAdd (eB gMul (eV 0) (eC (.int 48271))) (eB gMul (eV 1) (eC (.int 69621)))) (eC (.int 11))) aN)) (eC (.int 2147483647))))
  (sCons (sRet (eB gMod (eB gMod (eA gInt (aC (eB gAdd (eB gAdd (eB gAdd (eB gMul (eV 2) (eV 2)) (eB gMul (eV 0) (eC (.int 40692)))) (eB gMul (eV 1) (eC (.int 7)))) (eC (.int 3))) aN)) (eC (.int 1000003))) (eC (.int 1000))))
  sNil))
def mixv (c k : Int) : Int := (((c * 48271 + k * 69621 + 11) % 2147483647 * ((c * 48271 + k * 69621 + 11) % 2147483647) + c * 40692 + k * 7 + 3) % 1000003) % 1000
theorem c_mix_eq (c k : Int) (st : Sto) : c_mix [.int c, .int k] st = some (.int (mixv c k), st) := by
  have h1 := Int.emod_nonneg (c * 48271 + k * 69621 + 11) (show (2147483647 : Int) ≠ 0 by decide)
  have h2 := Int.emod_lt_of_pos (c * 48271 + k * 69621 + 11) (show (0 : Int) < 2147483647 by decide)
  have h3 : ((c * 48271 + k * 69621 + 11) % 2147483647).natAbs < 18446744073709551616 := by omega
  simp [c_mix, eC, eV, eB, eU, aN, aC, eA, eM, eMt, bB, truth, bV, bAnd, bOr, bNot, eAnd, eOr, eNot, eIf, eTup, eLst, sNil, sCons, sSet, sAug, sEx, sRet, sRetN, sBk, sCt, sIf, sNo, gN, gsN, gsC, gT, sAsg, sFor, iA, iR1, iR2, srcOf, eLc, bYes, wip, eDic, eDic0, eDit0, pN, pC, kcs, mrg, sPut, setW, eCut, pNo, pSo, eCall, fn, hasTy, eCh, bO, keyOf, keysOf, dicAt, pickW, gIx, gInt, gAdd, gMul_r, gMod_p, h3, und_non, und_bl, und_int, und_str, und_ref, und_tup, undL_nil, undL_cons, fin_si, fin_sb, fin_ss, fin_sn, fin_ai, fin_ab, fin_as, fin_an, mixv]

/-! ### the drawing thing -/
def kRow : Key := .inr ⟨[114, 111, 119].toArray⟩
def kAt : Key := .inr ⟨[97, 116].toArray⟩
def kSeed : Key := .inr ⟨[115, 101, 101, 100].toArray⟩
/-- what stands at the draws' place: the row's place, the next draw, the seed -/
def drO (r : Nat) (a : Int) (seed : Int) : Ob := .dic [(kRow, .ref r), (kAt, .int a), (kSeed, .int seed)]
noncomputable def c_pick : Fn := fn 4 2 (sCons (sSet 2 (eB gIx (eV 0) (eC (.str [97, 116]))))
  (sCons (sPut (eV 0) (eC (.str [97, 116])) (eB gAdd (eV 2) (eC (.int 1))))
  (sCons (sSet 3 (eCall 2 c_mix (aC (eB gIx (eV 0) (eC (.str [115, 101, 101, 100]))) (aC (eV 2) aN))))
  (sCons (sIf (bB gLt (eV 2) (eA gLen (aC (eB gIx (eV 0) (eC (.str [114, 111, 119]))) aN))) (sCons (sSet 3 (eB gIx (eB gIx (eV 0) (eC (.str [114, 111, 119]))) (eV 2)))
  sNil) sNil)
  (sCons (sRet (eB gMod (eA gInt (aC (eV 3) aN)) (eV 1)))
  sNil)))))
/-- the draw at a place -/
def drawn (row : List Int) (seed : Int) (a : Nat) : Int := (row[a]?).getD (mixv seed a)
/-- the store st, with the draws at d -/
structure Dr (st : Sto) (d r : Nat) (row : List Int) (seed : Int) : Prop where
  ne : d ≠ r
  hd : d < st.length
  hr : st[r]? = some (.lst (row.map Va.int))
def dSt (st : Sto) (d r : Nat) (seed : Int) (a : Nat) : Sto := st.set d (drO r a seed)
theorem dget_at {r : Nat} {a seed : Int} : dGet [(kRow, Va.ref r), (kAt, .int a), (kSeed, .int seed)] kAt = some (.int a) := rfl
theorem dget_row {r : Nat} {a seed : Int} : dGet [(kRow, Va.ref r), (kAt, .int a), (kSeed, .int seed)] kRow = some (.ref r) := rfl
theorem dget_seed {r : Nat} {a seed : Int} : dGet [(kRow, Va.ref r), (kAt, .int a), (kSeed, .int seed)] kSeed = some (.int seed) := rfl
theorem dput_at {r : Nat} {a b seed : Int} : dPut [(kRow, Va.ref r), (kAt, .int a), (kSeed, .int seed)] kAt (.int b) = [(kRow, Va.ref r), (kAt, .int b), (kSeed, .int seed)] := rfl
theorem atI_n {α : Type} (xs : List α) (a : Nat) : atI xs (a : Int) = xs[a]? := by
  by_cases h : a < xs.length
  · exact (atI_nat (List.getElem?_eq_getElem h)).trans (List.getElem?_eq_getElem h).symm
  · rw [List.getElem?_eq_none_iff.mpr (by omega)]
    unfold atI ixN
    rw [if_pos (by omega), if_neg (by omega)]; rfl
theorem c_pick_eq {st : Sto} {d r : Nat} {row : List Int} {seed : Int} (h : Dr st d r row seed) (a : Nat) {m : Int} (hm : 0 < m) (L : Sto) :
    c_pick [.ref d, .int m] (dSt st d r seed a ++ L) = some (.int (drawn row seed a % m), dSt st d r seed (a + 1) ++ L) := by
  have e1 : ∀ b : Nat, (dSt st d r seed b ++ L)[d]? = some (drO r b seed) := fun b => by
    rw [List.getElem?_append_left (by unfold dSt; rw [List.length_set]; exact h.hd)]
    exact List.getElem?_set_self h.hd
  have hrl : r < st.length := (List.getElem?_eq_some_iff.mp h.hr).1
  have e2 : ∀ b : Nat, (dSt st d r seed b ++ L)[r]? = some (.lst (row.map Va.int)) := fun b => by
    rw [List.getElem?_append_left (by unfold dSt; rw [List.length_set]; exact hrl)]
    unfold dSt
    rw [List.getElem?_set_ne h.ne]; exact h.hr
  have e3 : (dSt st d r seed a ++ L).set d (drO r ((a : Int) + 1) seed) = dSt st d r seed (a + 1) ++ L := by
    rw [List.set_append_left _ _ (by unfold dSt; rw [List.length_set]; exact h.hd)]
    unfold dSt
    rw [List.set_set]; simp
  have k1 : keyOf (.str [97, 116]) = some kAt := rfl
  have k2 : keyOf (.str [114, 111, 119]) = some kRow := rfl
  have k3 : keyOf (.str [115, 101, 101, 100]) = some kSeed := rfl
  have g1 : ∀ b : Nat, gIx (.ref d) (.str [97, 116]) (dSt st d r seed b ++ L) = some (.int b, dSt st d r seed b ++ L) := fun b => by
    simp [gIx, e1, drO, dicAt, k1, dget_at]
  have g2 : ∀ b : Nat, gIx (.ref d) (.str [114, 111, 119]) (dSt st d r seed b ++ L) = some (.ref r, dSt st d r seed b ++ L) := fun b => by
    simp [gIx, e1, drO, dicAt, k2, dget_row]
  have g3 : ∀ b : Nat, gIx (.ref d) (.str [115, 101, 101, 100]) (dSt st d r seed b ++ L) = some (.int seed, dSt st d r seed b ++ L) := fun b => by
    simp [gIx, e1, drO, dicAt, k3, dget_seed]
  have g4 : setW (.ref d) (.str [97, 116]) (.int ((a : Int) + 1)) (dSt st d r seed a ++ L) = some (dSt st d r seed (a + 1) ++ L) := by
    unfold setW
    simp only [e1, drO]
    rw [k1]
    simp only [Option.bind_some, List.length_cons, List.length_nil]
    rw [if_pos (by decide), dput_at]
    exact congrArg some e3
  have g5 : gLen [.ref r] (dSt st d r seed (a + 1) ++ L) = some (.int row.length, dSt st d r seed (a + 1) ++ L) := by
    simp [gLen, lenW, e2]
  have g6 : gIx (.ref r) (.int a) (dSt st d r seed (a + 1) ++ L) = (row[a]?).map fun x => (.int x, dSt st d r seed (a + 1) ++ L) := by
    simp [gIx, e2, pickW, atI_n, List.getElem?_map, Option.map_map]
    cases row[a]? <;> rfl
  have hf : ∀ x : Int, fin (dSt st d r seed a ++ L) (.int x) (dSt st d r seed (a + 1) ++ L) = (.int x, dSt st d r seed (a + 1) ++ L) := fun x => by
    rw [← e3]
    have := fin_set (st := dSt st d r seed a ++ L) (l := []) (d := d) (o := drO r ((a : Int) + 1) seed) (w := .int x) rfl (by
      show (Va.und _ (.ref r) && (true && (true && true))) = true
      simp [und_ref, dSt]; omega)
    rw [List.append_nil] at this
    exact this
  by_cases hl : a < row.length
  · have q : row[a]? = some row[a] := List.getElem?_eq_getElem hl
    have hl' : (a : Int) < (row.length : Int) := by omega
    simp [c_pick, fn, sCons, sSet, eB, eV, eC, sPut, eCall, aC, aN, sIf, bB, eA, gInt, sRet, sNil, g1, g2, g3, g4, g5, g6, gAdd, c_mix_eq, gLt, hl, q, gMod_p hm, hf, drawn]
  · have q : row[a]? = none := List.getElem?_eq_none_iff.mpr (by omega)
    simp [c_pick, fn, sCons, sSet, eB, eV, eC, sPut, eCall, aC, aN, sIf, bB, eA, gInt, sRet, sNil, g1, g2, g3, g4, g5, g6, gAdd, c_mix_eq, gLt, hl, q, gMod_p hm, hf, drawn]
end
end T3
/-! T3, eleventh part: loops by what holds of them; the stream of draws -/
namespace T3
open PySem PySem.Spec PyProof.Rows L2
noncomputable section

/-- a for whose turns all go on, by what holds between them -/
theorem forL_inv {gd : Sto → Prop} {fg : Fg} {body : Sm} (Inv : Fm → Sto → Prop) (hg : ∀ fm st, Inv fm st → gd st) : ∀ (ws : List Va),
    (∀ w ∈ ws, ∀ fm st, Inv fm st → ∃ fm1 fm2 st2, fg w fm = some fm1 ∧ (body fm1 st = some (.nx, fm2, st2) ∨ body fm1 st = some (.ct, fm2, st2)) ∧ Inv fm2 st2) →
    ∀ fm st, Inv fm st → ∃ fm' st', forL gd fg body ws fm st = some (.nx, fm', st') ∧ Inv fm' st'
  | [], _, fm, st, h => ⟨fm, st, by simp only [forL]; rw [if_pos (hg fm st h)], h⟩
  | w :: ws, ht, fm, st, h => by
    obtain ⟨fm1, fm2, st2, e1, e2, h2⟩ := ht w (by simp) fm st h
    obtain ⟨fm3, st3, e3, h3⟩ := forL_inv Inv hg ws (fun w hw => ht w (List.mem_cons_of_mem _ hw)) fm2 st2 h2
    refine ⟨fm3, st3, ?_, h3⟩
    simp only [forL]
    rw [if_pos (hg fm st h), e1]
    rcases e2 with e2 | e2 <;> simp [e2, e3]
/-- the same by the number of turns that are done -/
theorem forL_num {gd : Sto → Prop} {fg : Fg} {body : Sm} (Inv : Nat → Fm → Sto → Prop) {ws : List Va} (hg : ∀ i fm st, Inv i fm st → gd st)
    (ht : ∀ i w, ws[i]? = some w → ∀ fm st, Inv i fm st → ∃ fm1 fm2 st2, fg w fm = some fm1 ∧ (body fm1 st = some (.nx, fm2, st2) ∨ body fm1 st = some (.ct, fm2, st2)) ∧ Inv (i + 1) fm2 st2) :
    ∀ fm st, Inv 0 fm st → ∃ fm' st', forL gd fg body ws fm st = some (.nx, fm', st') ∧ Inv ws.length fm' st' := by
  have key : ∀ (n i : Nat), i + n = ws.length → ∀ fm st, Inv i fm st → ∃ fm' st', forL gd fg body (ws.drop i) fm st = some (.nx, fm', st') ∧ Inv ws.length fm' st' := by
    intro n
    induction n with
    | zero =>
      intro i hi fm st h
      have : i = ws.length := by omega
      subst this
      rw [List.drop_length]
      exact ⟨fm, st, by simp only [forL]; rw [if_pos (hg _ fm st h)], h⟩
    | succ n ih =>
      intro i hi fm st h
      have hl : i < ws.length := by omega
      obtain ⟨fm1, fm2, st2, e1, e2, h2⟩ := ht i ws[i] (List.getElem?_eq_getElem hl) fm st h
      obtain ⟨fm3, st3, e3, h3⟩ := ih (i + 1) (by omega) fm2 st2 h2
      refine ⟨fm3, st3, ?_, h3⟩
      rw [List.drop_eq_getElem_cons hl]
      simp only [forL]
      rw [if_pos (hg _ fm st h), e1]
      rcases e2 with e2 | e2 <;> simp [e2, e3]
  intro fm st h
  have := key ws.length 0 (by omega) fm st h
  simpa using this
/-- a for over a list of any items: the state is told by the items -/
theorem forL_all {gd : Sto → Prop} {fg : Fg} {body : Sm} {ws : List Va} {fm : Fm} {st : Sto} {r} (h : forL gd fg body ws fm st = r) : forL gd fg body ws fm st = r := h
theorem intsOf_map : ∀ ns : List Int, intsOf (ns.map Va.int) = some ns
  | [] => rfl
  | n :: ns => by simp [intsOf, intsOf_map ns]
noncomputable def c_sloop (J : Int) : Sm := sFor (iR1 (eA gMin (aC (eA gLen (aC (eV 0) aN)) (aC (eC (.int 63)) aN)))) (gN 3) (sCons (sSet 4 (eB gIx (eV 0) (eV 3)))
  (sCons (sIf (bB gGe (eV 4) (eB gPow (eC (.int 10)) (eC (.int 18)))) (sCons (sFor (iR1 (eC (.int 60))) (gN 5) (sCons (sIf (bAnd (bB gGt (eV 4) (eC (.int 0))) (bB gLt (eA gLen (aC (eV 2) aN)) (eV 1))) (sCons (sEx (eMt "list" gApp (eV 2) (aC (eB gMod (eA gInt (aC (eV 4) aN)) (eC (.int 1000))) aN)))
  (sCons (sSet 4 (eB gDiv (eV 4) (eC (.int 1000))))
  sNil)) sNil)
  sNil))
  sNil) (sCons (sFor (iR1 (eC (.int J))) (gN 5) (sCons (sIf (bB gLt (eA gLen (aC (eV 2) aN)) (eV 1)) (sCons (sEx (eMt "list" gApp (eV 2) (aC (eCall 2 c_mix (aC (eV 4) (aC (eB gAdd (eB gMul (eC (.int 64)) (eV 5)) (eV 3)) aN))) aN)))
  sNil) sNil)
  sNil))
  sNil))
  sNil))
noncomputable def c_stream (J : Int) : Fn := fn 6 2 (sCons (sSet 2 (eLst aN))
  (sCons (c_sloop J)
  (sCons (sRet (eDic (pC (eC (.str [114, 111, 119])) (eV 2) (pC (eC (.str [97, 116])) (eC (.int 0)) (pC (eC (.str [115, 101, 101, 100])) (eB gAdd (eA gSum (aC (eV 2) aN)) (eA gLen (aC (eV 2) aN))) pN)))))
  sNil)))
theorem iR1_gen {f : Ev} {fm : Fm} {st st' : Sto} {n : Int} (h : f fm st = some (.int n, st')) (h1 : -1000000000 ≤ n ∧ n < 1000000000) : iR1 f fm st = some (⟨rngW 0 n.toNat, fun _ => True⟩, st') := by
  unfold iR1
  rw [h]
  exact if_pos h1
theorem iR1_int {f : Ev} {fm : Fm} {st st' : Sto} {n : Int} (h : f fm st = some (.int n, st')) (h0 : 0 ≤ n) (hn : n < 1000000000) : iR1 f fm st = some (⟨rngW 0 n.toNat, fun _ => True⟩, st') :=
  iR1_gen h ⟨by omega, hn⟩
theorem iR1_nat {f : Ev} {fm : Fm} {st st' : Sto} {n : Nat} (h : f fm st = some (.int (n : Int), st')) (hn : n < 1000000000) : iR1 f fm st = some (⟨rngW 0 n, fun _ => True⟩, st') := by
  have e := iR1_gen h ⟨by omega, by omega⟩
  rw [Int.toNat_natCast] at e
  exact e
theorem iR2_gen {f g : Ev} {fm : Fm} {st s1 s2 : Sto} {m n : Int} (h : f fm st = some (.int m, s1)) (h' : g fm s1 = some (.int n, s2)) (h1 : -1000000000 ≤ m ∧ m < 1000000000 ∧ -1000000000 ≤ n ∧ n < 1000000000) : iR2 f g fm st = some (⟨rngW m (n - m).toNat, fun _ => True⟩, s2) := by
  unfold iR2
  rw [h]
  simp only [Option.bind_some]
  rw [h']
  exact if_pos h1
theorem gDiv1000 {i : Int} {st : Sto} : gDiv (.int i) (.int 1000) st = some (.int (i / 1000), st) := by
  simp only [gDiv]; rw [if_pos ⟨by decide, by decide +kernel⟩]
theorem get_last {st : Sto} {o : Ob} : (st ++ [o])[st.length]? = some o := by simp
theorem set_last {st : Sto} {o u : Ob} : (st ++ [o]).set st.length u = st ++ [u] := by simp
theorem c_stream_eq {J : Int} (hJ : 0 ≤ J ∧ J < 1000) {st : Sto} {s : Nat} {ns : List Int} (hs : st[s]? = some (.rol (ns.map Va.int))) {most : Nat} (hm : most < 1000000) :
    ∃ (row : List Int) (seed : Int), c_stream J [.ref s, .int most] st = some (.ref (st.length + 1), st ++ [.lst (row.map Va.int), drO st.length 0 seed]) := by
  have hsl : s < st.length := (List.getElem?_eq_some_iff.mp hs).1
  have hs' : ∀ L : Sto, (st ++ L)[s]? = some (.rol (ns.map Va.int)) := fun L => by rw [List.getElem?_append_left hsl]; exact hs
  -- what holds between the turns
  let Inv : Fm → Sto → Prop := fun fm st1 => ∃ (row : List Int) (a b c : Option Va), row.length ≤ most ∧ fm = [some (.ref s), some (.int most), some (.ref st.length), a, b, c] ∧ st1 = st ++ [.lst (row.map Va.int)]
  let Inv2 : Option Va → Fm → Sto → Prop := fun k fm st1 => ∃ (row : List Int) (b : Int) (c : Option Va), row.length ≤ most ∧ fm = [some (.ref s), some (.int most), some (.ref st.length), k, some (.int b), c] ∧ st1 = st ++ [.lst (row.map Va.int)]
  have app : ∀ (row : List Int) (x : Int), row.length < most → gApp (.ref st.length) [.int x] (st ++ [.lst (row.map Va.int)]) = some (.non, st ++ [.lst ((row ++ [x]).map Va.int)]) := fun row x hl => by
    simp only [gApp, get_last]
    rw [if_pos (by rw [List.length_map]; omega), set_last, List.map_append]; rfl
  have hpow : gPow (.int 10) (.int 18) = fun st => some (.int 1000000000000000000, st) := by
    funext st; simp [gPow]
  obtain ⟨fm', st', e, row, a, b, c, hl, rfl, rfl⟩ : ∃ fm' st', c_sloop J [some (.ref s), some (.int most), some (.ref st.length), none, none, none] (st ++ [.lst []]) = some (.nx, fm', st') ∧ Inv fm' st' := by
    have hmin : ∃ n : Nat, n ≤ ns.length ∧ n ≤ 63 ∧ gMin [.int (ns.length : Int), .int 63] = fun st => some (.int (n : Int), st) := by
      by_cases h : (63 : Int) < ns.length
      · exact ⟨63, by omega, by omega, by funext st; simp [gMin, h]⟩
      · exact ⟨ns.length, by omega, by omega, by funext st; simp [gMin, h]⟩
    obtain ⟨n, hn1, hn2, hmin⟩ := hmin
    have hit : iR1 (eA gMin (aC (eA gLen (aC (eV 0) aN)) (aC (eC (.int 63)) aN))) [some (.ref s), some (.int most), some (.ref st.length), none, none, none] (st ++ [.lst []]) = some (⟨rngW 0 n, fun _ => True⟩, st ++ [.lst []]) := by
      have q : gLen [.ref s] (st ++ [.lst []]) = some (.int ns.length, st ++ [.lst []]) := by simp [gLen, lenW, hs']
      refine iR1_nat ?_ (by omega)
      simp only [eA, aC, eV, aN, eC, List.getElem?_cons_zero, Option.bind_some, q, hmin]
    unfold c_sloop sFor
    rw [hit]
    simp only [Option.bind_some]
    refine forL_inv Inv (fun _ _ _ => trivial) _ ?_ _ _ ⟨[], none, none, none, Nat.zero_le _, rfl, rfl⟩
    rintro w hw fm1 st1 ⟨row, a, b, c, hl, rfl, rfl⟩
    simp only [rngW, List.mem_map, List.mem_range] at hw
    obtain ⟨k, hk, rfl⟩ := hw
    have hkn : k < ns.length := by omega
    have hrest : gIx (.ref s) (.int (0 + (k : Int))) (st ++ [.lst (row.map Va.int)]) = some (.int ns[k], st ++ [.lst (row.map Va.int)]) := by
      simp [gIx, hs', pickW, atI_n, hkn]
    -- the two inner loops
    have loop1 : ∃ fm' st', forL (fun _ => True) (gN 5) (sCons (sIf (bAnd (bB gGt (eV 4) (eC (.int 0))) (bB gLt (eA gLen (aC (eV 2) aN)) (eV 1))) (sCons (sEx (eMt "list" gApp (eV 2) (aC (eB gMod (eA gInt (aC (eV 4) aN)) (eC (.int 1000))) aN)))
        (sCons (sSet 4 (eB gDiv (eV 4) (eC (.int 1000)))) sNil)) sNil) sNil) (rngW 0 60) [some (.ref s), some (.int most), some (.ref st.length), some (.int (0 + (k : Int))), some (.int ns[k]), c] (st ++ [.lst (row.map Va.int)]) = some (.nx, fm', st') ∧ Inv2 (some (.int (0 + (k : Int)))) fm' st' := by
      refine forL_inv (Inv2 (some (.int (0 + (k : Int))))) (fun _ _ _ => trivial) _ ?_ _ _ ⟨row, ns[k], c, hl, rfl, rfl⟩
      rintro w hw fm2 st2 ⟨row2, b2, c2, hl2, rfl, rfl⟩
      have hlen : gLen [.ref st.length] (st ++ [.lst (row2.map Va.int)]) = some (.int row2.length, st ++ [.lst (row2.map Va.int)]) := by simp [gLen, lenW]
      by_cases c1 : 0 < b2
      · by_cases c3 : (row2.length : Int) < most
        · have hty : hasTy "list" (.ref st.length) (st ++ [.lst (row2.map Va.int)]) = true := by simp [hasTy]
          refine ⟨_, [some (.ref s), some (.int most), some (.ref st.length), some (.int (0 + (k : Int))), some (.int (b2 / 1000)), some w], st ++ [.lst ((row2 ++ [b2 % 1000]).map Va.int)], rfl, .inl ?_, row2 ++ [b2 % 1000], _, _, by simp; omega, rfl, rfl⟩
          simp [sCons, sIf, bAnd, bB, eV, eC, gGt, c1, eA, aC, aN, hlen, gLt, c3, sEx, eMt, hty, gInt, eB, gMod_p, app _ _ (show row2.length < most by omega), sSet, gDiv1000, sNil]
        · refine ⟨_, [some (.ref s), some (.int most), some (.ref st.length), some (.int (0 + (k : Int))), some (.int b2), some w], _, rfl, .inl ?_, row2, _, _, hl2, rfl, rfl⟩
          simp [sCons, sIf, bAnd, bB, eV, eC, gGt, c1, eA, aC, aN, hlen, gLt, c3, sNil]
      · refine ⟨_, [some (.ref s), some (.int most), some (.ref st.length), some (.int (0 + (k : Int))), some (.int b2), some w], _, rfl, .inl ?_, row2, _, _, hl2, rfl, rfl⟩
        simp [sCons, sIf, bAnd, bB, eV, eC, gGt, c1, sNil]
    have loop2 : ∃ fm' st', forL (fun _ => True) (gN 5) (sCons (sIf (bB gLt (eA gLen (aC (eV 2) aN)) (eV 1)) (sCons (sEx (eMt "list" gApp (eV 2) (aC (eCall 2 c_mix (aC (eV 4) (aC (eB gAdd (eB gMul (eC (.int 64)) (eV 5)) (eV 3)) aN))) aN))) sNil) sNil)
        sNil) (rngW 0 J.toNat) [some (.ref s), some (.int most), some (.ref st.length), some (.int (0 + (k : Int))), some (.int ns[k]), c] (st ++ [.lst (row.map Va.int)]) = some (.nx, fm', st') ∧ Inv2 (some (.int (0 + (k : Int)))) fm' st' := by
      refine forL_inv (Inv2 (some (.int (0 + (k : Int))))) (fun _ _ _ => trivial) _ ?_ _ _ ⟨row, ns[k], c, hl, rfl, rfl⟩
      rintro w hw fm2 st2 ⟨row2, b2, c2, hl2, rfl, rfl⟩
      simp only [rngW, List.mem_map, List.mem_range] at hw
      obtain ⟨j, hj, rfl⟩ := hw
      have hlen : gLen [.ref st.length] (st ++ [.lst (row2.map Va.int)]) = some (.int row2.length, st ++ [.lst (row2.map Va.int)]) := by simp [gLen, lenW]
      by_cases c3 : (row2.length : Int) < most
      · have hty : hasTy "list" (.ref st.length) (st ++ [.lst (row2.map Va.int)]) = true := by simp [hasTy]
        refine ⟨_, [some (.ref s), some (.int most), some (.ref st.length), some (.int (0 + (k : Int))), some (.int b2), some (.int (0 + (j : Int)))], st ++ [.lst ((row2 ++ [mixv b2 (64 * (0 + (j : Int)) + (0 + (k : Int)))]).map Va.int)], rfl, .inl ?_, row2 ++ [mixv b2 (64 * (0 + (j : Int)) + (0 + (k : Int)))], _, _, by simp; omega, rfl, rfl⟩
        have hmul : ∀ (x : Int) (st : Sto), gMul (.int 64) (.int x) st = some (.int (64 * x), st) := fun x st => gMul_l (by decide)
        simp [sCons, sIf, bB, eV, eC, eA, aC, aN, hlen, gLt, c3, sEx, eMt, hty, eCall, eB, hmul, gAdd, c_mix_eq, app _ _ (show row2.length < most by omega), sNil]
      · refine ⟨_, [some (.ref s), some (.int most), some (.ref st.length), some (.int (0 + (k : Int))), some (.int b2), some (.int (0 + (j : Int)))], _, rfl, .inl ?_, row2, _, _, hl2, rfl, rfl⟩
        simp [sCons, sIf, bB, eV, eC, eA, aC, aN, hlen, gLt, c3, sNil]
    by_cases cb : (1000000000000000000 : Int) ≤ ns[k]
    · obtain ⟨fm', st', e, row', b', c', hl', rfl, rfl⟩ := loop1
      refine ⟨_, [some (.ref s), some (.int most), some (.ref st.length), some (.int (0 + (k : Int))), some (.int b'), c'], st ++ [.lst (row'.map Va.int)], rfl, .inl ?_, row', _, _, _, hl', rfl, rfl⟩
      simp only [List.set_cons_succ, List.set_cons_zero, sCons, sSet, eB, eV, List.getElem?_cons_zero, List.getElem?_cons_succ, Option.bind_some, hrest, sIf, bB, eC, hpow, gGe, cb, decide_true, if_true, sFor]
      rw [iR1_int (n := 60) rfl (by decide) (by decide)]
      simp only [Option.bind_some]
      rw [show ((60 : Int)).toNat = 60 from rfl, e]
      rfl
    · obtain ⟨fm', st', e, row', b', c', hl', rfl, rfl⟩ := loop2
      refine ⟨_, [some (.ref s), some (.int most), some (.ref st.length), some (.int (0 + (k : Int))), some (.int b'), c'], st ++ [.lst (row'.map Va.int)], rfl, .inl ?_, row', _, _, _, hl', rfl, rfl⟩
      simp only [List.set_cons_succ, List.set_cons_zero, sCons, sSet, eB, eV, List.getElem?_cons_zero, List.getElem?_cons_succ, Option.bind_some, hrest, sIf, bB, eC, hpow, gGe, cb, decide_false, Bool.false_eq_true, if_false, sFor]
      rw [iR1_int (n := J) rfl (by omega) (by omega)]
      simp only [Option.bind_some]
      rw [e]
      rfl
  refine ⟨row, row.sum + row.length, ?_⟩
  have hl0 : gLen [.ref st.length] (st ++ [.lst (row.map Va.int), .dic []]) = some (.int row.length, st ++ [.lst (row.map Va.int), .dic []]) := by simp [gLen, lenW]
  have hs0 : gSum [.ref st.length] (st ++ [.lst (row.map Va.int), .dic []]) = some (.int row.sum, st ++ [.lst (row.map Va.int), .dic []]) := by simp [gSum, itemsOf, intsOf_map]
  have hk : kcs [(Va.str [114, 111, 119], Va.ref st.length), (.str [97, 116], .int 0), (.str [115, 101, 101, 100], .int (row.sum + row.length))] = some [(kRow, Va.ref st.length), (kAt, .int 0), (kSeed, .int (row.sum + row.length))] := rfl
  have hmr : mrg [] [(kRow, Va.ref st.length), (kAt, .int 0), (kSeed, .int (row.sum + row.length))] = [(kRow, Va.ref st.length), (kAt, .int 0), (kSeed, .int (row.sum + row.length))] := rfl
  have hset : (st ++ [Ob.lst (row.map Va.int), .dic []]).set (st.length + 1) (.dic [(kRow, Va.ref st.length), (kAt, .int 0), (kSeed, .int (row.sum + row.length))]) = st ++ [.lst (row.map Va.int), .dic [(kRow, Va.ref st.length), (kAt, .int 0), (kSeed, .int (row.sum + row.length))]] := by
    rw [List.set_append_right _ _ (by omega)]
    simp
  have hfin : ∀ l, fin st (.ref (st.length + 1)) l = (.ref (st.length + 1), l) := fun l => by
    unfold fin
    rw [if_neg (fun h => by have := h.1; rw [und_ref, decide_eq_true_eq] at this; omega)]
  simp [c_stream, fn, sCons, sSet, eLst, aN, e, sRet, eDic, pC, pN, eC, eV, eB, eA, aC, hs0, hl0, gAdd, hk, hmr, hset, hfin, sNil, drO]
end
end T3
/-! T3, twelfth part: lists that are drawn -/
namespace T3
open PySem PySem.Spec PyProof.Rows L2
noncomputable section

theorem dSt_len {st : Sto} {d r a : Nat} {seed : Int} : (dSt st d r seed a).length = st.length := by unfold dSt; rw [List.length_set]
theorem get_dl {st L : Sto} {d r a : Nat} {seed : Int} {o : Ob} : (dSt st d r seed a ++ (L ++ [o]))[st.length + L.length]? = some o := by
  rw [List.getElem?_append_right (by rw [dSt_len]; omega), dSt_len, List.getElem?_append_right (by omega)]
  simp
theorem set_dl {st L : Sto} {d r a : Nat} {seed : Int} {o u : Ob} : (dSt st d r seed a ++ (L ++ [o])).set (st.length + L.length) u = dSt st d r seed a ++ (L ++ [u]) := by
  rw [List.set_append_right _ _ (by rw [dSt_len]; omega), dSt_len, List.set_append_right _ _ (by omega)]
  simp
theorem lcD {st : Sto} {d r : Nat} {seed : Int} {gd : Sto → Prop} {fg : Fg} {fe : Ev} {fm : Fm} (L : Sto) (P : Va → Va → Prop) (hg : ∀ s, gd s) : ∀ (ws : List Va),
    (∀ w ∈ ws, ∃ fm1, fg w fm = some fm1 ∧ ∀ a L', ∃ y a', fe fm1 (dSt st d r seed a ++ L') = some (y, dSt st d r seed a' ++ L') ∧ P w y) →
    ∀ a (acc : List Va), acc.length + ws.length < 16777216 → ∃ ys a', Paired P ws ys ∧ lcL gd fg bYes fe (st.length + L.length) ws fm (dSt st d r seed a ++ (L ++ [.lst acc])) = some (dSt st d r seed a' ++ (L ++ [.lst (acc ++ ys)]))
  | [], _, a, acc, _ => ⟨[], a, .nil, by simp only [lcL]; rw [if_pos (hg _), List.append_nil]⟩
  | w :: ws, h, a, acc, hz => by
    obtain ⟨fm1, e1, hfe⟩ := h w (by simp)
    obtain ⟨y, a1, e2, py⟩ := hfe a (L ++ [.lst acc])
    rw [List.length_cons] at hz
    obtain ⟨ys, a2, pys, e3⟩ := lcD L P hg ws (fun w hw => h w (List.mem_cons_of_mem _ hw)) a1 (acc ++ [y]) (by rw [List.length_append, List.length_singleton]; omega)
    refine ⟨y :: ys, a2, .cons py pys, ?_⟩
    simp only [lcL]
    rw [if_pos (hg _), e1]
    simp only [Option.bind_some, bYes, if_true]
    rw [e2]
    simp only [Option.bind_some, get_dl]
    rw [if_pos (by omega), set_dl, e3, List.append_assoc]
    rfl
theorem eLcD {st : Sto} {d r : Nat} {seed : Int} {fi : Fi} {fg : Fg} {fe : Ev} {vs : List Nat} {fm : Fm} (L : Sto) (P : Va → Va → Prop) {ws : List Va} {a : Nat} (hi : fi fm (dSt st d r seed a ++ L) = some (⟨ws, fun _ => True⟩, dSt st d r seed a ++ L))
    (h : ∀ w ∈ ws, ∃ fm1, fg w (wip fm vs) = some fm1 ∧ ∀ a L', ∃ y a', fe fm1 (dSt st d r seed a ++ L') = some (y, dSt st d r seed a' ++ L') ∧ P w y) (hz : ws.length < 16777216) :
    ∃ ys a', Paired P ws ys ∧ eLc fi fg bYes fe vs fm (dSt st d r seed a ++ L) = some (.ref (st.length + L.length), dSt st d r seed a' ++ (L ++ [.lst ys])) := by
  obtain ⟨ys, a', p, e⟩ := lcD (st := st) (d := d) (r := r) (seed := seed) (gd := fun _ => True) L P (fun _ => trivial) ws h a [] (by simpa using hz)
  refine ⟨ys, a', p, ?_⟩
  unfold eLc
  rw [hi]
  simp only [Option.bind_some, List.append_assoc]
  have : (dSt st d r seed a ++ L).length = st.length + L.length := by rw [List.length_append, dSt_len]
  rw [this, e]
  simp
/-- what a drawing def leaves: its temporary things are gone -/
theorem fin_d {st L : Sto} {d r a b : Nat} {seed : Int} {w : Va} (hr : r < st.length) (h : w.und (st.length) = true) (M : Sto) : fin (dSt st d r seed a ++ L) w (dSt st d r seed b ++ (L ++ M)) = (w, dSt st d r seed b ++ L) := by
  have hl : (dSt st d r seed a ++ L).length = st.length + L.length := by rw [List.length_append, dSt_len]
  have und_le : ∀ (w : Va), w.und st.length = true → w.und (st.length + L.length) = true := by
    intro w
    have key : (∀ w : Va, w.und st.length = true → w.und (st.length + L.length) = true) := by
      intro w
      induction w using Va.rec (motive_2 := fun ws => Va.undL st.length ws = true → Va.undL (st.length + L.length) ws = true) with
      | non => intro _; rfl
      | bl _ => intro _; rfl
      | int _ => intro _; rfl
      | str _ => intro _; rfl
      | ty _ => intro _; rfl
      | ref n => intro h; rw [und_ref, decide_eq_true_eq] at h ⊢; omega
      | tup ws ih => intro h; rw [und_tup] at h ⊢; exact ih h
      | ktp ws ih => intro h; exact ih h
      | nil => rfl
      | cons w ws h1 h2 =>
        rename_i h
        rw [undL_cons, Bool.and_eq_true] at h ⊢
        exact ⟨h1 h.1, h2 h.2⟩
    exact key w
  rw [fin_keep (by rw [hl]; exact und_le w h)]
  · congr 1
    rw [hl, ← List.append_assoc, List.take_append_of_le_length (by rw [List.length_append, dSt_len]; omega), List.take_of_length_le (by rw [List.length_append, dSt_len]; omega)]
  · intro i o hi ho
    rw [hl] at hi
    by_cases h1 : i < st.length
    · rw [List.getElem?_append_left (by rw [dSt_len]; exact h1)] at ho ⊢
      unfold dSt at ho ⊢
      by_cases e : d = i
      · subst e
        rw [List.getElem?_set_self h1] at ho ⊢
        cases ho
        refine .inr ?_
        rw [List.length_append, List.length_set]
        show (Va.und _ (.ref r) && (true && (true && true))) = true
        rw [und_ref]
        simp; omega
      · rw [List.getElem?_set_ne e] at ho ⊢
        exact .inl ho
    · rw [List.getElem?_append_right (by rw [dSt_len]; omega), dSt_len] at ho ⊢
      rw [List.getElem?_append_left (by omega)] at ho
      exact .inl ho
theorem Dr.rlt {st : Sto} {d r : Nat} {row : List Int} {seed : Int} (h : Dr st d r row seed) : r < st.length := (List.getElem?_eq_some_iff.mp h.hr).1
/-- a draw, by its bounds -/
theorem pick_D {st : Sto} {d r : Nat} {row : List Int} {seed : Int} (h : Dr st d r row seed) (a : Nat) {m : Int} (hm : 0 < m) (L : Sto) :
    ∃ (x : Int) (b : Nat), 0 ≤ x ∧ x < m ∧ c_pick [.ref d, .int m] (dSt st d r seed a ++ L) = some (.int x, dSt st d r seed b ++ L) :=
  ⟨_, a + 1, Int.emod_nonneg _ (by omega), Int.emod_lt_of_pos _ hm, c_pick_eq h a hm L⟩
end
end T3
/-! T3: a, b = x, y; x += y -/
namespace T3
open PySem PySem.Spec PyProof.Rows L2
noncomputable section
def sPar (i j : Nat) (fa : Evs) : Sm := fun fm st => (fa fm st).bind fun p => match p.1 with
  | [u, v] => some (.nx, (fm.set i (some u)).set j (some v), p.2)
  | _ => none
def sPar3 (i j l : Nat) (fa : Evs) : Sm := fun fm st => (fa fm st).bind fun p => match p.1 with
  | [u, v, w] => some (.nx, ((fm.set i (some u)).set j (some v)).set l (some w), p.2)
  | _ => none
theorem rep3 {K : PySem.W.Frag} {ρ : List Addr} {H : Hp} {a b c : Va} {vs : List V} (h : RepL K ρ H [a, b, c] vs) : ∃ u v w, vs = [u, v, w] ∧ RepV K ρ H a u ∧ RepV K ρ H b v ∧ RepV K ρ H c w := by
  simp only [RepL] at h
  obtain ⟨u, r, rfl, h1, v, r2, rfl, h2, w, r3, rfl, h3, rfl⟩ := h
  exact ⟨u, v, w, rfl, h1, h2, h3⟩
section
variable {X : Cx} {a b c e : Expr} {fa : Evs} {f : Ev} {x y z : Str} {i j l : Nat} {px py pz pt pos pos' : Pos} {kt k2 : _} {pt2 : _}
theorem ds_par (hc : X.calm = true) (hN : X.N.Nodup) (hi : X.N[i]? = some x) (hj : X.N[j]? = some y) (hij : i ≠ j)
    (hx : X.env.scope.names.lookup x = some .local) (hy : X.env.scope.names.lookup y = some .local) (ha : DA X [a, b] fa)
    (hw : swappedStores [.Tuple [.Name x px, .Name y py] kt pt] (.Tuple [a, b] k2 pt2) X.env = pure (some [x, y]))
    (hs : swapsWithSole [.Tuple [.Name x px, .Name y py] kt pt] (.Tuple [a, b] k2 pt2) pos.line X.env = pure false := by rfl) :
    DS X (.Assign [.Tuple [.Name x px, .Name y py] kt pt] (.Tuple [a, b] k2 pt2) pos) (sPar i j fa) := PSi (ps_par hc hN hi hj hij hx hy ha hw hs) fun D σ H h => by
  obtain ⟨ρ, fm, st, fl, fm', st', R, e, T⟩ := h
  simp only [sPar, Option.bind_eq_some_iff] at e
  obtain ⟨⟨ws, s1⟩, e1, e2⟩ := e
  dsimp only at e2
  split at e2
  · cases e2
    refine ⟨ρ, fm, st, _, _, R, e1, fun ρ1 H1 p1 k1 R1 vs rv => ?_⟩
    obtain ⟨u, v, rfl, r1, r2⟩ := rep2 rv
    exact ⟨u, v, rfl, T ρ1 H1 _ p1 k1 ⟨R1.s, (R1.e.set r1).set r2⟩⟩
  · cases e2
theorem ds_par3 (hc : X.calm = true) (hN : X.N.Nodup) (hi : X.N[i]? = some x) (hj : X.N[j]? = some y) (hl : X.N[l]? = some z) (hij : i ≠ j) (hil : i ≠ l) (hjl : j ≠ l)
    (hx : X.env.scope.names.lookup x = some .local) (hy : X.env.scope.names.lookup y = some .local) (hz : X.env.scope.names.lookup z = some .local) (ha : DA X [a, b, c] fa)
    (hw : swappedStores [.Tuple [.Name x px, .Name y py, .Name z pz] kt pt] (.Tuple [a, b, c] k2 pt2) X.env = pure (some [x, y, z]))
    (hs : swapsWithSole [.Tuple [.Name x px, .Name y py, .Name z pz] kt pt] (.Tuple [a, b, c] k2 pt2) pos.line X.env = pure false := by rfl) :
    DS X (.Assign [.Tuple [.Name x px, .Name y py, .Name z pz] kt pt] (.Tuple [a, b, c] k2 pt2) pos) (sPar3 i j l fa) := PSi (ps_par3 hc hN hi hj hl hij hil hjl hx hy hz ha hw hs) fun D σ H h => by
  obtain ⟨ρ, fm, st, fl, fm', st', R, e, T⟩ := h
  simp only [sPar3, Option.bind_eq_some_iff] at e
  obtain ⟨⟨ws, s1⟩, e1, e2⟩ := e
  dsimp only at e2
  split at e2
  · cases e2
    refine ⟨ρ, fm, st, _, _, R, e1, fun ρ1 H1 p1 k1 R1 vs rv => ?_⟩
    obtain ⟨u, v, w, rfl, r1, r2, r3⟩ := rep3 rv
    exact ⟨u, v, w, rfl, T ρ1 H1 _ p1 k1 ⟨R1.s, ((R1.e.set r1).set r2).set r3⟩⟩
  · cases e2
/-- ints, += and -= -/
def gAddI (a b : Va) (st : Sto) : Option (Va × Sto) := match a, b with
  | .int i, .int j => some (.int (i + j), st)
  | _, _ => none
def gSubI (a b : Va) (st : Sto) : Option (Va × Sto) := match a, b with
  | .int i, .int j => some (.int (i - j), st)
  | _, _ => none
theorem mAddI : MB X.K gAddI (ipI fun i j => i + j) := by
  intro ρ fm st σ H a b x y w st' Q R ra rb e T
  unfold gAddI at e
  split at e
  · simp only [RepV] at ra rb; subst ra; subst rb; cases e
    exact ⟨_, _, rfl, rfl, T.same R _ repI⟩
  · cases e
theorem mSubI : MB X.K gSubI (ipI fun i j => i - j) := by
  intro ρ fm st σ H a b x y w st' Q R ra rb e T
  unfold gSubI at e
  split at e
  · simp only [RepV] at ra rb; subst ra; subst rb; cases e
    exact ⟨_, _, rfl, rfl, T.same R _ repI⟩
  · cases e
theorem ds_augA (hN : X.N.Nodup) (hi : X.N[i]? = some x) (hx : Loc X.env.scope x) (he : DE X e f) (hf : X.fn x = true ∨ X.env.scope.names.lookup x = some .local := by first | exact .inl rfl | exact .inr rfl) :
    DS X (.AugAssign (.Name x pos') .Add e pos) (sAug i gAddI f) := ds_aug hN hi hx he ip_add mAddI hf
theorem ds_augB (hN : X.N.Nodup) (hi : X.N[i]? = some x) (hx : Loc X.env.scope x) (he : DE X e f) (hf : X.fn x = true ∨ X.env.scope.names.lookup x = some .local := by first | exact .inl rfl | exact .inr rfl) :
    DS X (.AugAssign (.Name x pos') .Sub e pos) (sAug i gSubI f) := ds_aug hN hi hx he ip_sub mSubI hf
end

/-! ### reversed -/
theorem jok_rev {K : PySem.W.Frag} {ρ : List Addr} {H : Hp} {n : Nat} {a : Addr} {ws : List Va} (ha : ρ[n]? = some a) : JOk K ρ H ⟨ws.reverse, fun st => st[n]? = some (.lst ws)⟩ (Itv K a ws.length) := by
  intro i ρ' fm st σ H' hp hk R hg
  obtain ⟨b, vs, e, ea, g1, r1⟩ := lst_of R (v := .ref a) (by simp only [RepV]; exact ⟨a, rfl, pre_get hp ha⟩) hg
  cases e
  have hl := r1.length
  refine ⟨fun w hw => ?_, fun e => by show ws.length ≤ i; simpa using Nat.le_of_eq e.symm⟩
  dsimp only at hw
  have hi : i < ws.length := by simpa using (List.getElem?_eq_some_iff.mp hw).1
  rw [List.getElem?_reverse hi] at hw
  obtain ⟨v, hv, rv⟩ := r1.get hw
  refine ⟨⟨hi, vs, v, SqL.of g1, hv⟩, fun x H2 ⟨e1, e2⟩ => ?_⟩
  subst e1
  have := e2 vs (SqL.of g1)
  rw [hv] at this; cases this
  exact ⟨fun _ _ h => h, Kp.refl, rv⟩
theorem jok_revT {K : PySem.W.Frag} {ρ : List Addr} {H : Hp} {a : Addr} {ws : List Va} {vs : List V} (h : H a = some (.tup vs) ∨ SqT K (fun _ => none) a vs) (r : RepL K ρ H ws vs) : JOk K ρ H ⟨ws.reverse, fun _ => True⟩ (RT.ItvT K a ws.length) := by
  intro i ρ' fm st σ H' hp hk R _
  have g1 : SqT K H' a vs := h.elim (fun h => SqT.of (hk _ _ h)) SqT.const
  have r1 := RepL.mono hp hk _ _ r
  have hl := r1.length
  refine ⟨fun w hw => ?_, fun e => by show ws.length ≤ i; simpa using Nat.le_of_eq e.symm⟩
  dsimp only at hw
  have hi : i < ws.length := by simpa using (List.getElem?_eq_some_iff.mp hw).1
  rw [List.getElem?_reverse hi] at hw
  obtain ⟨v, hv, rv⟩ := r1.get hw
  refine ⟨⟨hi, vs, v, g1, hv⟩, fun x H2 ⟨e1, e2⟩ => ?_⟩
  subst e1
  have := e2 vs g1
  rw [hv] at this; cases this
  exact ⟨fun _ _ h => h, Kp.refl, rv⟩
def revOf (w : Va) (st : Sto) : Option Src := match w with
  | .tup ws => some ⟨ws.reverse, fun _ => True⟩
  | .ref n => match st[n]? with
    | some (.lst ws) => some ⟨ws.reverse, fun st => st[n]? = some (.lst ws)⟩
    | _ => none
  | _ => none
def iRv (f : Ev) : Fi := fun fm st => (f fm st).bind fun p => (revOf p.1 p.2).map fun S => (S, p.2)
theorem di_rev {X : Cx} {tg e : Expr} {f : Ev} {p pos : Pos} (hg : Gl X "reversed") (hm : X.mg "reversed" = none) (he : DE X e f) (hs : starEach [e] X.env = (false, eval e X.env) :: starEach [] X.env := by rfl) : DI X tg (.Call (.Name "reversed" p) [e] [] pos) (iRv f) := PIi (RT.pi_revA hg hm he hs) fun σ H R h => by
  obtain ⟨ρ, fm, st, S, st', Rr, e, T⟩ := h
  simp only [iRv, Option.bind_eq_some_iff, Option.map_eq_some_iff] at e
  obtain ⟨⟨w, s1⟩, e1, S', e2, e3⟩ := e
  cases e3
  dsimp only at e2 T
  refine ⟨ρ, fm, st, w, s1, Rr, e1, fun ρ1 H1 p1 k1 R1 x rx => ?_⟩
  unfold revOf at e2
  split at e2
  · cases e2
    simp only [RepV] at rx
    obtain ⟨a, vs, rfl, h1, r1⟩ := rx
    refine ⟨a, vs, rfl, .inr ⟨SqT.of h1, ?_⟩⟩
    rw [← r1.length]
    exact T ρ1 H1 p1 k1 R1 _ (jok_revT (.inl h1) r1)
  · split at e2
    · rename_i hn
      cases e2
      obtain ⟨a, vs, rfl, ea, g1, r1⟩ := lst_of R1 rx hn
      refine ⟨a, vs, rfl, .inl ⟨SqL.of g1, ?_⟩⟩
      rw [← r1.length]
      exact T ρ1 H1 p1 k1 R1 _ (jok_rev ea)
    · cases e2
  · cases e2
end
end T3
/-! T3: enumerate over tuples and texts -/
namespace T3
open PySem PySem.Spec PyProof.Rows L2
open Sem (wp)
open AutoSeq1 (wpAny_loadPart')
set_option maxHeartbeats 1000000 in
theorem meets_enum1 {v : Value} {o : Obj} {H : Heap → Prop} (B : Begins v o H) :
    Meets (Builtin.«enumerate.__new__» ⟨[.type "enumerate", v], []⟩) (fun _ R s => H s.heap ∧
      R (.ok (.ret (.ref (s.heap.push o).objs.size))) { s with heap := (s.heap.push o).push { cls := .type "enumerate", data := .fields #[.none, .bool false, .ref s.heap.objs.size, rawInt 0, .none, .none] } }) :=
  .of_wp fun prog w A R s h => by
    obtain ⟨hp, g, d, tk, os⟩ := s; obtain ⟨h1, h⟩ := h
    have hsub := sub_enumerate
    have q1 : ∀ {A' : Around} {E : Value → Shared → Prop} {Q : Value → Shared → Prop}, Q (.ref hp.objs.size) ⟨hp.push o, g, d, tk, os⟩ → wpAny (model prog w) A' (pyIter v) Q E ⟨hp, g, d, tk, os⟩ :=
      fun q => B.iter prog w _ _ ⟨hp, g, d, tk, os⟩ _ h1 q
    wp_walk using q1
    refine wpAny_stack_any fun st => wpAny_pure ?_
    split
    · rename_i c _ _ _ _ _
      cases (c == Value.type "enumerate")
      · wp_walk using q1
        exact ⟨_, rfl, h⟩
      · wp_walk using q1
        exact ⟨_, rfl, h⟩
    · wp_walk using q1
      exact ⟨_, rfl, h⟩
section
variable {prog : Program} {w : World} {A : Around} {E : Value → Shared → Prop} {s : Shared}
theorem enum_begins1 {v : Value} {o : Obj} {H : Heap → Prop} {Q : Value → Shared → Prop} (B : Begins v o H) (h1 : H s.heap)
    (h : ∀ h', IsEnum h' (s.heap.objs.size + 1) s.heap.objs.size 0 .none → h'.get? s.heap.objs.size = some o → h'.objs.size = s.heap.objs.size + 2 →
      (∀ b o, s.heap.get? b = some o → h'.get? b = some o) → Q (.ref (s.heap.objs.size + 1)) { s with heap := h' }) :
    wpAny (model prog w) A (call (.type "enumerate") [v]) Q E s := by
  refine callType_new F.called_enumerate (by decide) (F.typeCall_enumerate_1 _) (F.newCall_enumerate_1 _) (fun obj => F.args_object_init_2 obj _) F.entry_enumerate_new
    (meets_enum1 B) ⟨h1, ?_⟩
  have hz : (s.heap.push o).objs.size = s.heap.objs.size + 1 := Heap.size_push ..
  show _ ∧ _
  rw [hz]
  have he : IsEnum ((s.heap.push o).push { cls := .type "enumerate", data := .fields #[.none, .bool false, .ref s.heap.objs.size, rawInt 0, .none, .none] }) (s.heap.objs.size + 1) s.heap.objs.size 0 .none := by
    have := Heap.get?_push_size (s.heap.push o) (o := { cls := .type "enumerate", data := .fields #[.none, .bool false, .ref s.heap.objs.size, rawInt 0, .none, .none] }) rfl
    rw [hz] at this; exact this
  refine ⟨⟨_, he, rfl⟩, h _ he (Heap.get?_push_of_some _ (Heap.get?_push_size _ B.free)) (by rw [Heap.size_push, hz]) fun b o x => Heap.get?_push_of_some _ (Heap.get?_push_of_some _ x)⟩
end

/-- enumerate over a tuple: each item in a new pair -/
def IteT (K : PySem.W.Frag) (a : Addr) (n : Nat) : It :=
  ⟨fun i H => i < n ∧ ∃ (xs : List V) (x : V), SqT K H a xs ∧ xs[i]? = some x ∧ xs.length = n, fun i H v H' => ∃ T x, v = .ref T ∧ H T = none ∧ H' = upd H T (.tup [.int (i : Nat), x]) ∧ ∀ xs, SqT K H a xs → xs[i]? = some x, fun i H => n ≤ i ∧ ∃ xs : List V, SqT K H a xs ∧ xs.length = n⟩
/-- enumerate over a text -/
def IteS (y : Str) : It :=
  ⟨fun i _ => i < y.cps.size, fun i H v H' => ∃ T c, v = .ref T ∧ H T = none ∧ H' = upd H T (.tup [.int (i : Nat), .str ⟨#[c]⟩]) ∧ y.cps[i]? = some c, fun i _ => y.cps.size ≤ i⟩
theorem turn_enumT {P : Program} {w : World} {K : PySem.W.Frag} {elts : List Expr} {kk : Nat} {tpos : Pos} (a e it : Addr) (n : Nat) :
    Turn P w K (.Tuple elts kk tpos) (IteT K a n) [e, it] e (fun i h => i ≤ n ∧ (∃ old, IsEnum h e it ((i : Nat) : Int) old) ∧ h.IsTupleIter it a i ∧ e ≠ it) where
  mem := by simp
  obj := fun i h st b hb => by
    obtain ⟨_, ⟨old, he⟩, ⟨o, ho, hc, hd⟩, _⟩ := st
    have e' : b = e ∨ b = it := by simpa using hb
    rcases e' with z | z
    · rw [z]; exact ⟨_, he, fun v q => nomatch q⟩
    · rw [z]; exact ⟨o, ho, fun v q => by rw [hd] at q; cases q⟩
  keep := fun i h h' st k => let ⟨hin, ⟨old, he⟩, hi, hne⟩ := st; ⟨hin, ⟨old, k e (by simp) _ he⟩, hi.at fun o q => k it (by simp) o q, hne⟩
  item := by
    intro X hP hw hK hc i pins s σ H E I hf st hg
    subst hP hw hK
    obtain ⟨_, ⟨old, he⟩, hit, hne⟩ := st
    obtain ⟨hin, xs, x, hq, hx, hxl⟩ := hg
    obtain ⟨its, rv, p, hz⟩ := I.tuple hq
    obtain ⟨u, hu, ru⟩ := rv.get hx
    have p' : s.heap.IsTuple a its.toArray := p
    have hel : e < s.heap.objs.size := Heap.lt_size he
    have hil : it < s.heap.objs.size := by obtain ⟨_, q, _⟩ := hit; exact Heap.lt_size q
    have hea : e ≠ a := fun z => by
      obtain ⟨o, ho, hco, n, hd⟩ := id p'
      rw [← z] at ho
      have he' : s.heap.get? e = some _ := he
      rw [ho] at he'
      cases he'
      cases hd
    have hia : a ≠ it := fun z => by
      obtain ⟨o, ho, hco, n, hd⟩ := id p'
      obtain ⟨o', ho', hc', hd'⟩ := id hit
      rw [z] at ho
      rw [ho] at ho'
      cases ho'
      rw [hd] at hd'
      cases hd'
    have hlt : i < its.toArray.size := by simp; exact (List.getElem?_eq_some_iff.mp hu).1
    refine wpAny_pyNext_enum_itemD (Draws.tuple (A := X.A.in1) (show X.A.in1.handled = none from I.ok.hd hc) it a hia its.toArray) he ⟨hit, p'⟩ hlt hne (by simp [hne, hea]) fun x' h' tk hx' ho st' hT hsz hk => ?_
    have hxu : x' = u := by simpa [hu] using hx'.symm
    subst hxu
    refine ⟨_, rfl, wpAny_letOwnedTupleGo_enum (s := { s with heap := h', toks := tk + 1 }) ho fun h'' he' sb => ?_⟩
    have hT2 : h''.get? s.heap.objs.size = some { cls := .type "tuple", data := .seq #[.int i tk, x'] } := (sb.2 _ (Nat.ne_of_gt hel)).trans hT
    have new : ObjOk X.prog X.w (upd H s.heap.objs.size (.tup [.int (i : Nat), x])) h'' s.heap.objs.size (.tup [.int (i : Nat), x]) :=
      ⟨by show 2 ≤ sizeLine; decide, [.int i tk, x'], .cons ⟨_, rfl⟩ (.cons ru .nil), ⟨_, hT2, rfl, _, rfl⟩⟩
    have I1 : Inv X pins σ (upd H s.heap.objs.size (.tup [.int (i : Nat), x])) { s with heap := h'', toks := tk + 1 } :=
      I.turnedNew (ch := [e, it]) (fun b ob hb q => (sb.2 b (fun z => hb (by simp [z]))).trans (hk b ob (fun z => hb (by simp [z])) (fun z => hb (by simp [z])) q)) hf (Nat.le_refl _) new
    refine ⟨.ref s.heap.objs.size, _, I1, rfl, ⟨_, x, rfl, I.hok.fresh (Nat.le_refl _), rfl, fun ys hy => by rw [I.tuple_inj hy hq]; exact hx⟩, ⟨hin, ⟨x', ?_⟩, st'.1.at fun o q => (sb.2 it (Ne.symm hne)).trans q, hne⟩, fun b hb => ?_⟩
    · have e1 : ((i + 1 : Nat) : Int) = (i : Int) + 1 := by omega
      rw [e1]; exact he'
    · have hb' : b < s.heap.objs.size := by
        have e' : b = e ∨ b = it := by simpa using hb
        rcases e' with z | z
        · rw [z]; exact hel
        · rw [z]; exact hil
      rw [upd_ne (Nat.ne_of_lt hb')]
      exact (hf b hb).1
  done := by
    intro X hP hw hK hc i pins s σ H E I hf st hg
    subst hP hw hK
    obtain ⟨hin, ⟨old, he⟩, hit, hne⟩ := st
    obtain ⟨hni, xs, hq, hx⟩ := hg
    obtain ⟨its, rv, p, hz⟩ := I.tuple hq
    obtain ⟨f0, f1, f2, f3, f4, f5⟩ := hf it (by simp)
    have p' : s.heap.IsTuple a its.toArray := p
    have hia : a ≠ it := fun z => by
      obtain ⟨o, ho, hco, n, hd⟩ := id p'
      obtain ⟨o', ho', hc', hd'⟩ := id hit
      rw [z] at ho
      rw [ho] at ho'
      cases ho'
      rw [hd] at hd'
      cases hd'
    have hl := rv.length
    have hin2 : i = its.toArray.size := by simp; omega
    refine wpAny_pyNext_enum_endD (Draws.tuple (A := X.A.in1) (show X.A.in1.handled = none from I.ok.hd hc) it a hia its.toArray) he ⟨by rw [← hin2]; exact hit, p'⟩ fun h' eb => ⟨rfl, I.turned (t' := s.toks) (fun b o hb q => eb b o hb q) f0 f1 f3 f4 f5⟩
  self := fun A i s Q E st h => let ⟨_, ⟨_, he⟩, _⟩ := st; wpAny_pyIter_enum he h
end T3
/-! T3: enumerate over texts; the rule of enumerate -/
namespace T3
open PySem PySem.Spec PyProof.Rows L2
theorem turn_enumS {P : Program} {w : World} {K : PySem.W.Frag} {elts : List Expr} {kk : Nat} {tpos : Pos} (e it : Addr) (y : Str) (t : Tok) :
    Turn P w K (.Tuple elts kk tpos) (IteS y) [e, it] e (fun i h => i ≤ y.cps.size ∧ (∃ old, IsEnum h e it ((i : Nat) : Int) old) ∧ h.IsStrIter it (strIterType y) y t i ∧ e ≠ it) where
  mem := by simp
  obj := fun i h st b hb => by
    obtain ⟨_, ⟨old, he⟩, ⟨o, ho, hc, hd⟩, _⟩ := st
    have e' : b = e ∨ b = it := by simpa using hb
    rcases e' with z | z
    · rw [z]; exact ⟨_, he, fun v q => nomatch q⟩
    · rw [z]; exact ⟨o, ho, fun v q => by rw [hd] at q; cases q⟩
  keep := fun i h h' st k => let ⟨hin, ⟨old, he⟩, ⟨o, ho, r⟩, hne⟩ := st; ⟨hin, ⟨old, k e (by simp) _ he⟩, ⟨o, k it (by simp) o ho, r⟩, hne⟩
  item := by
    intro X hP hw hK hc i pins s σ H E I hf st hg
    subst hP hw hK
    obtain ⟨_, ⟨old, he⟩, hit, hne⟩ := st
    have hin : i < y.cps.size := hg
    have hel : e < s.heap.objs.size := Heap.lt_size he
    have hil : it < s.heap.objs.size := by obtain ⟨_, q, _⟩ := hit; exact Heap.lt_size q
    refine wpAny_pyNext_enum_itemD (Draws.text (A := X.A.in1) (show X.A.in1.handled = none from I.ok.hd hc) it y t) he hit hin hne (by simp [hne]) fun x' h' tk hx' ho st' hT hsz hk => ?_
    obtain ⟨c, u, hcx, rfl⟩ := hx'
    refine ⟨_, rfl, wpAny_letOwnedTupleGo_enum (s := { s with heap := h', toks := tk + 1 }) ho fun h'' he' sb => ?_⟩
    have hT2 : h''.get? s.heap.objs.size = some { cls := .type "tuple", data := .seq #[.int i tk, .str ⟨#[c]⟩ u] } := (sb.2 _ (Nat.ne_of_gt hel)).trans hT
    have new : ObjOk X.prog X.w (upd H s.heap.objs.size (.tup [.int (i : Nat), .str ⟨#[c]⟩])) h'' s.heap.objs.size (.tup [.int (i : Nat), .str ⟨#[c]⟩]) :=
      ⟨by show 2 ≤ sizeLine; decide, [.int i tk, .str ⟨#[c]⟩ u], .cons ⟨_, rfl⟩ (.cons ⟨_, rfl⟩ .nil), ⟨_, hT2, rfl, _, rfl⟩⟩
    have I1 : Inv X pins σ (upd H s.heap.objs.size (.tup [.int (i : Nat), .str ⟨#[c]⟩])) { s with heap := h'', toks := tk + 1 } :=
      I.turnedNew (ch := [e, it]) (fun b ob hb q => (sb.2 b (fun z => hb (by simp [z]))).trans (hk b ob (fun z => hb (by simp [z])) (fun z => hb (by simp [z])) q)) hf (Nat.le_refl _) new
    obtain ⟨oi, hoi, hci, hdi⟩ := st'
    refine ⟨.ref s.heap.objs.size, _, I1, rfl, ⟨_, c, rfl, I.hok.fresh (Nat.le_refl _), rfl, hcx⟩, ⟨hin, ⟨.str ⟨#[c]⟩ u, ?_⟩, ⟨oi, (sb.2 it (Ne.symm hne)).trans hoi, hci, hdi⟩, hne⟩, fun b hb => ?_⟩
    · have e1 : ((i + 1 : Nat) : Int) = (i : Int) + 1 := by omega
      rw [e1]; exact he'
    · have hb' : b < s.heap.objs.size := by
        have e' : b = e ∨ b = it := by simpa using hb
        rcases e' with z | z
        · rw [z]; exact hel
        · rw [z]; exact hil
      rw [upd_ne (Nat.ne_of_lt hb')]
      exact (hf b hb).1
  done := by
    intro X hP hw hK hc i pins s σ H E I hf st hg
    subst hP hw hK
    obtain ⟨hin, ⟨old, he⟩, hit, hne⟩ := st
    have hni : y.cps.size ≤ i := hg
    obtain ⟨f0, f1, f2, f3, f4, f5⟩ := hf it (by simp)
    have hin2 : i = y.cps.size := by omega
    refine wpAny_pyNext_enum_endD (Draws.text (A := X.A.in1) (show X.A.in1.handled = none from I.ok.hd hc) it y t) he (by rw [← hin2]; exact hit) fun h' eb => ⟨rfl, I.turned (t' := s.toks) (fun b o hb q => eb b o hb q) f0 f1 f3 f4 f5⟩
  self := fun A i s Q E st h => let ⟨_, ⟨_, he⟩, _⟩ := st; wpAny_pyIter_enum he h
/-- enumerate(x), x a list, a tuple or a text -/
def iEnumA (K : PySem.W.Frag) (te : TE) : TI := fun σ H R => te σ H fun v H1 => (∃ a xs, v = .ref a ∧ SqL K H1 a xs ∧ R (Ite K a) H1) ∨ (∃ a xs, v = .ref a ∧ SqT K H1 a xs ∧ R (IteT K a xs.length) H1) ∨ ∃ y, v = .str y ∧ R (IteS y) H1
theorem pi_enumA {X : Cx} {e : Expr} {te : TE} {p pos tpos : Pos} {elts : List Expr} {kk : Nat} (hg : Gl X "enumerate") (hm : X.mg "enumerate" = none) (he : PE X e te) (hs : starEach [e] X.env = (false, eval e X.env) :: starEach [] X.env := by rfl) :
    PI X (.Tuple elts kk tpos) (.Call (.Name "enumerate" p) [e] [] pos) (iEnumA X.K te) := by
  refine ⟨fun pins s σ H R I h => ?_⟩
  refine Call_ (ld_blt I hg hm boot_enumerate (PyProof.Rows.callWith_type1 (args_cons (thn (he.run pins s σ H _ I h) fun u s1 ⟨v, H1, I1, r1, q1⟩ => args_nil ?_) hs) hs rfl))
  have fpk : ∀ b ∈ [s1.heap.objs.size + 1, s1.heap.objs.size], FpOk X pins H1 b := fun b hb => by
    have e' : b = s1.heap.objs.size + 1 ∨ b = s1.heap.objs.size := by simpa using hb
    have hle : s1.heap.objs.size ≤ b := by
      rcases e' with z | z
      · rw [z]; exact Nat.le_add_right _ _
      · rw [z]; exact Nat.le_refl _
    exact I1.fpOk hle (I1.hok.fresh hle)
  rcases q1 with ⟨a, xs, rfl, hq, q⟩ | ⟨a, xs, rfl, hq, q⟩ | ⟨y, rfl, q⟩
  · cases r1
    obtain ⟨its, rv, p', hz⟩ := I1.list hq
    refine call_enumerate_list p'.isList fun h' he hit hsz hk => wpAny_pyIter_enum he ?_
    have I2 : Inv X pins σ H1 { s1 with heap := h' } := I1.kept (t' := s1.toks) hk
    exact ⟨s1.heap.objs.size + 1, [s1.heap.objs.size + 1, s1.heap.objs.size], _, _, H1, rfl, I2, turn_enum a (s1.heap.objs.size + 1) s1.heap.objs.size, ⟨⟨.none, he⟩, hit, Nat.succ_ne_self _⟩, fpk, q⟩
  · cases r1
    obtain ⟨its, rv, p', hz⟩ := I1.tuple hq
    refine enum_begins1 (begins_tuple a its.toArray) p' fun h' he ho hsz hk => wpAny_pyIter_enum he ?_
    have I2 : Inv X pins σ H1 { s1 with heap := h' } := I1.kept (t' := s1.toks) hk
    exact ⟨s1.heap.objs.size + 1, [s1.heap.objs.size + 1, s1.heap.objs.size], _, _, H1, rfl, I2, turn_enumT a (s1.heap.objs.size + 1) s1.heap.objs.size xs.length, ⟨Nat.zero_le _, ⟨.none, he⟩, ⟨_, ho, rfl, rfl⟩, Nat.succ_ne_self _⟩, fpk, q⟩
  · obtain ⟨t, rfl⟩ := r1
    refine enum_begins1 (begins_text y t) trivial fun h' he ho hsz hk => wpAny_pyIter_enum he ?_
    have I2 : Inv X pins σ H1 { s1 with heap := h' } := I1.kept (t' := s1.toks) hk
    exact ⟨s1.heap.objs.size + 1, [s1.heap.objs.size + 1, s1.heap.objs.size], _, _, H1, rfl, I2, turn_enumS (s1.heap.objs.size + 1) s1.heap.objs.size y t, ⟨Nat.zero_le _, ⟨.none, he⟩, ⟨_, ho, rfl, rfl⟩, Nat.succ_ne_self _⟩, fpk, q⟩

noncomputable section
/-- the items with their numbers -/
def enW (ws : List Va) : List Va := ws.mapIdx fun i w => .tup [.int (i : Nat), w]
theorem enW_get {ws : List Va} {i : Nat} : (enW ws)[i]? = (ws[i]?).map fun w => Va.tup [.int (i : Nat), w] := by unfold enW; rw [List.getElem?_mapIdx]
theorem enW_len {ws : List Va} : (enW ws).length = ws.length := by unfold enW; rw [List.length_mapIdx]
theorem pair_rep {K : PySem.W.Frag} {ρ : List Addr} {H : Hp} {T : Addr} {i : Nat} {w : Va} {x : V} (hT : H T = none) (rv : RepV K ρ H w x) :
    L2.Same H (L2.upd H T (.tup [.int (i : Nat), x])) ∧ Kp K H (L2.upd H T (.tup [.int (i : Nat), x])) ∧ RepV K ρ (L2.upd H T (.tup [.int (i : Nat), x])) (.tup [.int (i : Nat), w]) (.ref T) := by
  have hk : Kp K H (L2.upd H T (.tup [.int (i : Nat), x])) := Kp.new hT
  refine ⟨fun b o e => ?_, hk, ?_⟩
  · by_cases z : b = T
    · subst z; rw [hT] at e; cases e
    · rw [upd_ne z]; exact e
  · simp only [RepV]
    refine ⟨T, _, rfl, upd_same, ?_⟩
    simp only [RepL]
    exact ⟨_, _, rfl, by simp only [RepV], _, _, rfl, RepV.mono (List.prefix_refl _) hk _ _ rv, rfl⟩
theorem jok_enL {K : PySem.W.Frag} {ρ : List Addr} {H : Hp} {n : Nat} {a : Addr} {ws : List Va} (ha : ρ[n]? = some a) : JOk K ρ H ⟨enW ws, fun st => st[n]? = some (.lst ws)⟩ (Ite K a) := by
  intro i ρ' fm st σ H' hp hk R hg
  obtain ⟨b, vs, e, ea, g1, r1⟩ := lst_of R (v := .ref a) (by simp only [RepV]; exact ⟨a, rfl, pre_get hp ha⟩) hg
  cases e
  refine ⟨fun w hw => ?_, fun e => ⟨vs, SqL.of g1, by rw [← r1.length]; dsimp only at e; rw [enW_len] at e; omega⟩⟩
  dsimp only at hw
  rw [enW_get] at hw
  obtain ⟨w0, hw0, rfl⟩ := Option.map_eq_some_iff.mp hw
  obtain ⟨v, hv, rv⟩ := r1.get hw0
  refine ⟨⟨vs, v, SqL.of g1, hv⟩, fun x H2 ⟨T, y, e1, hT, e2, e3⟩ => ?_⟩
  subst e1; subst e2
  have := e3 vs (SqL.of g1)
  rw [hv] at this; cases this
  exact pair_rep hT rv
theorem jok_enR {K : PySem.W.Frag} {ρ : List Addr} {H : Hp} {n : Nat} {a : Addr} {ws : List Va} (ha : ρ[n]? = some a) : JOk K ρ H ⟨enW ws, fun st => st[n]? = some (.rol ws)⟩ (Ite K a) := by
  intro i ρ' fm st σ H' hp hk R hg
  obtain ⟨b, vs, e, ea, g1, r1⟩ := rol_of R (v := .ref a) (by simp only [RepV]; exact ⟨a, rfl, pre_get hp ha⟩) hg
  cases e
  refine ⟨fun w hw => ?_, fun e => ⟨vs, g1, by rw [← r1.length]; dsimp only at e; rw [enW_len] at e; omega⟩⟩
  dsimp only at hw
  rw [enW_get] at hw
  obtain ⟨w0, hw0, rfl⟩ := Option.map_eq_some_iff.mp hw
  obtain ⟨v, hv, rv⟩ := r1.get hw0
  refine ⟨⟨vs, v, g1, hv⟩, fun x H2 ⟨T, y, e1, hT, e2, e3⟩ => ?_⟩
  subst e1; subst e2
  have := e3 vs g1
  rw [hv] at this; cases this
  exact pair_rep hT rv
theorem jok_enT {K : PySem.W.Frag} {ρ : List Addr} {H : Hp} {a : Addr} {ws : List Va} {vs : List V} (h : H a = some (.tup vs) ∨ SqT K (fun _ => none) a vs) (r : RepL K ρ H ws vs) : JOk K ρ H ⟨enW ws, fun _ => True⟩ (IteT K a vs.length) := by
  intro i ρ' fm st σ H' hp hk R _
  have g1 : SqT K H' a vs := h.elim (fun h => SqT.of (hk _ _ h)) SqT.const
  have r1 := RepL.mono hp hk _ _ r
  refine ⟨fun w hw => ?_, fun e => ⟨by rw [← r1.length]; dsimp only at e; rw [enW_len] at e; omega, vs, g1, rfl⟩⟩
  dsimp only at hw
  rw [enW_get] at hw
  obtain ⟨w0, hw0, rfl⟩ := Option.map_eq_some_iff.mp hw
  obtain ⟨v, hv, rv⟩ := r1.get hw0
  refine ⟨⟨(List.getElem?_eq_some_iff.mp hv).1, vs, v, g1, hv, rfl⟩, fun x H2 ⟨T, y, e1, hT, e2, e3⟩ => ?_⟩
  subst e1; subst e2
  have := e3 vs g1
  rw [hv] at this; cases this
  exact pair_rep hT rv
theorem jok_enS {K : PySem.W.Frag} {ρ : List Addr} {H : Hp} {s : List Nat} : JOk K ρ H ⟨enW (strW s), fun _ => True⟩ (IteS ⟨s.toArray⟩) := by
  intro i ρ' fm st σ H' hp hk R _
  refine ⟨fun w hw => ?_, fun e => ?_⟩
  · dsimp only at hw
    rw [enW_get] at hw
    obtain ⟨w0, hw0, rfl⟩ := Option.map_eq_some_iff.mp hw
    simp only [strW, List.getElem?_map, Option.map_eq_some_iff] at hw0
    obtain ⟨k, hk', rfl⟩ := hw0
    have hl := (List.getElem?_eq_some_iff.mp hk').1
    refine ⟨by show i < s.toArray.size; simpa using hl, fun x H2 ⟨T, c, e1, hT, e2, e3⟩ => ?_⟩
    subst e1; subst e2
    have : c = k := by simpa [hk'] using e3.symm
    subst this
    exact pair_rep hT (by simp only [RepV])
  · dsimp only at e
    rw [enW_len] at e
    show s.toArray.size ≤ i
    simp [strW] at e
    simp [e]
def enOf (w : Va) (st : Sto) : Option Src := match w with
  | .tup ws => some ⟨enW ws, fun _ => True⟩
  | .ktp ws => some ⟨enW ws, fun _ => True⟩
  | .str s => some ⟨enW (strW s), fun _ => True⟩
  | .ref n => match st[n]? with
    | some (.lst ws) => some ⟨enW ws, fun st => st[n]? = some (.lst ws)⟩
    | some (.rol ws) => some ⟨enW ws, fun st => st[n]? = some (.rol ws)⟩
    | _ => none
  | _ => none
def iEn (f : Ev) : Fi := fun fm st => (f fm st).bind fun p => (enOf p.1 p.2).map fun S => (S, p.2)
theorem di_en {X : Cx} {e : Expr} {f : Ev} {p pos tpos : Pos} {elts : List Expr} {kk : Nat} (hg : Gl X "enumerate") (hm : X.mg "enumerate" = none) (he : DE X e f) (hs : starEach [e] X.env = (false, eval e X.env) :: starEach [] X.env := by rfl) :
    DI X (.Tuple elts kk tpos) (.Call (.Name "enumerate" p) [e] [] pos) (iEn f) := PIi (pi_enumA hg hm he hs) fun σ H R h => by
  obtain ⟨ρ, fm, st, S, st', Rr, e, T⟩ := h
  simp only [iEn, Option.bind_eq_some_iff, Option.map_eq_some_iff] at e
  obtain ⟨⟨w, s1⟩, e1, S', e2, e3⟩ := e
  cases e3
  dsimp only at e2 T
  refine ⟨ρ, fm, st, w, s1, Rr, e1, fun ρ1 H1 p1 k1 R1 x rx => ?_⟩
  unfold enOf at e2
  split at e2
  · cases e2
    simp only [RepV] at rx
    obtain ⟨a, vs, rfl, h1, r1⟩ := rx
    exact .inr (.inl ⟨a, vs, rfl, SqT.of h1, T ρ1 H1 p1 k1 R1 _ (jok_enT (.inl h1) r1)⟩)
  · cases e2
    simp only [RepV] at rx
    obtain ⟨a, vs, rfl, h1, r1⟩ := rx
    exact .inr (.inl ⟨a, vs, rfl, SqT.const h1, T ρ1 H1 p1 k1 R1 _ (jok_enT (.inr h1) r1)⟩)
  · cases e2
    simp only [RepV] at rx
    exact .inr (.inr ⟨_, rx, T ρ1 H1 p1 k1 R1 _ jok_enS⟩)
  · split at e2
    · rename_i hn
      cases e2
      obtain ⟨a, vs, rfl, ea, g1, r1⟩ := lst_of R1 rx hn
      exact .inl ⟨a, vs, rfl, SqL.of g1, T ρ1 H1 p1 k1 R1 _ (jok_enL ea)⟩
    · rename_i hn
      cases e2
      obtain ⟨a, vs, rfl, ea, g1, r1⟩ := rol_of R1 rx hn
      exact .inl ⟨a, vs, rfl, g1, T ρ1 H1 p1 k1 R1 _ (jok_enR ea)⟩
    · cases e2
  · cases e2
end
end T3
/-! T3, twelfth part: the mirrors by what is wanted behind them -/
namespace T3
open PySem PySem.Spec PyProof.Rows L2
noncomputable section

def Wp {α : Type} (x : Option (α × Sto)) (Q : α → Sto → Prop) : Prop := ∃ w st', x = some (w, st') ∧ Q w st'
def Ws (x : Option (Fl × Fm × Sto)) (N : Fm → Sto → Prop) (R : Va → Sto → Prop) (B C : Fm → Sto → Prop) : Prop :=
  ∃ fl fm st, x = some (fl, fm, st) ∧ match fl with
    | .nx => N fm st
    | .rt v => R v st
    | .bk => B fm st
    | .ct => C fm st
def If (b : Bool) (A B : Prop) : Prop := (b = true → A) ∧ (b = false → B)
theorem If.t {A B : Prop} (h : A) : If true A B := ⟨fun _ => h, fun e => Bool.noConfusion e⟩
theorem If.f {A B : Prop} (h : B) : If false A B := ⟨fun e => Bool.noConfusion e, fun _ => h⟩
theorem If.d {p : Prop} [Decidable p] {A B : Prop} (h1 : p → A) (h2 : ¬p → B) : If (decide p) A B := ⟨fun e => h1 (of_decide_eq_true e), fun e => h2 (of_decide_eq_false e)⟩
theorem If.n {b : Bool} {A B : Prop} (h : If b B A) : If (!b) A B := by
  cases b
  · exact If.t (h.2 rfl)
  · exact If.f (h.1 rfl)
theorem If.dt {p : Prop} [Decidable p] {A B : Prop} (h : p) (a : A) : If (decide p) A B := If.d (fun _ => a) (fun n => absurd h n)
theorem If.df {p : Prop} [Decidable p] {A B : Prop} (h : ¬p) (a : B) : If (decide p) A B := If.d (fun n => absurd n h) (fun _ => a)
section
variable {α : Type} {fm : Fm} {st : Sto} {Q : Va → Sto → Prop} {QL : List Va → Sto → Prop} {QB : Bool → Sto → Prop} {N : Fm → Sto → Prop} {R : Va → Sto → Prop} {B C : Fm → Sto → Prop} {w : Va} {i : Nat}
theorem wp_of {x : Option (α × Sto)} {w : α} {st' : Sto} {Q : α → Sto → Prop} (h : x = some (w, st')) (q : Q w st') : Wp x Q := ⟨w, st', h, q⟩
theorem Wp.imp {x : Option (α × Sto)} {Q Q' : α → Sto → Prop} (h : Wp x Q) (k : ∀ w s, Q w s → Q' w s) : Wp x Q' := by
  obtain ⟨w, s, e, q⟩ := h
  exact ⟨w, s, e, k w s q⟩
theorem wp_bind {β : Type} {x : Option (α × Sto)} {f : α × Sto → Option (β × Sto)} {Q : β → Sto → Prop} (h : Wp x fun w s => Wp (f (w, s)) Q) : Wp (x.bind f) Q := by
  obtain ⟨w, s, e, w2, s2, e2, q⟩ := h
  exact ⟨w2, s2, by rw [e]; exact e2, q⟩
theorem ws_of {x : Option (Fl × Fm × Sto)} (h : x = some (.nx, fm, st)) (q : N fm st) : Ws x N R B C := ⟨_, _, _, h, q⟩
theorem we_c (h : Q w st) : Wp (eC w fm st) Q := ⟨_, _, rfl, h⟩
theorem we_v (e : fm[i]? = some (some w)) (h : Q w st) : Wp (eV i fm st) Q := ⟨w, st, by unfold eV; rw [e], h⟩
theorem we_b {g : Va → Va → Sto → Option (Va × Sto)} {f1 f2 : Ev} (h : Wp (f1 fm st) fun a s => Wp (f2 fm s) fun b s' => Wp (g a b s') Q) : Wp (eB g f1 f2 fm st) Q := wp_bind (h.imp fun _ _ h => wp_bind h)
theorem we_u {g : Va → Sto → Option (Va × Sto)} {f1 : Ev} (h : Wp (f1 fm st) fun a s => Wp (g a s) Q) : Wp (eU g f1 fm st) Q := wp_bind h
theorem wa_n (h : QL [] st) : Wp (aN fm st) QL := ⟨_, _, rfl, h⟩
theorem wa_c {f : Ev} {g : Evs} (h : Wp (f fm st) fun a s => Wp (g fm s) fun bs s' => QL (a :: bs) s') : Wp (aC f g fm st) QL := wp_bind (h.imp fun _ _ h => wp_bind (h.imp fun _ _ h => ⟨_, _, rfl, h⟩))
theorem we_a {g : List Va → Sto → Option (Va × Sto)} {fa : Evs} (h : Wp (fa fm st) fun ws s => Wp (g ws s) Q) : Wp (eA g fa fm st) Q := wp_bind h
theorem we_mt {T : String} {g : Va → List Va → Sto → Option (Va × Sto)} {f : Ev} {fa : Evs} (h : Wp (f fm st) fun a s => hasTy T a s = true ∧ Wp (fa fm s) fun ws s' => Wp (g a ws s') Q) : Wp (eMt T g f fa fm st) Q :=
  wp_bind (h.imp fun a s h => by dsimp only; rw [if_pos h.1]; exact wp_bind h.2)
theorem we_call {np : Nat} {k : Fn} {fa : Evs} (h : Wp (fa fm st) fun ws s => ws.length = np ∧ Wp (k ws s) Q) : Wp (eCall np k fa fm st) Q :=
  wp_bind (h.imp fun a s h => by dsimp only; rw [if_pos h.1]; exact h.2)
theorem we_tup {fa : Evs} (h : Wp (fa fm st) fun ws s => ws.length ≤ 16777216 ∧ Q (.tup ws) s) : Wp (eTup fa fm st) Q :=
  wp_bind (h.imp fun a s h => by dsimp only; rw [if_pos h.1]; exact ⟨_, _, rfl, h.2⟩)
theorem we_lst {fa : Evs} (h : Wp (fa fm st) fun ws s => ws.length ≤ 16777216 ∧ Q (.ref s.length) (s ++ [.lst ws])) : Wp (eLst fa fm st) Q :=
  wp_bind (h.imp fun a s h => by dsimp only; rw [if_pos h.1]; exact ⟨_, _, rfl, h.2⟩)
theorem we_not {f : Ev} (h : Wp (f fm st) fun a s => ∃ b, a = .bl b ∧ Q (.bl (!b)) s) : Wp (eNot f fm st) Q :=
  wp_bind (h.imp fun a s ⟨b, e, h⟩ => by subst e; exact ⟨_, _, rfl, h⟩)
theorem we_if {c : Et} {f g : Ev} (h : Wp (c fm st) fun b s => If b (Wp (f fm s) Q) (Wp (g fm s) Q)) : Wp (eIf c f g fm st) Q :=
  wp_bind (h.imp fun b s h => by dsimp only; cases b; exact h.2 rfl; exact h.1 rfl)
theorem we_and {f g : Ev} (h : Wp (f fm st) fun a s => ∃ b, a = .bl b ∧ If b (Wp (g fm s) Q) (Q (.bl false) s)) : Wp (eAnd f g fm st) Q :=
  wp_bind (h.imp fun a s ⟨b, e, h⟩ => by subst e; cases b; exact ⟨_, _, rfl, h.2 rfl⟩; exact h.1 rfl)
theorem we_or {f g : Ev} (h : Wp (f fm st) fun a s => ∃ b, a = .bl b ∧ If b (Q (.bl true) s) (Wp (g fm s) Q)) : Wp (eOr f g fm st) Q :=
  wp_bind (h.imp fun a s ⟨b, e, h⟩ => by subst e; cases b; exact h.2 rfl; exact ⟨_, _, rfl, h.1 rfl⟩)
theorem we_cut {f : Ev} {a b : Ep} (h : Wp (f fm st) fun w s => Wp (a fm s) fun lo s' => Wp (b fm s') fun hi s'' => Wp (gCut w lo hi s'') Q) : Wp (eCut f a b fm st) Q := wp_bind (h.imp fun _ _ h => wp_bind (h.imp fun _ _ h => wp_bind h))
theorem wo_n {Q : Option Int → Sto → Prop} (h : Q none st) : Wp (pNo fm st) Q := ⟨_, _, rfl, h⟩
theorem wo_s {f : Ev} {Q : Option Int → Sto → Prop} (h : Wp (f fm st) fun a s => ∃ k, a = .int k ∧ Q (some k) s) : Wp (pSo f fm st) Q := wp_bind (h.imp fun a s ⟨k, e, h⟩ => by subst e; exact ⟨_, _, rfl, h⟩)
theorem wb_b {g : Va → Va → Sto → Option (Va × Sto)} {f1 f2 : Ev} (h : Wp (f1 fm st) fun a s => Wp (f2 fm s) fun b s' => Wp (g a b s') fun r s'' => ∃ b, r = .bl b ∧ QB b s'') : Wp (bB g f1 f2 fm st) QB :=
  wp_bind (h.imp fun _ _ h => wp_bind (h.imp fun _ _ h => wp_bind (h.imp fun a s ⟨b, e, h⟩ => by subst e; exact ⟨_, _, rfl, h⟩)))
theorem wb_v {f : Ev} (h : Wp (f fm st) fun a s => ∃ b, truth a s = some b ∧ QB b s) : Wp (bV f fm st) QB :=
  wp_bind (h.imp fun a s ⟨b, e, h⟩ => ⟨b, s, by simp only [e, Option.bind_some], h⟩)
theorem wb_o {f : Ev} (h : Wp (f fm st) fun a s => ∃ b, a = .bl b ∧ QB b s) : Wp (bO f fm st) QB :=
  wp_bind (h.imp fun a s ⟨b, e, h⟩ => by subst e; exact ⟨_, _, rfl, h⟩)
theorem wb_and {f g : Et} (h : Wp (f fm st) fun b s => If b (Wp (g fm s) QB) (QB false s)) : Wp (bAnd f g fm st) QB :=
  wp_bind (h.imp fun b s h => by cases b; exact ⟨_, _, rfl, h.2 rfl⟩; exact h.1 rfl)
theorem wb_or {f g : Et} (h : Wp (f fm st) fun b s => If b (QB true s) (Wp (g fm s) QB)) : Wp (bOr f g fm st) QB :=
  wp_bind (h.imp fun b s h => by cases b; exact h.2 rfl; exact ⟨_, _, rfl, h.1 rfl⟩)
theorem wb_not {f : Et} (h : Wp (f fm st) fun b s => QB (!b) s) : Wp (bNot f fm st) QB := wp_bind (h.imp fun b s h => ⟨_, _, rfl, h⟩)
theorem wb_yes (h : QB true st) : Wp (bYes fm st) QB := ⟨_, _, rfl, h⟩
theorem we_ch {g g' : Va → Va → Sto → Option (Va × Sto)} {f1 f2 f3 : Ev} (h : Wp (f1 fm st) fun a s => Wp (f2 fm s) fun b s' => Wp (g a b s') fun r s2 => ∃ c, r = .bl c ∧ If c (Wp (f3 fm s2) fun d s3 => Wp (g' b d s3) Q) (Q (.bl false) s2)) : Wp (eCh g g' f1 f2 f3 fm st) Q :=
  wp_bind (h.imp fun _ _ h => wp_bind (h.imp fun _ _ h => wp_bind (h.imp fun a s ⟨b, e, h⟩ => by
    subst e
    cases b
    · exact ⟨_, _, rfl, h.2 rfl⟩
    · exact wp_bind (h.1 rfl))))
theorem wx_n {Q : List (Va × Va) → Sto → Prop} (h : Q [] st) : Wp (pN fm st) Q := ⟨_, _, rfl, h⟩
theorem wx_c {f g : Ev} {r : Eps} {Q : List (Va × Va) → Sto → Prop} (h : Wp (f fm st) fun a s => Wp (g fm s) fun b s' => Wp (r fm s') fun l s'' => Q ((a, b) :: l) s'') : Wp (pC f g r fm st) Q :=
  wp_bind (h.imp fun _ _ h => wp_bind (h.imp fun _ _ h => wp_bind (h.imp fun _ _ h => ⟨_, _, rfl, h⟩)))
-- statements
theorem Ws.imp {x : Option (Fl × Fm × Sto)} {N' : Fm → Sto → Prop} {R' : Va → Sto → Prop} {B' C' : Fm → Sto → Prop} (h : Ws x N R B C) (n : ∀ f s, N f s → N' f s) (r : ∀ f s, R f s → R' f s) (b : ∀ f s, B f s → B' f s) (c : ∀ f s, C f s → C' f s) : Ws x N' R' B' C' := by
  obtain ⟨fl, fm, s, e, q⟩ := h
  refine ⟨fl, fm, s, e, ?_⟩
  cases fl
  · exact n _ _ q
  · exact r _ _ q
  · exact b _ _ q
  · exact c _ _ q
theorem ss_n (h : N fm st) : Ws (sNil fm st) N R B C := ⟨_, _, _, rfl, h⟩
theorem ss_c {f g : Sm} (h : Ws (f fm st) (fun fm' s => Ws (g fm' s) N R B C) R B C) : Ws (sCons f g fm st) N R B C := by
  obtain ⟨fl, fm', s, e, q⟩ := h
  unfold sCons
  rw [e]
  cases fl
  · exact q
  · exact ⟨_, _, _, rfl, q⟩
  · exact ⟨_, _, _, rfl, q⟩
  · exact ⟨_, _, _, rfl, q⟩
theorem ws_bind {β : Type} {x : Option (β × Sto)} {f : β × Sto → Option (Fl × Fm × Sto)} (h : Wp x fun w s => Ws (f (w, s)) N R B C) : Ws (x.bind f) N R B C := by
  obtain ⟨w, s, e, h⟩ := h
  rw [e]; exact h
theorem ss_set {f : Ev} (h : Wp (f fm st) fun w s => N (fm.set i (some w)) s) : Ws (sSet i f fm st) N R B C := ws_bind (h.imp fun _ _ h => ⟨_, _, _, rfl, h⟩)
theorem ss_ex {f : Ev} (h : Wp (f fm st) fun w s => N fm s) : Ws (sEx f fm st) N R B C := ws_bind (h.imp fun _ _ h => ⟨_, _, _, rfl, h⟩)
theorem ss_ret {f : Ev} (h : Wp (f fm st) fun w s => R w s) : Ws (sRet f fm st) N R B C := ws_bind (h.imp fun _ _ h => ⟨_, _, _, rfl, h⟩)
theorem ss_retN (h : R .non st) : Ws (sRetN fm st) N R B C := ⟨_, _, _, rfl, h⟩
theorem ss_bk (h : B fm st) : Ws (sBk fm st) N R B C := ⟨_, _, _, rfl, h⟩
theorem ss_ct (h : C fm st) : Ws (sCt fm st) N R B C := ⟨_, _, _, rfl, h⟩
theorem ss_if {c : Et} {f g : Sm} (h : Wp (c fm st) fun b s => If b (Ws (f fm s) N R B C) (Ws (g fm s) N R B C)) : Ws (sIf c f g fm st) N R B C :=
  ws_bind (h.imp fun b s h => by dsimp only; cases b; exact h.2 rfl; exact h.1 rfl)
theorem ss_asg {fg : Fg} {f : Ev} (h : Wp (f fm st) fun w s => ∃ fm', fg w fm = some fm' ∧ N fm' s) : Ws (sAsg fg f fm st) N R B C :=
  ws_bind (h.imp fun b s ⟨fm', e, h⟩ => ⟨.nx, fm', s, by simp only [e, Option.bind_some], h⟩)
theorem ss_put {fo fi fv : Ev} (h : Wp (fv fm st) fun v s => Wp (fo fm s) fun o s' => Wp (fi fm s') fun i s'' => ∃ s3, setW o i v s'' = some s3 ∧ N fm s3) : Ws (sPut fo fi fv fm st) N R B C := by
  obtain ⟨v, s, e, o, s', e', i, s'', e'', s3, e3, h⟩ := h
  exact ⟨.nx, fm, s3, by simp only [sPut, e, e', e'', e3, Option.bind_some, Option.map_some], h⟩
/-- a for's turns -/
def Wl (gd : Sto → Prop) (fg : Fg) (body : Sm) (ws : List Va) (fm : Fm) (st : Sto) (N : Fm → Sto → Prop) (R : Va → Sto → Prop) : Prop := Ws (forL gd fg body ws fm st) N R (fun _ _ => False) (fun _ _ => False)
theorem ss_for {fi : Fi} {fg : Fg} {body : Sm} (h : Wp (fi fm st) fun S s => Wl S.gd fg body S.ws fm s N R) : Ws (sFor fi fg body fm st) N R B C :=
  ws_bind (h.imp fun S s h => Ws.imp h (fun _ _ h => h) (fun _ _ h => h) (fun _ _ h => h.elim) (fun _ _ h => h.elim))
theorem wl_nil {gd : Sto → Prop} {fg : Fg} {body : Sm} (g : gd st) (h : N fm st) : Wl gd fg body [] fm st N R := ⟨.nx, fm, st, by simp only [forL]; rw [if_pos g], h⟩
theorem wl_cons {gd : Sto → Prop} {fg : Fg} {body : Sm} {w : Va} {ws : List Va} {fm1 : Fm} (g : gd st) (e : fg w fm = some fm1) (h : Ws (body fm1 st) (fun fm' s => Wl gd fg body ws fm' s N R) R N (fun fm' s => Wl gd fg body ws fm' s N R)) : Wl gd fg body (w :: ws) fm st N R := by
  obtain ⟨fl, fm2, s, e2, q⟩ := h
  unfold Wl
  simp only [forL]
  rw [if_pos g, e, Option.bind_some, e2]
  cases fl
  · exact q
  · exact ⟨_, _, _, rfl, q⟩
  · exact ⟨_, _, _, rfl, q⟩
  · exact q
/-- by what holds between the turns -/
theorem wl_inv {gd : Sto → Prop} {fg : Fg} {body : Sm} (Inv : Nat → Fm → Sto → Prop) {ws : List Va} (hg : ∀ i fm st, Inv i fm st → gd st) (h0 : Inv 0 fm st)
    (ht : ∀ i w, ws[i]? = some w → ∀ fm st, Inv i fm st → ∃ fm1, fg w fm = some fm1 ∧ Ws (body fm1 st) (Inv (i + 1)) R N (Inv (i + 1)))
    (hN : ∀ fm st, Inv ws.length fm st → N fm st) : Wl gd fg body ws fm st N R := by
  have key : ∀ (n i : Nat), i + n = ws.length → ∀ fm st, Inv i fm st → Wl gd fg body (ws.drop i) fm st N R := by
    intro n
    induction n with
    | zero =>
      intro i hi fm st h
      have : i = ws.length := by omega
      subst this
      rw [List.drop_length]
      exact wl_nil (hg _ fm st h) (hN _ _ h)
    | succ n ih =>
      intro i hi fm st h
      have hl : i < ws.length := by omega
      obtain ⟨fm1, e1, h1⟩ := ht i ws[i] (List.getElem?_eq_getElem hl) fm st h
      rw [List.drop_eq_getElem_cons hl]
      exact wl_cons (hg _ fm st h) e1 (h1.imp (fun f s h => ih (i + 1) (by omega) f s h) (fun _ _ h => h) (fun _ _ h => h) (fun f s h => ih (i + 1) (by omega) f s h))
  exact key ws.length 0 (by omega) fm st h0
/-- a while, by a measure -/
theorem ss_wh {c : Et} {body : Sm} (Inv : Nat → Fm → Sto → Prop) (m : Nat) (h0 : Inv m fm st)
    (ht : ∀ m fm st, Inv m fm st → Wp (c fm st) fun b s => If b (Ws (body fm s) (fun fm' s' => ∃ k, k < m ∧ Inv k fm' s') R N (fun fm' s' => ∃ k, k < m ∧ Inv k fm' s')) (N fm s)) : Ws (sWh c body fm st) N R B C := by
  have key : ∀ (n m : Nat), m < n → ∀ fm st, Inv m fm st → ∃ fl fm' st', whL c body n fm st = some (fl, fm', st') ∧ (match fl with | .nx => N fm' st' | .rt v => R v st' | _ => False) := by
    intro n
    induction n with
    | zero => intro m hm; omega
    | succ n ih =>
      intro m hm fm st h
      obtain ⟨b, s, e, q⟩ := ht m fm st h
      simp only [whL, e, Option.bind_some]
      cases b with
      | false => exact ⟨.nx, fm, s, rfl, q.2 rfl⟩
      | true =>
        obtain ⟨fl, fm2, s2, e2, q2⟩ := q.1 rfl
        simp only [if_true, e2, Option.bind_some]
        cases fl with
        | nx =>
          obtain ⟨k, hk, h2⟩ := q2
          exact ih k (by omega) fm2 s2 h2
        | ct =>
          obtain ⟨k, hk, h2⟩ := q2
          exact ih k (by omega) fm2 s2 h2
        | bk => exact ⟨.nx, fm2, s2, rfl, q2⟩
        | rt v => exact ⟨.rt v, fm2, s2, rfl, q2⟩
  obtain ⟨fl, fm', st', e, q⟩ := key (m + 1) m (by omega) fm st h0
  refine ⟨fl, fm', st', sWh_of e, ?_⟩
  cases fl
  · exact q
  · exact q
  · exact q.elim
  · exact q.elim
theorem wi_a {f : Ev} {Q : Src → Sto → Prop} (h : Wp (f fm st) fun w s => ∃ S, srcOf w s = some S ∧ Q S s) : Wp (iA f fm st) Q :=
  wp_bind (h.imp fun w s ⟨S, e, h⟩ => ⟨S, s, by simp only [e, Option.map_some], h⟩)
theorem wi_r1 {f : Ev} {Q : Src → Sto → Prop} (h : Wp (f fm st) fun w s => ∃ n : Int, w = .int n ∧ (-1000000000 ≤ n ∧ n < 1000000000) ∧ Q ⟨rngW 0 n.toNat, fun _ => True⟩ s) : Wp (iR1 f fm st) Q := by
  obtain ⟨w, s, e, n, rfl, hn, h⟩ := h
  exact ⟨_, _, iR1_gen e hn, h⟩
theorem wi_r2 {f g : Ev} {Q : Src → Sto → Prop} (h : Wp (f fm st) fun w s => Wp (g fm s) fun u s' => ∃ m n : Int, w = .int m ∧ u = .int n ∧ (-1000000000 ≤ m ∧ m < 1000000000 ∧ -1000000000 ≤ n ∧ n < 1000000000) ∧ Q ⟨rngW m (n - m).toNat, fun _ => True⟩ s') : Wp (iR2 f g fm st) Q := by
  obtain ⟨w, s, e, u, s', e', m, n, rfl, rfl, hn, h⟩ := h
  exact ⟨_, _, iR2_gen e e' hn, h⟩
/-- a def -/
theorem wp_fn {n np : Nat} {fs : Sm} {ws : List Va} (hl : ws.length = np) (h : Ws (fs (ws.map some ++ List.replicate (n - np) none) st) (fun _ s => Q (fin st .non s).1 (fin st .non s).2) (fun w s => Q (fin st w s).1 (fin st w s).2) (fun _ _ => False) (fun _ _ => False)) : Wp (fn n np fs ws st) Q := by
  obtain ⟨fl, fm', s, e, q⟩ := h
  unfold fn
  rw [if_pos hl, e]
  cases fl
  · exact ⟨_, _, rfl, q⟩
  · exact ⟨_, _, rfl, q⟩
  · exact q.elim
  · exact q.elim
-- operators
theorem wp_ai {a b : Int} (h : Q (.int (a + b)) st) : Wp (gAdd (.int a) (.int b) st) Q := wp_of gAdd_i h
theorem wp_si {a b : Int} (h : Q (.int (a - b)) st) : Wp (T3.gSub (.int a) (.int b) st) Q := wp_of gSub_i h
theorem wp_ml {a b : Int} (hk : a.natAbs < 18446744073709551616) (h : Q (.int (a * b)) st) : Wp (gMul (.int a) (.int b) st) Q := wp_of (gMul_l hk) h
theorem wp_mr {a b : Int} (hk : b.natAbs < 18446744073709551616) (h : Q (.int (a * b)) st) : Wp (gMul (.int a) (.int b) st) Q := wp_of (gMul_r hk) h
theorem wp_md {a b : Int} (hk : 0 < b) (h : Q (.int (a % b)) st) : Wp (gMod (.int a) (.int b) st) Q := wp_of (gMod_p hk) h
theorem wp_ng {a : Int} (h : Q (.int (-a)) st) : Wp (gNeg (.int a) st) Q := wp_of rfl h
theorem wp_eqi {a b : Int} (h : Q (.bl (decide (a = b))) st) : Wp (gEq (.int a) (.int b) st) Q := wp_of gEq_i h
theorem wp_eqs {a b : List Nat} (h : Q (.bl (decide (a = b))) st) : Wp (gEq (.str a) (.str b) st) Q := wp_of gEq_s h
theorem wp_eqb {a b : Bool} (h : Q (.bl (decide (a = b))) st) : Wp (gEq (.bl a) (.bl b) st) Q := wp_of gEq_b h
theorem wp_nei {a b : Int} (h : Q (.bl (!decide (a = b))) st) : Wp (gNe (.int a) (.int b) st) Q := wp_of gNe_i h
theorem wp_nes {a b : List Nat} (h : Q (.bl (!decide (a = b))) st) : Wp (gNe (.str a) (.str b) st) Q := wp_of gNe_s h
theorem wp_neb {a b : Bool} (h : Q (.bl (!decide (a = b))) st) : Wp (gNe (.bl a) (.bl b) st) Q := wp_of gNe_b h
theorem wp_lt {a b : Int} (h : Q (.bl (decide (a < b))) st) : Wp (gLt (.int a) (.int b) st) Q := wp_of gLt_i h
theorem wp_le {a b : Int} (h : Q (.bl (decide (a ≤ b))) st) : Wp (gLe (.int a) (.int b) st) Q := wp_of gLe_i h
theorem wp_gt {a b : Int} (h : Q (.bl (decide (b < a))) st) : Wp (gGt (.int a) (.int b) st) Q := wp_of gGt_i h
theorem wp_ge {a b : Int} (h : Q (.bl (decide (b ≤ a))) st) : Wp (gGe (.int a) (.int b) st) Q := wp_of gGe_i h
theorem wp_isn {a : Va} (h : Q (.bl (isNon a)) st) : Wp (gIs a .non st) Q := wp_of (by cases a <;> rfl) h
theorem wp_isnn {a : Va} (h : Q (.bl (!isNon a)) st) : Wp (gIsN a .non st) Q := wp_of (by cases a <;> rfl) h
theorem wp_isb {a b : Bool} (h : Q (.bl (decide (a = b))) st) : Wp (gIs (.bl a) (.bl b) st) Q := wp_of rfl h
theorem wp_isnb {a b : Bool} (h : Q (.bl (!decide (a = b))) st) : Wp (gIsN (.bl a) (.bl b) st) Q := wp_of rfl h
theorem wp_int {a : Int} (h : Q (.int a) st) : Wp (gInt [.int a] st) Q := wp_of gInt_i h
theorem wp_min {a b : Int} (h : Q (.int (if b < a then b else a)) st) : Wp (gMin [.int a, .int b] st) Q := wp_of rfl h
theorem wp_max {a b : Int} (h : Q (.int (if b > a then b else a)) st) : Wp (gMax [.int a, .int b] st) Q := wp_of rfl h
theorem wp_lens {a : List Nat} (hk : a.length ≤ 16777216) (h : Q (.int a.length) st) : Wp (gLen [.str a] st) Q := wp_of (by simp only [gLen, lenW]; rw [if_pos hk]; rfl) h
theorem wp_lent {a : List Va} (h : Q (.int a.length) st) : Wp (gLen [.tup a] st) Q := wp_of rfl h
theorem wp_ixt {a : List Va} {i : Int} (hk : atI a i = some w) (h : Q w st) : Wp (gIx (.tup a) (.int i) st) Q := wp_of (by simp only [gIx, pickW, hk, Option.map_some]) h
theorem wp_ixs {a : List Nat} {i : Int} {c : Nat} (hl : a.length ≤ 16777216) (hk : atI a i = some c) (h : Q (.str [c]) st) : Wp (gIx (.str a) (.int i) st) Q := wp_of (by simp only [gIx]; rw [if_pos hl, hk]; rfl) h
theorem wp_ixl {a : List Va} {n : Nat} {i : Int} (hs : st[n]? = some (.lst a)) (hk : atI a i = some w) (h : Q w st) : Wp (gIx (.ref n) (.int i) st) Q := wp_of (by simp only [gIx, hs, pickW, hk, Option.map_some]) h
theorem wp_as {a b : List Nat} (hk : a.length + b.length ≤ 16777216) (h : Q (.str (a ++ b)) st) : Wp (gAdd (.str a) (.str b) st) Q := wp_of (gAdd_s hk) h
theorem wp_at {a b : List Va} (hk : a.length + b.length ≤ 16777216) (h : Q (.tup (a ++ b)) st) : Wp (gAdd (.tup a) (.tup b) st) Q := wp_of (if_pos hk) h
theorem wp_cuts {a : List Nat} {lo hi : Option Int} {w : Va} (hk : gCut (.str a) lo hi st = some (w, st)) (h : Q w st) : Wp (gCut (.str a) lo hi st) Q := wp_of hk h

/-- a comprehension, by what holds between its turns -/
theorem wp_lc {fi : Fi} {fg : Fg} {ft : Et} {fe : Ev} {vs : List Nat} (h : Wp (fi fm st) fun S s => ∃ Inv : Nat → Sto → Prop, (∀ i s, Inv i s → S.gd s) ∧ Inv 0 (s ++ [.lst []]) ∧
      (∀ i w, S.ws[i]? = some w → ∃ fm1, fg w (wip fm vs) = some fm1 ∧ ∀ s1, Inv i s1 → Wp (ft fm1 s1) fun b s2 => If b (Wp (fe fm1 s2) fun y s3 => ∃ acc, s3[s.length]? = some (.lst acc) ∧ acc.length < 16777216 ∧ Inv (i + 1) (s3.set s.length (.lst (acc ++ [y])))) (Inv (i + 1) s2)) ∧
      ∀ s', Inv S.ws.length s' → Q (.ref s.length) s') : Wp (eLc fi fg ft fe vs fm st) Q := by
  obtain ⟨S, s, e, Inv, hg, h0, ht, hq⟩ := h
  have key : ∀ (n i : Nat), i + n = S.ws.length → ∀ s1, Inv i s1 → ∃ s', lcL S.gd fg ft fe s.length (S.ws.drop i) (wip fm vs) s1 = some s' ∧ Inv S.ws.length s' := by
    intro n
    induction n with
    | zero =>
      intro i hi s1 h
      have : i = S.ws.length := by omega
      subst this
      rw [List.drop_length]
      exact ⟨s1, by simp only [lcL]; rw [if_pos (hg _ _ h)], h⟩
    | succ n ih =>
      intro i hi s1 h
      have hl : i < S.ws.length := by omega
      obtain ⟨fm1, e1, h1⟩ := ht i S.ws[i] (List.getElem?_eq_getElem hl)
      obtain ⟨b, s2, e2, h2⟩ := h1 s1 h
      rw [List.drop_eq_getElem_cons hl]
      simp only [lcL]
      rw [if_pos (hg _ _ h), e1, Option.bind_some, e2]
      cases b with
      | false => exact ih (i + 1) (by omega) s2 (h2.2 rfl)
      | true =>
        obtain ⟨y, s3, e3, acc, ea, hz, h3⟩ := h2.1 rfl
        simp only [Option.bind_some, if_true, e3, ea]
        rw [if_pos hz]
        exact ih (i + 1) (by omega) _ h3
  obtain ⟨s', e', h'⟩ := key S.ws.length 0 (by omega) _ h0
  rw [List.drop_zero] at e'
  refine ⟨_, s', ?_, hq s' h'⟩
  unfold eLc
  rw [e, Option.bind_some, e', Option.map_some]
end

/-! ### the world of the draws -/
structure Dw where
  st : Sto
  d : Nat
  r : Nat
  row : List Int
  seed : Int
  ok : Dr st d r row seed
/-- the store: the draws at a, the store ahead of the def, its own things -/
def W (e : Dw) (a : Nat) (L M : Sto) : Sto := dSt e.st e.d e.r e.seed a ++ (L ++ M)
def Dw.p (e : Dw) (L : Sto) : Nat := e.st.length + L.length
section
variable {e : Dw} {a : Nat} {L M : Sto} {Q : Va → Sto → Prop} {fm : Fm}
theorem W_len : (W e a L M).length = e.p L + M.length := by unfold W Dw.p; rw [List.length_append, dSt_len, List.length_append]; omega
theorem W_get (k : Nat) : (W e a L M)[e.p L + k]? = M[k]? := by
  unfold W Dw.p
  rw [List.getElem?_append_right (by rw [dSt_len]; omega), dSt_len, List.getElem?_append_right (by omega)]
  congr 1; omega
theorem W_get0 : (W e a L M)[e.p L]? = M[0]? := W_get 0
theorem W_set (k : Nat) (o : Ob) : (W e a L M).set (e.p L + k) o = W e a L (M.set k o) := by
  unfold W Dw.p
  rw [List.set_append_right _ _ (by rw [dSt_len]; omega), dSt_len, List.set_append_right _ _ (by omega)]
  congr 3; omega
theorem W_set0 (o : Ob) : (W e a L M).set (e.p L) o = W e a L (M.set 0 o) := W_set 0 o
theorem W_push (o : Sto) : W e a L M ++ o = W e a L (M ++ o) := by unfold W; simp only [List.append_assoc]
theorem W_in : W e a L M = W e a (L ++ M) [] := by unfold W; simp
theorem p_in : e.p (L ++ M) = e.p L + M.length := by unfold Dw.p; rw [List.length_append]; omega
theorem wp_pick {m : Int} (hm : 0 < m) (h : ∀ (x : Int) (b : Nat), 0 ≤ x → x < m → Q (.int x) (W e b L M)) : Wp (c_pick [.ref e.d, .int m] (W e a L M)) Q := by
  obtain ⟨x, b, h0, h1, q⟩ := pick_D e.ok a hm (L ++ M)
  exact ⟨_, _, q, h x b h0 h1⟩
/-- a def's return: its own things are gone -/
theorem W_fin {b : Nat} {w : Va} (h : w.und e.st.length = true) : fin (W e a L []) w (W e b L M) = (w, W e b L []) := by
  have := fin_d (st := e.st) (L := L) (d := e.d) (a := a) (b := b) (seed := e.seed) (w := w) e.ok.rlt h M
  unfold W
  simpa using this
theorem W_fin_i {b : Nat} {i : Int} : fin (W e a L []) (.int i) (W e b L M) = (.int i, W e b L []) := W_fin rfl
theorem W_fin_s {b : Nat} {i : List Nat} : fin (W e a L []) (.str i) (W e b L M) = (.str i, W e b L []) := W_fin rfl
theorem W_fin_b {b : Nat} {i : Bool} : fin (W e a L []) (.bl i) (W e b L M) = (.bl i, W e b L []) := W_fin rfl
theorem W_fin_n {b : Nat} : fin (W e a L []) .non (W e b L M) = (.non, W e b L []) := W_fin rfl
/-- a value without places of the store -/
def Va.flat (w : Va) : Prop := w.und 0 = true
mutual
theorem und_up : ∀ {m n : Nat} (w : Va), m ≤ n → w.und m = true → w.und n = true
  | _, _, .non, _, _ => rfl
  | _, _, .bl _, _, _ => rfl
  | _, _, .int _, _, _ => rfl
  | _, _, .str _, _, _ => rfl
  | _, _, .ty _, _, _ => rfl
  | _, _, .ref k, h, u => by rw [und_ref, decide_eq_true_eq] at u ⊢; omega
  | _, _, .tup ws, h, u => und_upL ws h u
  | _, _, .ktp ws, h, u => und_upL ws h u
theorem und_upL : ∀ {m n : Nat} (ws : List Va), m ≤ n → Va.undL m ws = true → Va.undL n ws = true
  | _, _, [], _, _ => rfl
  | _, _, w :: ws, h, u => by
    rw [undL_cons, Bool.and_eq_true] at u ⊢
    exact ⟨und_up w h u.1, und_upL ws h u.2⟩
end
theorem W_fin_f {b : Nat} {w : Va} (h : w.flat) : fin (W e a L []) w (W e b L M) = (w, W e b L []) := W_fin (und_up w (Nat.zero_le _) h)
theorem flat_i {i : Int} : (Va.int i).flat := rfl
theorem flat_s {i : List Nat} : (Va.str i).flat := rfl
theorem flat_b {i : Bool} : (Va.bl i).flat := rfl
theorem flat_n : Va.non.flat := rfl
theorem undL_all {n : Nat} : ∀ {ws : List Va}, (∀ w ∈ ws, w.und n = true) → Va.undL n ws = true
  | [], _ => rfl
  | w :: ws, h => by rw [undL_cons, h w (by simp), undL_all fun x hx => h x (List.mem_cons_of_mem _ hx)]; rfl
theorem flat_t {ws : List Va} (h : ∀ w ∈ ws, w.flat) : (Va.tup ws).flat := undL_all h
/-- a drawn comprehension: each item is got from its thing by draws, and no place of the store is in it -/
theorem wp_lcD {fi : Fi} {fg : Fg} {fe : Ev} {vs : List Nat} {ws : List Va} (P : Nat → Va → Prop) (hi : fi fm (W e a L M) = some (⟨ws, fun _ => True⟩, W e a L M)) (hz : ws.length < 16777216)
    (h : ∀ i w, ws[i]? = some w → ∃ fm1, fg w (wip fm vs) = some fm1 ∧ ∀ a M', (∃ M'', M' = M ++ M'') → Wp (fe fm1 (W e a L M')) fun y s => ∃ b, s = W e b L M' ∧ P i y)
    (hq : ∀ b ys, ys.length = ws.length → (∀ i y, ys[i]? = some y → P i y) → Q (.ref (e.p L + M.length)) (W e b L (M ++ [.lst ys]))) : Wp (eLc fi fg bYes fe vs fm (W e a L M)) Q := by
  refine wp_lc ⟨_, _, hi, fun i s => ∃ b ys, s = W e b L (M ++ [.lst ys]) ∧ ys.length = i ∧ ∀ i y, ys[i]? = some y → P i y, fun _ _ _ => trivial, ⟨a, [], by rw [W_push], rfl, fun i y h => by cases i <;> cases h⟩, ?_, ?_⟩
  · intro i w hw
    obtain ⟨fm1, e1, h1⟩ := h i w hw
    have hil : i < ws.length := (List.getElem?_eq_some_iff.mp hw).1
    refine ⟨fm1, e1, ?_⟩
    rintro s1 ⟨b, ys, rfl, hl, hy⟩
    refine wb_yes (If.t ((h1 b _ ⟨_, rfl⟩).imp ?_))
    rintro y s3 ⟨c, rfl, hp⟩
    refine ⟨ys, ?_, by omega, c, ys ++ [y], ?_, by simp [hl], ?_⟩
    · rw [W_len, W_get]; simp
    · rw [W_len, W_set]; simp
    · intro j z hj
      by_cases hj' : j < ys.length
      · rw [List.getElem?_append_left hj'] at hj; exact hy j z hj
      · rw [List.getElem?_append_right (by omega)] at hj
        by_cases h0 : j - ys.length = 0
        · rw [h0] at hj
          simp at hj
          subst hj
          have : j = i := by omega
          subst this
          exact hp
        · rw [List.getElem?_singleton, if_neg h0] at hj
          cases hj
  · rintro s' ⟨b, ys, rfl, hl, hy⟩
    rw [W_len]
    exact hq b ys hl hy
/-- a comprehension that changes nothing -/
theorem wp_lcP {fi : Fi} {fg : Fg} {ft : Et} {fe : Ev} {vs : List Nat} {ws : List Va} (t : Va → Bool) (f : Va → Va) (hi : fi fm (W e a L M) = some (⟨ws, fun _ => True⟩, W e a L M)) (hz : ws.length < 16777216)
    (h : ∀ w ∈ ws, ∃ fm1, fg w (wip fm vs) = some fm1 ∧ ∀ M', (∃ M'', M' = M ++ M'') → Wp (ft fm1 (W e a L M')) fun b s => b = t w ∧ s = W e a L M' ∧ (t w = true → Wp (fe fm1 (W e a L M')) fun y s => s = W e a L M' ∧ y = f w))
    (hq : Q (.ref (e.p L + M.length)) (W e a L (M ++ [.lst ((ws.filter t).map f)]))) : Wp (eLc fi fg ft fe vs fm (W e a L M)) Q := by
  refine wp_lc ⟨_, _, hi, fun i s => s = W e a L (M ++ [.lst (((ws.take i).filter t).map f)]), fun _ _ _ => trivial, by rw [W_push]; simp, ?_, ?_⟩
  · intro i w hw
    obtain ⟨fm1, e1, h1⟩ := h w (List.mem_of_getElem? hw)
    have hil : i < ws.length := (List.getElem?_eq_some_iff.mp hw).1
    have ht : ws.take (i + 1) = ws.take i ++ [w] := by rw [List.take_succ, hw]; rfl
    refine ⟨fm1, e1, ?_⟩
    rintro s1 rfl
    refine (h1 _ ⟨_, rfl⟩).imp ?_
    rintro b s2 ⟨rfl, rfl, h2⟩
    refine ⟨fun hb => (h2 hb).imp ?_, fun hb => ?_⟩
    · rintro y s3 ⟨rfl, rfl⟩
      refine ⟨((ws.take i).filter t).map f, by rw [W_len, W_get]; simp, ?_, ?_⟩
      · rw [List.length_map]
        have := List.length_filter_le t (ws.take i)
        rw [List.length_take] at this
        omega
      · dsimp only
        rw [W_len, W_set, ht]
        simp [hb]
    · dsimp only
      rw [ht]; simp [hb]
  · rintro s' rfl
    rw [W_len, List.take_length]
    exact hq
end
end
end T3
/-! T3, thirteenth part: single signs in texts; equal lists of texts; the stream in the world of the draws -/
namespace T3
open PySem PySem.Spec PyProof.Rows L2
section
open StrLaws Builtin Builtin.Str
theorem occ_stay (s sub : Str) (hi : Nat) : ∀ (l : List Nat) (k free : Nat), (forIn l ((#[k] : Array Nat), free) (occBody s sub hi 1)).run.fst = #[k]
  | [], k, free => rfl
  | a :: l, k, free => by
    rw [List.forIn_cons]
    unfold occBody
    rw [if_neg (by simp)]
    exact occ_stay s sub hi l k free
theorem occ_first (s sub : Str) (hi : Nat) : ∀ (l1 : List Nat) (k : Nat) (l2 : List Nat) (free : Nat), (∀ i ∈ l1, ¬ (i + sub.length ≤ hi ∧ subAt s sub i = true)) → free ≤ k → (k + sub.length ≤ hi ∧ subAt s sub k = true) →
    (forIn (l1 ++ k :: l2) ((#[] : Array Nat), free) (occBody s sub hi 1)).run.fst = #[k]
  | [], k, l2, free, _, hf, hk => by
    rw [List.nil_append, List.forIn_cons]
    unfold occBody
    rw [if_pos ⟨⟨⟨by simp, hf⟩, hk.1⟩, hk.2⟩]
    exact occ_stay s sub hi l2 k _
  | a :: l1, k, l2, free, h1, hf, hk => by
    rw [List.cons_append, List.forIn_cons]
    unfold occBody
    have ha := h1 a (by simp)
    rw [if_neg fun h => ha ⟨h.1.2, h.2⟩]
    exact occ_first s sub hi l1 k l2 free (fun i hi => h1 i (List.mem_cons_of_mem _ hi)) hf hk
end
/-- the first place of a sign -/
theorem index0_one {s : List Nat} {c k : Nat} (hk : s[k]? = some c) (h1 : ∀ i, i < k → s[i]? ≠ some c) : Txt.index0 ⟨s.toArray⟩ ⟨[c].toArray⟩ = some k := by
  have hl : k < s.length := (List.getElem?_eq_some_iff.mp hk).1
  unfold Txt.index0
  rw [StrLaws.occ_eq]
  have hr : List.range' 0 ((⟨s.toArray⟩ : Str).length + 1 - 0) = List.range' 0 k ++ k :: List.range' (k + 1) (s.length - k) := by
    rw [slen]
    have e1 : s.length + 1 - 0 = k + (s.length - k + 1) := by omega
    rw [e1, ← List.range'_append_1, List.range'_succ]; simp
  rw [hr, occ_first _ _ _ _ k _ 0 (fun i hi hh => ?_) (Nat.zero_le _) ((StrLaws.subAt_one _ c k).mpr (by simpa using hk))]
  · rfl
  · have := (StrLaws.subAt_one ⟨s.toArray⟩ c i).mp hh
    simp only [List.mem_range'_1] at hi
    exact h1 i (by omega) (by simpa using this)
theorem first_of_mem {c : Nat} : ∀ {s : List Nat}, c ∈ s → ∃ k : Nat, s[k]? = some c ∧ ∀ i, i < k → s[i]? ≠ some c
  | [], h => nomatch h
  | d :: s, h => by
    by_cases e : d = c
    · exact ⟨0, by rw [e]; rfl, fun i hi => by omega⟩
    · obtain ⟨k, h1, h2⟩ := first_of_mem (s := s) (by rcases List.mem_cons.mp h with h | h; exact absurd h.symm e; exact h)
      refine ⟨k + 1, h1, fun i hi => ?_⟩
      cases i with
      | zero => simpa using e
      | succ i => simpa using h2 i (by omega)
theorem gIndex_one {s : List Nat} {c k : Nat} {st : Sto} (hk : s[k]? = some c) (h1 : ∀ i, i < k → s[i]? ≠ some c) : gIndex (.str s) [.str [c]] st = some (.int (k : Int), st) := by
  simp only [gIndex, index0_one hk h1, Option.map_some]
theorem gNin_s {s : List Nat} {c : Nat} {st : Sto} : gNin (.str [c]) (.str s) st = some (.bl (!decide (c ∈ s)), st) := rfl
theorem gIn_s {s : List Nat} {c : Nat} {st : Sto} : gIn (.str [c]) (.str s) st = some (.bl (decide (c ∈ s)), st) := rfl
theorem strW_py : ∀ s : List Nat, toPyL (strW s) = some (s.map fun c => .str ⟨[c].toArray⟩)
  | [] => rfl
  | c :: s => by
    have := strW_py s
    unfold strW at this ⊢
    rw [List.map_cons, toPyL, this]; rfl
theorem strW_eqv : ∀ s t : List Nat, PyData.eqvAll (s.map fun c => .str ⟨[c].toArray⟩) (t.map fun c => .str ⟨[c].toArray⟩) = decide (s = t)
  | [], [] => rfl
  | [], _ :: _ => rfl
  | _ :: _, [] => rfl
  | c :: s, d :: t => by
    rw [List.map_cons, List.map_cons, PyData.eqvAll, strW_eqv s t, PyData.eqv]
    have : ((⟨[c].toArray⟩ : Str) == ⟨[d].toArray⟩) = decide (c = d) := by
      by_cases e : c = d
      · subst e; simp
      · rw [decide_eq_false e, beq_eq_false_iff_ne]
        intro h
        injection h with h
        exact e (by simpa using h)
    rw [this]
    by_cases e : c = d <;> by_cases e2 : s = t <;> simp [e, e2]

def Cps (s : List Nat) : Prop := ∀ c ∈ s, c < 0x110000
theorem strW_lay : ∀ {s : List Nat}, Cps s → PyData.canLayAll0 (s.map fun c => .str ⟨[c].toArray⟩) = true ∧ PyData.depthAll (s.map fun c => PyData.str ⟨[c].toArray⟩) = 0
  | [], _ => ⟨rfl, rfl⟩
  | c :: s, h => by
    obtain ⟨a, b⟩ := strW_lay (s := s) fun x hx => h x (List.mem_cons_of_mem _ hx)
    have hc := h c (by simp)
    refine ⟨?_, ?_⟩
    · rw [List.map_cons, PyData.canLayAll0, a, PyData.canLay0]
      simp [PyData.strOk, hc]
    · rw [List.map_cons, PyData.depthAll, b, PyData.depth]; rfl
theorem strW_shaped {s : List Nat} (h : Cps s) : SeqAt.shaped (.list (s.map fun c => .str ⟨[c].toArray⟩)) = true := by
  obtain ⟨a, b⟩ := strW_lay h
  unfold SeqAt.shaped
  rw [PyData.canLay0, a, PyData.depth, b]; rfl
theorem gEq_strW {m n : Nat} {s t : List Nat} {st : Sto} (hm : st[m]? = some (.lst (strW s))) (hn : st[n]? = some (.lst (strW t))) (hs : Cps s) (ht : Cps t) : gEq (.ref m) (.ref n) st = some (.bl (decide (s = t)), st) := by
  simp only [gEq, eqVa, pyOf, hm, hn, strW_py, Option.map_some, Option.bind_some]
  rw [if_pos ⟨strW_shaped hs, strW_shaped ht⟩, PyData.eqv, strW_eqv]
  rfl
/-- the list is empty -/
theorem gEq_nil {m n : Nat} {ws : List Va} {ds : List PyData} {st : Sto} (hm : st[m]? = some (.lst ws)) (hn : st[n]? = some (.lst [])) (hd : toPyL ws = some ds) (hs : SeqAt.shaped (.list ds) = true) : gEq (.ref m) (.ref n) st = some (.bl ws.isEmpty, st) := by
  simp only [gEq, eqVa, pyOf, hm, hn, hd, toPyL, Option.map_some, Option.bind_some]
  have h0 : SeqAt.shaped (.list []) = true := rfl
  rw [if_pos ⟨hs, h0⟩, PyData.eqv]
  cases ws with
  | nil => cases hd; rfl
  | cons w ws =>
    simp only [toPyL, Option.bind_eq_some_iff, Option.map_eq_some_iff] at hd
    obtain ⟨d, _, ds', _, rfl⟩ := hd
    rfl
theorem ints_lay : ∀ (ns : List Int), toPyL (ns.map Va.int) = some (ns.map PyData.int) ∧ PyData.canLayAll0 (ns.map PyData.int) = true ∧ PyData.depthAll (ns.map PyData.int) = 0
  | [] => ⟨rfl, rfl, rfl⟩
  | n :: ns => by
    obtain ⟨a, b, c⟩ := ints_lay ns
    refine ⟨?_, ?_, ?_⟩
    · rw [List.map_cons, toPyL, a]; rfl
    · rw [List.map_cons, PyData.canLayAll0, b, PyData.canLay0]; rfl
    · rw [List.map_cons, PyData.depthAll, c, PyData.depth]; rfl
theorem ints_shaped (ns : List Int) : SeqAt.shaped (.list (ns.map PyData.int)) = true := by
  obtain ⟨_, a, b⟩ := ints_lay ns
  unfold SeqAt.shaped
  rw [PyData.canLay0, a, PyData.depth, b]; rfl
/-- the stream: the world of the draws -/
theorem stream_W {J : Int} (hJ : 0 ≤ J ∧ J < 1000) {st : Sto} {s : Nat} {ns : List Int} (hs : st[s]? = some (.rol (ns.map Va.int))) {most : Nat} (hm : most < 1000000) {Q : Va → Sto → Prop}
    (h : ∀ e : Dw, Q (.ref e.d) (W e 0 [] [])) : Wp (c_stream J [.ref s, .int most] st) Q := by
  obtain ⟨row, seed, es⟩ := c_stream_eq hJ hs hm
  have D : Dr (st ++ [.lst (row.map Va.int), drO st.length 0 seed]) (st.length + 1) st.length row seed := ⟨by omega, by simp, by simp⟩
  have h' := h ⟨_, _, _, _, _, D⟩
  have e0 : W ⟨_, _, _, _, _, D⟩ 0 [] [] = st ++ [.lst (row.map Va.int), drO st.length 0 seed] := by
    unfold W dSt
    simp only [List.append_nil]
    rw [List.set_append_right _ _ (by omega)]
    simp
  rw [e0] at h'
  exact ⟨_, _, es, h'⟩
/-- a law's whole -/
theorem law_of {f : Fn} {ws : List Va} {st : Sto} (h : Wp (f ws st) fun w _ => w = .bl true) : ∃ s', f ws st = some (.bl true, s') := by
  obtain ⟨w, s, e, rfl⟩ := h
  exact ⟨s, e⟩
theorem fin1 {st st' : Sto} {w : Va} : (fin st w st').1 = w := by unfold fin; split <;> rfl
theorem Wp.eq {α : Type} {x : Option (α × Sto)} {a : α} {b : Sto} (h : Wp x fun w s => w = a ∧ s = b) : x = some (a, b) := by
  obtain ⟨w, s, e, rfl, rfl⟩ := h
  exact e
theorem wp_lst_at {st : Sto} {n : Nat} {ws : List Va} {y : Va} {Q : Va → Sto → Prop} (hs : st[n]? = some (.lst ws)) (hz : ws.length < 16777216) (h : Q .non (st.set n (.lst (ws ++ [y])))) : Wp (gApp (.ref n) [y] st) Q := by
  refine ⟨_, _, ?_, h⟩
  simp only [gApp, hs]
  rw [if_pos hz]
theorem hty_l {st : Sto} {n : Nat} {ws : List Va} (hs : st[n]? = some (.lst ws)) : hasTy "list" (.ref n) st = true := by simp [hasTy, hs]
theorem gTuple_l {st : Sto} {n : Nat} {ws : List Va} (hs : st[n]? = some (.lst ws)) : gTuple [.ref n] st = some (.tup ws, st) := by simp [gTuple, itemsOf, hs]
theorem gLen_l {st : Sto} {n : Nat} {ws : List Va} (hs : st[n]? = some (.lst ws)) : gLen [.ref n] st = some (.int ws.length, st) := by simp [gLen, lenW, hs]

def InW (s : Sto) (k : Dw → Nat → Sto → Sto → Prop) : Prop := ∃ e a L M, s = W e a L M ∧ k e a L M
section
variable {e : Dw} {a : Nat} {L M : Sto} {Q : Va → Sto → Prop} {fm : Fm} {st : Sto}
theorem we_lstW {fa : Evs} (h : Wp (fa fm st) fun ws s => ws.length ≤ 16777216 ∧ InW s fun e a L M => Q (.ref (e.p L + M.length)) (W e a L (M ++ [.lst ws]))) : Wp (eLst fa fm st) Q :=
  we_lst (h.imp fun ws s ⟨h1, e, a, L, M, h2, h3⟩ => ⟨h1, by subst h2; rw [W_len, W_push]; exact h3⟩)
theorem wp_ixW {k : Nat} {x : Int} {ws : List Va} (hM : M[k]? = some (.lst ws)) (h0 : 0 ≤ x) (h1 : x < ws.length) (h : ∀ y, y ∈ ws → Q y (W e a L M)) : Wp (gIx (.ref (e.p L + k)) (.int x) (W e a L M)) Q := by
  obtain ⟨n, rfl⟩ : ∃ n : Nat, x = n := ⟨x.toNat, by omega⟩
  have hn : n < ws.length := by omega
  exact wp_ixl ((W_get k).trans hM) ((atI_n ws n).trans (List.getElem?_eq_getElem hn)) (h _ (List.getElem_mem hn))
theorem wp_ixC {x : Int} {s : List Nat} (hl : s.length ≤ 16777216) (h0 : 0 ≤ x) (h1 : x < s.length) (h : ∀ c, c ∈ s → Q (.str [c]) st) : Wp (gIx (.str s) (.int x) st) Q := by
  obtain ⟨n, rfl⟩ : ∃ n : Nat, x = n := ⟨x.toNat, by omega⟩
  have hn : n < s.length := by omega
  exact wp_ixs hl ((atI_n s n).trans (List.getElem?_eq_getElem hn)) (h _ (List.getElem_mem hn))
theorem rng_get {lo : Int} {n i : Nat} {w : Va} (h : (rngW lo n)[i]? = some w) : w = .int (lo + i) ∧ i < n := by
  simp only [rngW, List.getElem?_map, Option.map_eq_some_iff] at h
  obtain ⟨k, hk, rfl⟩ := h
  obtain ⟨h1, h2⟩ := List.getElem?_eq_some_iff.mp hk
  simp at h1 h2
  subst h2
  exact ⟨rfl, h1⟩
theorem rng_len {lo : Int} {n : Nat} : (rngW lo n).length = n := by simp [rngW]
theorem strW_get {s : List Nat} {i : Nat} {w : Va} (h : (strW s)[i]? = some w) : ∃ c, w = .str [c] ∧ s[i]? = some c := by
  simp only [strW, List.getElem?_map, Option.map_eq_some_iff] at h
  obtain ⟨c, hc, rfl⟩ := h
  exact ⟨c, rfl, hc⟩
theorem strW_len {s : List Nat} : (strW s).length = s.length := by simp [strW]
theorem atI_map {α β : Type} (f : α → β) (xs : List α) (i : Int) : atI (xs.map f) i = (atI xs i).map f := by
  unfold atI
  rw [List.length_map]
  cases ixN xs.length i <;> simp
theorem ys_map {α : Type} {P : α → Prop} {f : α → Va} : ∀ {ys : List Va}, (∀ (i : Nat) y, ys[i]? = some y → ∃ g, P g ∧ y = f g) → ∃ r : List α, ys = r.map f ∧ ∀ g ∈ r, P g
  | [], _ => ⟨[], rfl, fun _ h => nomatch h⟩
  | y :: ys, h => by
    obtain ⟨g, hg, rfl⟩ := h 0 y rfl
    obtain ⟨r, rfl, hr⟩ := ys_map (ys := ys) fun i y hy => h (i + 1) y hy
    exact ⟨g :: r, rfl, fun x hx => by
      rcases List.mem_cons.mp hx with rfl | hx
      · exact hg
      · exact hr x hx⟩
theorem wp_tupW {k : Nat} {ws : List Va} (hM : M[k]? = some (.lst ws)) (h : Q (.tup ws) (W e a L M)) : Wp (gTuple [.ref (e.p L + k)] (W e a L M)) Q :=
  wp_of (gTuple_l ((W_get k).trans hM)) h
theorem wp_tupZ {ws : List Va} (h : Q (.tup ws) (W e a L (M ++ [.lst ws]))) : Wp (gTuple [.ref (e.p L + M.length)] (W e a L (M ++ [.lst ws]))) Q :=
  wp_tupW (by simp) h
theorem wp_appW {k : Nat} {ws : List Va} {y : Va} (hM : M[k]? = some (.lst ws)) (hz : ws.length < 16777216) (h : Q .non (W e a L (M.set k (.lst (ws ++ [y]))))) : Wp (gApp (.ref (e.p L + k)) [y] (W e a L M)) Q :=
  wp_lst_at ((W_get k).trans hM) hz (by rw [W_set]; exact h)
theorem hty_W {k : Nat} {ws : List Va} (hM : M[k]? = some (.lst ws)) : hasTy "list" (.ref (e.p L + k)) (W e a L M) = true := hty_l ((W_get k).trans hM)
theorem wp_lenW {k : Nat} {ws : List Va} (hM : M[k]? = some (.lst ws)) (h : Q (.int ws.length) (W e a L M)) : Wp (gLen [.ref (e.p L + k)] (W e a L M)) Q :=
  wp_of (gLen_l ((W_get k).trans hM)) h
theorem wp_ixLW {k : Nat} {ws : List Va} {i : Int} {w : Va} (hM : M[k]? = some (.lst ws)) (hk : atI ws i = some w) (h : Q w (W e a L M)) : Wp (gIx (.ref (e.p L + k)) (.int i) (W e a L M)) Q :=
  wp_ixl ((W_get k).trans hM) hk h
theorem wp_ixZ {x m : Int} {ws : List Va} (hn : (ws.length : Int) = m) (h0 : 0 ≤ x) (h1 : x < m) (h : ∀ y, y ∈ ws → Q y (W e a L (M ++ [.lst ws]))) : Wp (gIx (.ref (e.p L + M.length)) (.int x) (W e a L (M ++ [.lst ws]))) Q :=
  wp_ixW (by simp) h0 (by omega) h
theorem cutL_mem {α : Type} {xs : List α} {lo hi : Option Int} {x : α} (h : x ∈ cutL xs lo hi) : x ∈ xs := List.mem_of_mem_drop (List.mem_of_mem_take h)
theorem cutL_len {α : Type} (xs : List α) (lo hi : Option Int) : (cutL xs lo hi).length ≤ xs.length := by
  unfold cutL; rw [List.length_take, List.length_drop]; omega
theorem wp_cutS {s : List Nat} {lo hi : Option Int} (hl : s.length ≤ 16777216) (h : Q (.str (cutL s lo hi)) st) : Wp (gCut (.str s) lo hi st) Q := wp_of (if_pos hl) h
theorem wp_cutT {s : List Va} {lo hi : Option Int} (h : Q (.tup (cutL s lo hi)) st) : Wp (gCut (.tup s) lo hi st) Q := wp_of rfl h
end
theorem atI_0 {α : Type} {x : α} {xs : List α} : atI (x :: xs) 0 = some x := atI_n (x :: xs) 0
/-- a thing that the steps leave alone -/
def Hd (p : Prop) : Prop := p
theorem hd {p : Prop} (h : p) : Hd p := h
end T3
/-! T3, fourteenth part: comprehensions whose items leave things behind; older lists; subscripts in tuples -/
namespace T3
open PySem PySem.Spec PyProof.Rows L2
section
variable {e : Dw} {a : Nat} {L M : Sto} {Q : Va → Sto → Prop} {fm : Fm} {st : Sto}
theorem pfx1 {X : Sto} {o : Ob} : X <+: X ++ [o] := List.prefix_append _ _
theorem pfx2 {X Y : Sto} {o : Ob} (h : X <+: Y) : X <+: Y ++ [o] := List.IsPrefix.trans h (List.prefix_append _ _)
theorem pfx_get {X Y : Sto} (h : X <+: Y) {k : Nat} {o : Ob} (e : X[k]? = some o) : Y[k]? = some o := by
  obtain ⟨t, rfl⟩ := h
  rw [List.getElem?_append_left (List.getElem?_eq_some_iff.mp e).1]; exact e
/-- a drawn comprehension, without a test, whose items may leave things behind -/
theorem wp_lcG {fi : Fi} {fg : Fg} {fe : Ev} {vs : List Nat} {ws : List Va} (P : Nat → Va → Prop) {gd : Sto → Prop} (hi : fi fm (W e a L M) = some (⟨ws, gd⟩, W e a L M)) (hgd : ∀ b Y, M <+: Y → gd (W e b L Y)) (hz : ws.length < 16777216)
    (h : ∀ i w, ws[i]? = some w → ∃ fm1, fg w (wip fm vs) = some fm1 ∧ ∀ a X, M <+: X → Wp (fe fm1 (W e a L X)) fun y s => Hd (∃ b Y, s = W e b L Y ∧ X <+: Y ∧ P i y))
    (hq : ∀ b ys G, ys.length = ws.length → (∀ (i : Nat) y, ys[i]? = some y → P i y) → Q (.ref (e.p L + M.length)) (W e b L (M ++ .lst ys :: G))) : Wp (eLc fi fg bYes fe vs fm (W e a L M)) Q := by
  refine wp_lc ⟨_, _, hi, fun i s => ∃ b ys G, s = W e b L (M ++ .lst ys :: G) ∧ ys.length = i ∧ ∀ (i : Nat) y, ys[i]? = some y → P i y, (by rintro i s ⟨b, ys, G, rfl, _⟩; exact hgd _ _ (List.prefix_append _ _)), ⟨a, [], [], by rw [W_push], rfl, fun i y h => by cases i <;> cases h⟩, ?_, ?_⟩
  · intro i w hw
    obtain ⟨fm1, e1, h1⟩ := h i w hw
    have hil : i < ws.length := (List.getElem?_eq_some_iff.mp hw).1
    refine ⟨fm1, e1, ?_⟩
    rintro s1 ⟨b, ys, G, rfl, hl, hy⟩
    refine wb_yes (If.t ((h1 b _ (List.prefix_append _ _)).imp ?_))
    rintro y s3 ⟨c, Y, rfl, ⟨t, rfl⟩, hp⟩
    refine ⟨ys, ?_, by omega, c, ys ++ [y], G ++ t, ?_, by simp [hl], ?_⟩
    · rw [W_len, W_get]; simp
    · rw [W_len, W_set]; simp
    · intro j z hj
      by_cases hj' : j < ys.length
      · rw [List.getElem?_append_left hj'] at hj; exact hy j z hj
      · rw [List.getElem?_append_right (by omega)] at hj
        by_cases h0 : j - ys.length = 0
        · rw [h0] at hj
          simp at hj
          subst hj
          have : j = i := by omega
          subst this
          exact hp
        · rw [List.getElem?_singleton, if_neg h0] at hj
          cases hj
  · rintro s' ⟨b, ys, G, rfl, hl, hy⟩
    rw [W_len]
    exact hq b ys G hl hy
/-- the same, with a drawn test -/
theorem wp_lcT {fi : Fi} {fg : Fg} {ft : Et} {fe : Ev} {vs : List Nat} {ws : List Va} (P : Va → Prop) {gd : Sto → Prop} (hi : fi fm (W e a L M) = some (⟨ws, gd⟩, W e a L M)) (hgd : ∀ b Y, M <+: Y → gd (W e b L Y)) (hz : ws.length < 16777216)
    (h : ∀ (i : Nat) w, ws[i]? = some w → ∃ fm1, fg w (wip fm vs) = some fm1 ∧ ∀ a X, M <+: X → Wp (ft fm1 (W e a L X)) fun t s => Hd (∃ b Y, s = W e b L Y ∧ X <+: Y ∧ If t (Wp (fe fm1 s) fun y s => Hd (∃ b Y, s = W e b L Y ∧ X <+: Y ∧ P y)) True))
    (hq : ∀ b ys G, ys.length ≤ ws.length → (∀ y ∈ ys, P y) → Q (.ref (e.p L + M.length)) (W e b L (M ++ .lst ys :: G))) : Wp (eLc fi fg ft fe vs fm (W e a L M)) Q := by
  refine wp_lc ⟨_, _, hi, fun i s => ∃ b ys G, s = W e b L (M ++ .lst ys :: G) ∧ ys.length ≤ i ∧ ∀ y ∈ ys, P y, (by rintro i s ⟨b, ys, G, rfl, _⟩; exact hgd _ _ (List.prefix_append _ _)), ⟨a, [], [], by rw [W_push], Nat.le_refl _, fun y h => nomatch h⟩, ?_, ?_⟩
  · intro i w hw
    obtain ⟨fm1, e1, h1⟩ := h i w hw
    have hil : i < ws.length := (List.getElem?_eq_some_iff.mp hw).1
    refine ⟨fm1, e1, ?_⟩
    rintro s1 ⟨b, ys, G, rfl, hl, hy⟩
    refine (h1 b _ (List.prefix_append _ _)).imp ?_
    rintro t s2 ⟨c, Y, rfl, ⟨u, rfl⟩, hp⟩
    refine ⟨fun ht => (hp.1 ht).imp ?_, fun ht => ⟨c, ys, G ++ u, by simp, by omega, hy⟩⟩
    rintro y s3 ⟨c, Y, rfl, ⟨t, rfl⟩, hp⟩
    refine ⟨ys, ?_, by omega, c, ys ++ [y], G ++ t, ?_, by simp; omega, ?_⟩
    · rw [W_len, W_get]; simp
    · rw [W_len, W_set]; simp
    · intro z hz
      rcases List.mem_append.mp hz with hz | hz
      · exact hy z hz
      · simp at hz; subst hz; exact hp
  · rintro s' ⟨b, ys, G, rfl, hl, hy⟩
    rw [W_len]
    exact hq b ys G hl hy
/-- an older list -/
theorem W_old {k : Nat} {o : Ob} (h : L[k]? = some o) : (W e a L M)[e.p [] + k]? = some o := by
  unfold W Dw.p
  rw [List.getElem?_append_right (by rw [dSt_len, List.length_nil]; omega), dSt_len, List.getElem?_append_left (by have := (List.getElem?_eq_some_iff.mp h).1; simp; omega)]
  rw [List.length_nil, Nat.add_zero, Nat.add_sub_cancel_left]
  exact h
theorem p_old {k : Nat} : e.p L + k = e.p [] + (L.length + k) := by unfold Dw.p; simp; omega
theorem W_old2 {k : Nat} {o : Ob} {b : Nat} {M' : Sto} (h : M[k]? = some o) : (W e b (L ++ M) M')[e.p L + k]? = some o := by
  rw [p_old]
  exact W_old (by rw [List.getElem?_append_right (by omega), Nat.add_sub_cancel_left]; exact h)
theorem wp_tupG {ws : List Va} {G : Sto} (h : Q (.tup ws) (W e a L (M ++ .lst ws :: G))) : Wp (gTuple [.ref (e.p L + M.length)] (W e a L (M ++ .lst ws :: G))) Q :=
  wp_tupW (by simp) h
/-- a tuple's item -/
theorem wp_ixT {x m : Int} {ws : List Va} (hn : (ws.length : Int) = m) (h0 : 0 ≤ x) (h1 : x < m) (h : ∀ (i : Nat) y, x = i → ws[i]? = some y → Q y st) : Wp (gIx (.tup ws) (.int x) st) Q := by
  obtain ⟨n, rfl⟩ : ∃ n : Nat, x = n := ⟨x.toNat, by omega⟩
  have hn : n < ws.length := by omega
  exact wp_ixt ((atI_n ws n).trans (List.getElem?_eq_getElem hn)) (h n _ rfl (List.getElem?_eq_getElem hn))
end
/-- two branches that meet -/
theorem If.cut {b : Bool} {x y : Option (Fl × Fm × Sto)} {N : Fm → Sto → Prop} {R : Va → Sto → Prop} {B C : Fm → Sto → Prop} (P : Fm → Sto → Prop) (h : If b (Ws x P R B C) (Ws y P R B C)) (k : ∀ fm s, P fm s → N fm s) : If b (Ws x N R B C) (Ws y N R B C) :=
  ⟨fun e => (h.1 e).imp k (fun _ _ h => h) (fun _ _ h => h) (fun _ _ h => h), fun e => (h.2 e).imp k (fun _ _ h => h) (fun _ _ h => h) (fun _ _ h => h)⟩
theorem strsOf_W : ∀ s : List Nat, strsOf (strW s) = some (s.map fun c => [c])
  | [] => rfl
  | c :: s => by
    have := strsOf_W s
    unfold strW at this ⊢
    rw [List.map_cons, strsOf, this]; rfl
theorem joinN_one : ∀ s : List Nat, joinN [] (s.map fun c => [c]) = s
  | [] => rfl
  | [c] => rfl
  | c :: d :: s => by
    have ih := joinN_one (d :: s)
    simp only [List.map_cons] at ih ⊢
    rw [joinN, ih]; rfl
theorem sum_ones : ∀ l : List Nat, ((l.map fun c => [c]).map fun x : List Nat => x.length).sum = l.length
  | [] => rfl
  | a :: l => by rw [List.map_cons, List.map_cons, List.sum_cons, sum_ones l]; simp; omega
theorem gJoin_W {n : Nat} {s : List Nat} {st : Sto} (h : st[n]? = some (.lst (strW s))) (hl : s.length ≤ 1000000) : gJoin (.str []) [.ref n] st = some (.str s, st) := by
  simp only [gJoin, itemsOf, h, Option.bind_some, strsOf_W]
  rw [if_pos (by rw [sum_ones, List.length_nil]; omega), joinN_one]
theorem iR1_len {fm : Fm} {i : Nat} {s : List Nat} {st : Sto} (h : fm[i]? = some (some (.str s))) (hl : s.length ≤ 1000) : iR1 (eA gLen (aC (eV i) aN)) fm st = some (⟨rngW 0 s.length, fun _ => True⟩, st) := by
  refine iR1_nat (Wp.eq ?_) (by omega)
  refine we_a (wa_c (we_v h (wa_n (wp_lens (by omega) ⟨rfl, rfl⟩))))
theorem at_set {M : Sto} {k : Nat} {o o' : Ob} (h : M[k]? = some o) : (M.set k o')[k]? = some o' := List.getElem?_set_self (List.getElem?_eq_some_iff.mp h).1
theorem at_set2 {M : Sto} {k j : Nat} {o o' : Ob} (h : M[k]? = some o) (hj : j ≠ k) : (M.set j o')[k]? = some o := by rw [List.getElem?_set_ne hj]; exact h
theorem at_push {M X : Sto} {k : Nat} {o : Ob} (h : M[k]? = some o) : (M ++ X)[k]? = some o := pfx_get (List.prefix_append _ _) h
theorem at_lt {M : Sto} {k : Nat} {o : Ob} (h : M[k]? = some o) : k < M.length := (List.getElem?_eq_some_iff.mp h).1
theorem at_last {M : Sto} {o : Ob} : (M ++ [o])[M.length]? = some o := by simp
theorem at_last2 {M G : Sto} {o : Ob} : (M ++ o :: G)[M.length]? = some o := by simp
theorem ys_all {P : Va → Prop} {ys : List Va} (h : ∀ (i : Nat) y, ys[i]? = some y → P y) : ∀ y ∈ ys, P y := fun y hy => by
  obtain ⟨i, hi⟩ := List.getElem?_of_mem hy
  exact h i y hi
theorem all_snoc {α : Type} {P : α → Prop} {ys : List α} {y : α} (h : ∀ y ∈ ys, P y) (hy : P y) : ∀ z ∈ ys ++ [y], P z := fun z hz => by
  rcases List.mem_append.mp hz with hz | hz
  · exact h z hz
  · simp at hz; subst hz; exact hy
/-- a for that goes on as long as a test holds, and returns at the first thing at which it does not -/
theorem wl_all {gd : Sto → Prop} {fg : Fg} {body : Sm} (P : Va → Bool) (Inv : Fm → Sto → Prop) {N : Fm → Sto → Prop} {R : Va → Sto → Prop} (Rf : Va → Sto → Prop) (hg : ∀ fm st, Inv fm st → gd st) : ∀ {ws : List Va} {fm : Fm} {st : Sto}, Inv fm st →
    (∀ w ∈ ws, ∀ fm st, Inv fm st → ∃ fm1, fg w fm = some fm1 ∧ Ws (body fm1 st) (fun f s => Hd (P w = true ∧ Inv f s)) (fun v s => Hd (P w = false ∧ Rf v s)) (fun _ _ => False) (fun f s => Hd (P w = true ∧ Inv f s))) →
    (ws.all P = true → ∀ fm st, Inv fm st → N fm st) → (ws.all P = false → ∀ v s, Rf v s → R v s) → Wl gd fg body ws fm st N R
  | [], fm, st, h0, _, hN, _ => wl_nil (hg _ _ h0) (hN rfl _ _ h0)
  | w :: ws, fm, st, h0, ht, hN, hR => by
    obtain ⟨fm1, e1, h1⟩ := ht w (by simp) fm st h0
    have go : P w = true → ∀ f s, Inv f s → Wl gd fg body ws f s N R := fun hp f s hi => wl_all P Inv Rf hg hi (fun w hw => ht w (List.mem_cons_of_mem _ hw))
      (fun h => hN (by rw [List.all_cons, hp, h]; rfl)) (fun h => hR (by rw [List.all_cons, hp, h]; rfl))
    exact wl_cons (hg _ _ h0) e1 (h1.imp (fun f s h => go h.1 f s h.2) (fun v s h => hR (by rw [List.all_cons, h.1]; rfl) v s h.2) (fun _ _ h => h.elim) (fun f s h => go h.1 f s h.2))
theorem gIsi_b {b : Bool} {st : Sto} : gIsi [.bl b, .ty "bool"] st = some (.bl true, st) := by simp only [gIsi, tyN, Option.bind_some]; rw [show kitB "bool" "bool" = some true by decide +kernel]; rfl
theorem gIsi_s {b : List Nat} {st : Sto} : gIsi [.str b, .ty "str"] st = some (.bl true, st) := by simp only [gIsi, tyN, Option.bind_some]; rw [show kitB "str" "str" = some true by decide +kernel]; rfl
theorem gIsi_is {b : Int} {st : Sto} : gIsi [.int b, .ty "str"] st = some (.bl false, st) := by simp only [gIsi, tyN, Option.bind_some]; rw [show kitB "int" "str" = some false by decide +kernel]; rfl
theorem gEq_si {s : List Nat} {i : Int} {st : Sto} : gEq (.str s) (.int i) st = some (.bl false, st) := rfl
theorem gEq_is {s : List Nat} {i : Int} {st : Sto} : gEq (.int i) (.str s) st = some (.bl false, st) := rfl
/-- plain data: what is compared -/
def Pd (n : Nat) (w : Va) (d : PyData) : Prop := toPy w = some d ∧ d.canLay0 = true ∧ d.depth ≤ n
theorem Pd.up {n m : Nat} {w : Va} {d : PyData} (h : Pd n w d) (hm : n ≤ m) : Pd m w d := ⟨h.1, h.2.1, Nat.le_trans h.2.2 hm⟩
theorem pd_i {i : Int} : Pd 0 (.int i) (.int i) := ⟨rfl, rfl, Nat.le_refl _⟩
theorem pd_b {i : Bool} : Pd 0 (.bl i) (.bool i) := ⟨rfl, rfl, Nat.le_refl _⟩
theorem pd_n : Pd 0 .non .none := ⟨rfl, rfl, Nat.le_refl _⟩
theorem pd_s {s : List Nat} (h : Cps s) : Pd 0 (.str s) (.str ⟨s.toArray⟩) := ⟨rfl, by
  show PyData.strOk _ = true
  simp only [PyData.strOk, List.size_toArray, decide_eq_true_eq, List.all_eq_true]
  simpa [Cps] using h, Nat.le_refl _⟩
theorem pd_all {n : Nat} : ∀ {ws : List Va}, (∀ w ∈ ws, ∃ d, Pd n w d) → ∃ ds, toPyL ws = some ds ∧ PyData.canLayAll0 ds = true ∧ PyData.depthAll ds ≤ n
  | [], _ => ⟨[], rfl, rfl, Nat.zero_le _⟩
  | w :: ws, h => by
    obtain ⟨d, h1, h2, h3⟩ := h w (by simp)
    obtain ⟨ds, e1, e2, e3⟩ := pd_all (ws := ws) fun x hx => h x (List.mem_cons_of_mem _ hx)
    refine ⟨d :: ds, by rw [toPyL, h1, e1]; rfl, by rw [PyData.canLayAll0, h2, e2]; rfl, ?_⟩
    rw [PyData.depthAll]; omega
theorem pd_t {n : Nat} {ws : List Va} (h : ∀ w ∈ ws, ∃ d, Pd n w d) : ∃ ds, Pd (n + 1) (.tup ws) (.tuple ds) ∧ toPyL ws = some ds := by
  obtain ⟨ds, e1, e2, e3⟩ := pd_all h
  exact ⟨ds, ⟨by rw [toPy, e1]; rfl, by rw [PyData.canLay0]; exact e2, by rw [PyData.depth]; omega⟩, e1⟩
theorem Pd.shaped {n : Nat} {w : Va} {d : PyData} (h : Pd n w d) (hn : n ≤ 64) : SeqAt.shaped d = true := by
  unfold SeqAt.shaped
  rw [h.2.1, Bool.true_and, decide_eq_true_eq]
  exact Nat.le_trans h.2.2 hn
theorem gEq_t {n : Nat} {xs ys : List Va} {d e : PyData} {st : Sto} (h1 : Pd n (.tup xs) d) (h2 : Pd n (.tup ys) e) (hn : n ≤ 64) : gEq (.tup xs) (.tup ys) st = some (.bl (PyData.eqv d e), st) := by
  simp only [gEq, eqVa, pyOf, h1.1, h2.1, Option.bind_some]
  rw [if_pos ⟨h1.shaped hn, h2.shaped hn⟩]; rfl
theorem gNe_t {n : Nat} {xs ys : List Va} {d e : PyData} {st : Sto} (h1 : Pd n (.tup xs) d) (h2 : Pd n (.tup ys) e) (hn : n ≤ 64) : gNe (.tup xs) (.tup ys) st = some (.bl (!PyData.eqv d e), st) := by
  simp only [gNe, eqVa, pyOf, h1.1, h2.1, Option.bind_some]
  rw [if_pos ⟨h1.shaped hn, h2.shaped hn⟩]; rfl
def isI : Va → Bool
  | .int _ => true
  | _ => false
theorem kitB_sb : kitB "str" "str" = some true := by decide +kernel
theorem kitB_is : kitB "int" "str" = some false := by decide +kernel
theorem kitB_bb : kitB "bool" "bool" = some true := by decide +kernel
end T3
/-! T3, fifteenth part: pure comprehensions over lists of the store; lists put together -/
namespace T3
open PySem PySem.Spec PyProof.Rows L2
section
variable {e : Dw} {a : Nat} {L M : Sto} {Q : Va → Sto → Prop} {fm : Fm} {st : Sto}
theorem wp_lcQ {fi : Fi} {fg : Fg} {ft : Et} {fe : Ev} {vs : List Nat} {ws : List Va} {gd : Sto → Prop} (t : Va → Bool) (f : Va → Va) (hi : fi fm (W e a L M) = some (⟨ws, gd⟩, W e a L M)) (hgd : ∀ X, gd (W e a L (M ++ X))) (hz : ws.length < 16777216)
    (h : ∀ w ∈ ws, ∃ fm1, fg w (wip fm vs) = some fm1 ∧ ∀ M', (∃ M'', M' = M ++ M'') → Wp (ft fm1 (W e a L M')) fun b s => b = t w ∧ s = W e a L M' ∧ (t w = true → Wp (fe fm1 (W e a L M')) fun y s => s = W e a L M' ∧ y = f w))
    (hq : Q (.ref (e.p L + M.length)) (W e a L (M ++ [.lst ((ws.filter t).map f)]))) : Wp (eLc fi fg ft fe vs fm (W e a L M)) Q := by
  refine wp_lc ⟨_, _, hi, fun i s => s = W e a L (M ++ [.lst (((ws.take i).filter t).map f)]), (by rintro i s rfl; exact hgd _), by rw [W_push]; simp, ?_, ?_⟩
  · intro i w hw
    obtain ⟨fm1, e1, h1⟩ := h w (List.mem_of_getElem? hw)
    have hil : i < ws.length := (List.getElem?_eq_some_iff.mp hw).1
    have ht : ws.take (i + 1) = ws.take i ++ [w] := by rw [List.take_succ, hw]; rfl
    refine ⟨fm1, e1, ?_⟩
    rintro s1 rfl
    refine (h1 _ ⟨_, rfl⟩).imp ?_
    rintro b s2 ⟨rfl, rfl, h2⟩
    refine ⟨fun hb => (h2 hb).imp ?_, fun hb => ?_⟩
    · rintro y s3 ⟨rfl, rfl⟩
      refine ⟨((ws.take i).filter t).map f, by rw [W_len, W_get]; simp, ?_, ?_⟩
      · rw [List.length_map]
        have := List.length_filter_le t (ws.take i)
        rw [List.length_take] at this
        omega
      · dsimp only
        rw [W_len, W_set, ht]
        simp [hb]
    · dsimp only
      rw [ht]; simp [hb]
  · rintro s' rfl
    rw [W_len, List.take_length]
    exact hq
theorem wp_listT {ws : List Va} (h : Q (.ref (e.p L + M.length)) (W e a L (M ++ [.lst ws]))) : Wp (gList [.tup ws] (W e a L M)) Q := by
  refine ⟨_, _, rfl, ?_⟩
  rw [W_len, W_push]; exact h
theorem wp_addL {j k : Nat} {xs ys : List Va} (h1 : M[k]? = some (.lst xs)) (h2 : M[j]? = some (.lst ys)) (hz : xs.length + ys.length ≤ 16777216) (h : Q (.ref (e.p L + M.length)) (W e a L (M ++ [.lst (xs ++ ys)]))) :
    Wp (gAdd (.ref (e.p L + k)) (.ref (e.p L + j)) (W e a L M)) Q := by
  refine ⟨_, _, ?_, h⟩
  simp only [gAdd, W_get, h1, h2]
  rw [if_pos hz, W_len, W_push]
theorem inW_mk {k : Dw → Nat → Sto → Sto → Prop} (h : k e a L M) : InW (W e a L M) k := ⟨_, _, _, _, rfl, h⟩
end
theorem ex_bl {b : Bool} {P : Bool → Prop} (h : P b) : ∃ c, Va.bl b = .bl c ∧ P c := ⟨b, rfl, h⟩
theorem ex_int {b : Int} {P : Int → Prop} (h : P b) : ∃ c, Va.int b = .int c ∧ P c := ⟨b, rfl, h⟩
theorem ex_int2 {b d : Int} {P : Int → Int → Prop} (h : P b d) : ∃ c f : Int, Va.int b = .int c ∧ Va.int d = .int f ∧ P c f := ⟨b, d, rfl, rfl, h⟩
theorem ex_some {α : Type} {x : Option α} {y : α} {P : α → Prop} (e : x = some y) (h : P y) : ∃ z, x = some z ∧ P z := ⟨y, e, h⟩
theorem and_len {α : Type} {ws : List α} {n : Nat} {p : Prop} (h : ws.length = n) (q : p) : ws.length = n ∧ p := ⟨h, q⟩
theorem and_hty {T : String} {w : Va} {st : Sto} {p : Prop} (h : hasTy T w st = true) (q : p) : hasTy T w st = true ∧ p := ⟨h, q⟩
theorem and_le {α : Type} {ws : List α} {n : Nat} {p : Prop} (h : ws.length ≤ n) (q : p) : ws.length ≤ n ∧ p := ⟨h, q⟩
theorem and_bd {b : Prop} {n : Int} {p : Prop} (h : (-1000000000 : Int) ≤ n ∧ b) (q : p) : ((-1000000000 : Int) ≤ n ∧ b) ∧ p := ⟨h, q⟩
theorem If_tr {b : Bool} {A B : Prop} (h : b = true) (q : A) : If b A B := by subst h; exact If.t q
theorem If_fa {b : Bool} {A B : Prop} (h : b = false) (q : B) : If b A B := by subst h; exact If.f q
end T3
/-! TS: set machines: letters, machines, runs -/
namespace T3
open PySem PySem.Spec PyProof.Rows L2
noncomputable def c_letters : Fn := fn 4 2 (sCons (sSet 2 (eC (.str [])))
  (sCons (sFor (iA (eB gIx (eLst (aC (eC (.str [97, 98, 99, 100, 101, 102])) (aC (eC (.str [98, 100, 107, 113, 120, 122])) (aC (eC (.str [109, 110, 111, 112, 114, 115])) (aC (eC (.str [97, 117, 118, 119, 121, 122])) aN))))) (eCall 2 c_pick (aC (eV 0) (aC (eC (.int 4)) aN))))) (gN 3) (sCons (sIf (bAnd (bB gLt (eA gLen (aC (eV 2) aN)) (eV 1)) (bB gEq (eCall 2 c_pick (aC (eV 0) (aC (eC (.int 2)) aN))) (eC (.int 0)))) (sCons (sSet 2 (eB gAdd (eV 2) (eV 3)))
  sNil) sNil)
  sNil))
  (sCons (sIf (bB gEq (eV 2) (eC (.str []))) (sCons (sRet (eC (.str [98])))
  sNil) sNil)
  (sCons (sRet (eV 2))
  sNil))))
def Low (s : List Nat) : Prop := ∀ c ∈ s, c < 128
/-- drawn letters: few, small, in order -/
def Lets (n : Nat) (ls : List Nat) : Prop := 1 ≤ ls.length ∧ ls.length ≤ n ∧ Low ls ∧ (∀ c ∈ ls, 97 ≤ c ∧ c ≤ 122) ∧ ls.Pairwise (· < ·)
theorem letters_D (e : Dw) (a : Nat) (L : Sto) {n : Nat} (hn : 1 ≤ n ∧ n ≤ 6) : Wp (c_letters [.ref e.d, .int n] (W e a L [])) fun w s => Hd (∃ ls b, w = .str ls ∧ s = W e b L [] ∧ Lets n ls) := by
  unfold c_letters
  refine wp_fn rfl ?_
  (repeat (first | with_reducible refine we_c ?_ | ((with_reducible refine we_v (w := ?_) ?_ ?_); rotate_left; · rfl) | with_reducible refine we_b ?_ | with_reducible refine we_a ?_ | with_reducible refine wa_c ?_ | with_reducible refine wa_n ?_ | with_reducible refine we_mt ?_ | with_reducible refine we_call ?_ | with_reducible refine we_tup ?_ | with_reducible refine we_lstW ?_ | with_reducible refine we_u ?_ | with_reducible refine we_not ?_ | with_reducible refine we_if ?_ | with_reducible refine we_and ?_ | with_reducible refine we_or ?_ | with_reducible refine we_cut ?_ | with_reducible refine wo_n ?_ | with_reducible refine wo_s ?_ | with_reducible refine wb_b ?_ | with_reducible refine wb_v ?_ | with_reducible refine wb_o ?_ | with_reducible refine wb_and ?_ | with_reducible refine wb_or ?_ | with_reducible refine wb_not ?_ | with_reducible refine wb_yes ?_ | with_reducible refine we_ch ?_ | with_reducible refine wx_n ?_ | with_reducible refine wx_c ?_ | with_reducible refine ss_n ?_ | with_reducible refine ss_c ?_ | with_reducible refine ss_set ?_ | with_reducible refine ss_ex ?_ | with_reducible refine ss_ret ?_ | with_reducible refine ss_retN ?_ | with_reducible refine ss_bk ?_ | with_reducible refine ss_ct ?_ | with_reducible refine ss_if ?_ | with_reducible refine ss_asg ?_ | with_reducible refine ss_put ?_ | with_reducible refine ss_for ?_ | with_reducible refine wi_a ?_ | with_reducible refine wi_r1 ?_ | with_reducible refine wi_r2 ?_ | with_reducible refine wp_ai ?_ | with_reducible refine wp_si ?_ | ((with_reducible refine wp_ml ?_ ?_); · decide) | ((with_reducible refine wp_mr ?_ ?_); · decide) | ((with_reducible refine wp_md ?_ ?_); · decide) | with_reducible refine wp_ng ?_ | with_reducible refine wp_eqi ?_ | with_reducible refine wp_eqs ?_ | with_reducible refine wp_eqb ?_ | with_reducible refine wp_nei ?_ | with_reducible refine wp_nes ?_ | with_reducible refine wp_neb ?_ | with_reducible refine wp_lt ?_ | with_reducible refine wp_le ?_ | with_reducible refine wp_gt ?_ | with_reducible refine wp_ge ?_ | with_reducible refine wp_isn ?_ | with_reducible refine wp_isnn ?_ | with_reducible refine wp_isb ?_ | with_reducible refine wp_isnb ?_ | with_reducible refine wp_int ?_ | with_reducible refine wp_min ?_ | with_reducible refine wp_max ?_ | with_reducible refine wp_lent ?_ | ((with_reducible refine wp_ixt (w := ?_) ?_ ?_); rotate_left; · rfl) | with_reducible refine wp_cutT ?_ | with_reducible refine wp_tupZ ?_ | with_reducible refine If.n ?_ | ((with_reducible refine If_tr ?_ ?_); · rfl) | ((with_reducible refine If_fa ?_ ?_); · rfl) | with_reducible refine ex_bl ?_ | with_reducible refine ex_int ?_ | with_reducible refine ex_int2 ?_ | with_reducible refine inW_mk ?_ | ((with_reducible refine ex_some (y := ?_) ?_ ?_); rotate_left; · rfl) | ((with_reducible refine and_len ?_ ?_); · rfl) | ((with_reducible refine and_hty ?_ ?_); · rfl) | ((with_reducible refine and_le ?_ ?_); · exact Nat.le_of_ble_eq_true rfl) | ((with_reducible refine and_bd ?_ ?_); · first | decide | omega)))
  refine wp_pick (by first | decide | omega) fun x b h0 h1 => ?_
  refine wp_ixZ rfl h0 h1 fun y hy => ?_
  obtain ⟨s, rfl, hs, hp, hsl⟩ : ∃ s, y = .str s ∧ (∀ c ∈ s, 97 ≤ c ∧ c ≤ 122) ∧ s.Pairwise (· < ·) ∧ s.length = 6 := by
    simp only [List.mem_cons, List.not_mem_nil, or_false] at hy
    rcases hy with rfl | rfl | rfl | rfl <;> exact ⟨_, rfl, by decide, by decide, rfl⟩
  (repeat (first | with_reducible refine we_c ?_ | ((with_reducible refine we_v (w := ?_) ?_ ?_); rotate_left; · rfl) | with_reducible refine we_b ?_ | with_reducible refine we_a ?_ | with_reducible refine wa_c ?_ | with_reducible refine wa_n ?_ | with_reducible refine we_mt ?_ | with_reducible refine we_call ?_ | with_reducible refine we_tup ?_ | with_reducible refine we_lstW ?_ | with_reducible refine we_u ?_ | with_reducible refine we_not ?_ | with_reducible refine we_if ?_ | with_reducible refine we_and ?_ | with_reducible refine we_or ?_ | with_reducible refine we_cut ?_ | with_reducible refine wo_n ?_ | with_reducible refine wo_s ?_ | with_reducible refine wb_b ?_ | with_reducible refine wb_v ?_ | with_reducible refine wb_o ?_ | with_reducible refine wb_and ?_ | with_reducible refine wb_or ?_ | with_reducible refine wb_not ?_ | with_reducible refine wb_yes ?_ | with_reducible refine we_ch ?_ | with_reducible refine wx_n ?_ | with_reducible refine wx_c ?_ | with_reducible refine ss_n ?_ | with_reducible refine ss_c ?_ | with_reducible refine ss_set ?_ | with_reducible refine ss_ex ?_ | with_reducible refine ss_ret ?_ | with_reducible refine ss_retN ?_ | with_reducible refine ss_bk ?_ | with_reducible refine ss_ct ?_ | with_reducible refine ss_if ?_ | with_reducible refine ss_asg ?_ | with_reducible refine ss_put ?_ | with_reducible refine ss_for ?_ | with_reducible refine wi_a ?_ | with_reducible refine wi_r1 ?_ | with_reducible refine wi_r2 ?_ | with_reducible refine wp_ai ?_ | with_reducible refine wp_si ?_ | ((with_reducible refine wp_ml ?_ ?_); · decide) | ((with_reducible refine wp_mr ?_ ?_); · decide) | ((with_reducible refine wp_md ?_ ?_); · decide) | with_reducible refine wp_ng ?_ | with_reducible refine wp_eqi ?_ | with_reducible refine wp_eqs ?_ | with_reducible refine wp_eqb ?_ | with_reducible refine wp_nei ?_ | with_reducible refine wp_nes ?_ | with_reducible refine wp_neb ?_ | with_reducible refine wp_lt ?_ | with_reducible refine wp_le ?_ | with_reducible refine wp_gt ?_ | with_reducible refine wp_ge ?_ | with_reducible refine wp_isn ?_ | with_reducible refine wp_isnn ?_ | with_reducible refine wp_isb ?_ | with_reducible refine wp_isnb ?_ | with_reducible refine wp_int ?_ | with_reducible refine wp_min ?_ | with_reducible refine wp_max ?_ | with_reducible refine wp_lent ?_ | ((with_reducible refine wp_ixt (w := ?_) ?_ ?_); rotate_left; · rfl) | with_reducible refine wp_cutT ?_ | with_reducible refine wp_tupZ ?_ | with_reducible refine If.n ?_ | ((with_reducible refine If_tr ?_ ?_); · rfl) | ((with_reducible refine If_fa ?_ ?_); · rfl) | with_reducible refine ex_bl ?_ | with_reducible refine ex_int ?_ | with_reducible refine ex_int2 ?_ | with_reducible refine inW_mk ?_ | ((with_reducible refine ex_some (y := ?_) ?_ ?_); rotate_left; · rfl) | ((with_reducible refine and_len ?_ ?_); · rfl) | ((with_reducible refine and_hty ?_ ?_); · rfl) | ((with_reducible refine and_le ?_ ?_); · exact Nat.le_of_ble_eq_true rfl) | ((with_reducible refine and_bd ?_ ?_); · first | decide | omega)))
  refine wl_inv (fun i fm st => Hd (∃ ls b x M, fm = [some (.ref e.d), some (.int n), some (.str ls), x] ∧ st = W e b L M ∧ ls.length ≤ n ∧ ls.Sublist (s.take i))) (fun _ _ _ _ => trivial) (hd ⟨[], _, _, _, rfl, rfl, by simp, List.nil_sublist _⟩) ?_ ?_
  · rintro i w hw fm st ⟨ls, b, x, M, rfl, rfl, hl, hsub⟩
    obtain ⟨c, rfl, hc⟩ := strW_get hw
    have ht : s.take (i + 1) = s.take i ++ [c] := by rw [List.take_succ, hc]; rfl
    refine ⟨_, rfl, ?_⟩
    (repeat (first | with_reducible refine we_c ?_ | ((with_reducible refine we_v (w := ?_) ?_ ?_); rotate_left; · rfl) | with_reducible refine we_b ?_ | with_reducible refine we_a ?_ | with_reducible refine wa_c ?_ | with_reducible refine wa_n ?_ | with_reducible refine we_mt ?_ | with_reducible refine we_call ?_ | with_reducible refine we_tup ?_ | with_reducible refine we_lstW ?_ | with_reducible refine we_u ?_ | with_reducible refine we_not ?_ | with_reducible refine we_if ?_ | with_reducible refine we_and ?_ | with_reducible refine we_or ?_ | with_reducible refine we_cut ?_ | with_reducible refine wo_n ?_ | with_reducible refine wo_s ?_ | with_reducible refine wb_b ?_ | with_reducible refine wb_v ?_ | with_reducible refine wb_o ?_ | with_reducible refine wb_and ?_ | with_reducible refine wb_or ?_ | with_reducible refine wb_not ?_ | with_reducible refine wb_yes ?_ | with_reducible refine we_ch ?_ | with_reducible refine wx_n ?_ | with_reducible refine wx_c ?_ | with_reducible refine ss_n ?_ | with_reducible refine ss_c ?_ | with_reducible refine ss_set ?_ | with_reducible refine ss_ex ?_ | with_reducible refine ss_ret ?_ | with_reducible refine ss_retN ?_ | with_reducible refine ss_bk ?_ | with_reducible refine ss_ct ?_ | with_reducible refine ss_if ?_ | with_reducible refine ss_asg ?_ | with_reducible refine ss_put ?_ | with_reducible refine ss_for ?_ | with_reducible refine wi_a ?_ | with_reducible refine wi_r1 ?_ | with_reducible refine wi_r2 ?_ | with_reducible refine wp_ai ?_ | with_reducible refine wp_si ?_ | ((with_reducible refine wp_ml ?_ ?_); · decide) | ((with_reducible refine wp_mr ?_ ?_); · decide) | ((with_reducible refine wp_md ?_ ?_); · decide) | with_reducible refine wp_ng ?_ | with_reducible refine wp_eqi ?_ | with_reducible refine wp_eqs ?_ | with_reducible refine wp_eqb ?_ | with_reducible refine wp_nei ?_ | with_reducible refine wp_nes ?_ | with_reducible refine wp_neb ?_ | with_reducible refine wp_lt ?_ | with_reducible refine wp_le ?_ | with_reducible refine wp_gt ?_ | with_reducible refine wp_ge ?_ | with_reducible refine wp_isn ?_ | with_reducible refine wp_isnn ?_ | with_reducible refine wp_isb ?_ | with_reducible refine wp_isnb ?_ | with_reducible refine wp_int ?_ | with_reducible refine wp_min ?_ | with_reducible refine wp_max ?_ | with_reducible refine wp_lent ?_ | ((with_reducible refine wp_ixt (w := ?_) ?_ ?_); rotate_left; · rfl) | with_reducible refine wp_cutT ?_ | with_reducible refine wp_tupZ ?_ | with_reducible refine If.n ?_ | ((with_reducible refine If_tr ?_ ?_); · rfl) | ((with_reducible refine If_fa ?_ ?_); · rfl) | with_reducible refine ex_bl ?_ | with_reducible refine ex_int ?_ | with_reducible refine ex_int2 ?_ | with_reducible refine inW_mk ?_ | ((with_reducible refine ex_some (y := ?_) ?_ ?_); rotate_left; · rfl) | ((with_reducible refine and_len ?_ ?_); · rfl) | ((with_reducible refine and_hty ?_ ?_); · rfl) | ((with_reducible refine and_le ?_ ?_); · exact Nat.le_of_ble_eq_true rfl) | ((with_reducible refine and_bd ?_ ?_); · first | decide | omega)))
    refine wp_lens (by omega) ?_
    (repeat (first | with_reducible refine we_c ?_ | ((with_reducible refine we_v (w := ?_) ?_ ?_); rotate_left; · rfl) | with_reducible refine we_b ?_ | with_reducible refine we_a ?_ | with_reducible refine wa_c ?_ | with_reducible refine wa_n ?_ | with_reducible refine we_mt ?_ | with_reducible refine we_call ?_ | with_reducible refine we_tup ?_ | with_reducible refine we_lstW ?_ | with_reducible refine we_u ?_ | with_reducible refine we_not ?_ | with_reducible refine we_if ?_ | with_reducible refine we_and ?_ | with_reducible refine we_or ?_ | with_reducible refine we_cut ?_ | with_reducible refine wo_n ?_ | with_reducible refine wo_s ?_ | with_reducible refine wb_b ?_ | with_reducible refine wb_v ?_ | with_reducible refine wb_o ?_ | with_reducible refine wb_and ?_ | with_reducible refine wb_or ?_ | with_reducible refine wb_not ?_ | with_reducible refine wb_yes ?_ | with_reducible refine we_ch ?_ | with_reducible refine wx_n ?_ | with_reducible refine wx_c ?_ | with_reducible refine ss_n ?_ | with_reducible refine ss_c ?_ | with_reducible refine ss_set ?_ | with_reducible refine ss_ex ?_ | with_reducible refine ss_ret ?_ | with_reducible refine ss_retN ?_ | with_reducible refine ss_bk ?_ | with_reducible refine ss_ct ?_ | with_reducible refine ss_if ?_ | with_reducible refine ss_asg ?_ | with_reducible refine ss_put ?_ | with_reducible refine ss_for ?_ | with_reducible refine wi_a ?_ | with_reducible refine wi_r1 ?_ | with_reducible refine wi_r2 ?_ | with_reducible refine wp_ai ?_ | with_reducible refine wp_si ?_ | ((with_reducible refine wp_ml ?_ ?_); · decide) | ((with_reducible refine wp_mr ?_ ?_); · decide) | ((with_reducible refine wp_md ?_ ?_); · decide) | with_reducible refine wp_ng ?_ | with_reducible refine wp_eqi ?_ | with_reducible refine wp_eqs ?_ | with_reducible refine wp_eqb ?_ | with_reducible refine wp_nei ?_ | with_reducible refine wp_nes ?_ | with_reducible refine wp_neb ?_ | with_reducible refine wp_lt ?_ | with_reducible refine wp_le ?_ | with_reducible refine wp_gt ?_ | with_reducible refine wp_ge ?_ | with_reducible refine wp_isn ?_ | with_reducible refine wp_isnn ?_ | with_reducible refine wp_isb ?_ | with_reducible refine wp_isnb ?_ | with_reducible refine wp_int ?_ | with_reducible refine wp_min ?_ | with_reducible refine wp_max ?_ | with_reducible refine wp_lent ?_ | ((with_reducible refine wp_ixt (w := ?_) ?_ ?_); rotate_left; · rfl) | with_reducible refine wp_cutT ?_ | with_reducible refine wp_tupZ ?_ | with_reducible refine If.n ?_ | ((with_reducible refine If_tr ?_ ?_); · rfl) | ((with_reducible refine If_fa ?_ ?_); · rfl) | with_reducible refine ex_bl ?_ | with_reducible refine ex_int ?_ | with_reducible refine ex_int2 ?_ | with_reducible refine inW_mk ?_ | ((with_reducible refine ex_some (y := ?_) ?_ ?_); rotate_left; · rfl) | ((with_reducible refine and_len ?_ ?_); · rfl) | ((with_reducible refine and_hty ?_ ?_); · rfl) | ((with_reducible refine and_le ?_ ?_); · exact Nat.le_of_ble_eq_true rfl) | ((with_reducible refine and_bd ?_ ?_); · first | decide | omega)))
    refine If.d (fun hlt => ?_) (fun _ => ?_)
    · (repeat (first | with_reducible refine we_c ?_ | ((with_reducible refine we_v (w := ?_) ?_ ?_); rotate_left; · rfl) | with_reducible refine we_b ?_ | with_reducible refine we_a ?_ | with_reducible refine wa_c ?_ | with_reducible refine wa_n ?_ | with_reducible refine we_mt ?_ | with_reducible refine we_call ?_ | with_reducible refine we_tup ?_ | with_reducible refine we_lstW ?_ | with_reducible refine we_u ?_ | with_reducible refine we_not ?_ | with_reducible refine we_if ?_ | with_reducible refine we_and ?_ | with_reducible refine we_or ?_ | with_reducible refine we_cut ?_ | with_reducible refine wo_n ?_ | with_reducible refine wo_s ?_ | with_reducible refine wb_b ?_ | with_reducible refine wb_v ?_ | with_reducible refine wb_o ?_ | with_reducible refine wb_and ?_ | with_reducible refine wb_or ?_ | with_reducible refine wb_not ?_ | with_reducible refine wb_yes ?_ | with_reducible refine we_ch ?_ | with_reducible refine wx_n ?_ | with_reducible refine wx_c ?_ | with_reducible refine ss_n ?_ | with_reducible refine ss_c ?_ | with_reducible refine ss_set ?_ | with_reducible refine ss_ex ?_ | with_reducible refine ss_ret ?_ | with_reducible refine ss_retN ?_ | with_reducible refine ss_bk ?_ | with_reducible refine ss_ct ?_ | with_reducible refine ss_if ?_ | with_reducible refine ss_asg ?_ | with_reducible refine ss_put ?_ | with_reducible refine ss_for ?_ | with_reducible refine wi_a ?_ | with_reducible refine wi_r1 ?_ | with_reducible refine wi_r2 ?_ | with_reducible refine wp_ai ?_ | with_reducible refine wp_si ?_ | ((with_reducible refine wp_ml ?_ ?_); · decide) | ((with_reducible refine wp_mr ?_ ?_); · decide) | ((with_reducible refine wp_md ?_ ?_); · decide) | with_reducible refine wp_ng ?_ | with_reducible refine wp_eqi ?_ | with_reducible refine wp_eqs ?_ | with_reducible refine wp_eqb ?_ | with_reducible refine wp_nei ?_ | with_reducible refine wp_nes ?_ | with_reducible refine wp_neb ?_ | with_reducible refine wp_lt ?_ | with_reducible refine wp_le ?_ | with_reducible refine wp_gt ?_ | with_reducible refine wp_ge ?_ | with_reducible refine wp_isn ?_ | with_reducible refine wp_isnn ?_ | with_reducible refine wp_isb ?_ | with_reducible refine wp_isnb ?_ | with_reducible refine wp_int ?_ | with_reducible refine wp_min ?_ | with_reducible refine wp_max ?_ | with_reducible refine wp_lent ?_ | ((with_reducible refine wp_ixt (w := ?_) ?_ ?_); rotate_left; · rfl) | with_reducible refine wp_cutT ?_ | with_reducible refine wp_tupZ ?_ | with_reducible refine If.n ?_ | ((with_reducible refine If_tr ?_ ?_); · rfl) | ((with_reducible refine If_fa ?_ ?_); · rfl) | with_reducible refine ex_bl ?_ | with_reducible refine ex_int ?_ | with_reducible refine ex_int2 ?_ | with_reducible refine inW_mk ?_ | ((with_reducible refine ex_some (y := ?_) ?_ ?_); rotate_left; · rfl) | ((with_reducible refine and_len ?_ ?_); · rfl) | ((with_reducible refine and_hty ?_ ?_); · rfl) | ((with_reducible refine and_le ?_ ?_); · exact Nat.le_of_ble_eq_true rfl) | ((with_reducible refine and_bd ?_ ?_); · first | decide | omega)))
      refine wp_pick (by first | decide | omega) fun x b h0 h1 => ?_
      (repeat (first | with_reducible refine we_c ?_ | ((with_reducible refine we_v (w := ?_) ?_ ?_); rotate_left; · rfl) | with_reducible refine we_b ?_ | with_reducible refine we_a ?_ | with_reducible refine wa_c ?_ | with_reducible refine wa_n ?_ | with_reducible refine we_mt ?_ | with_reducible refine we_call ?_ | with_reducible refine we_tup ?_ | with_reducible refine we_lstW ?_ | with_reducible refine we_u ?_ | with_reducible refine we_not ?_ | with_reducible refine we_if ?_ | with_reducible refine we_and ?_ | with_reducible refine we_or ?_ | with_reducible refine we_cut ?_ | with_reducible refine wo_n ?_ | with_reducible refine wo_s ?_ | with_reducible refine wb_b ?_ | with_reducible refine wb_v ?_ | with_reducible refine wb_o ?_ | with_reducible refine wb_and ?_ | with_reducible refine wb_or ?_ | with_reducible refine wb_not ?_ | with_reducible refine wb_yes ?_ | with_reducible refine we_ch ?_ | with_reducible refine wx_n ?_ | with_reducible refine wx_c ?_ | with_reducible refine ss_n ?_ | with_reducible refine ss_c ?_ | with_reducible refine ss_set ?_ | with_reducible refine ss_ex ?_ | with_reducible refine ss_ret ?_ | with_reducible refine ss_retN ?_ | with_reducible refine ss_bk ?_ | with_reducible refine ss_ct ?_ | with_reducible refine ss_if ?_ | with_reducible refine ss_asg ?_ | with_reducible refine ss_put ?_ | with_reducible refine ss_for ?_ | with_reducible refine wi_a ?_ | with_reducible refine wi_r1 ?_ | with_reducible refine wi_r2 ?_ | with_reducible refine wp_ai ?_ | with_reducible refine wp_si ?_ | ((with_reducible refine wp_ml ?_ ?_); · decide) | ((with_reducible refine wp_mr ?_ ?_); · decide) | ((with_reducible refine wp_md ?_ ?_); · decide) | with_reducible refine wp_ng ?_ | with_reducible refine wp_eqi ?_ | with_reducible refine wp_eqs ?_ | with_reducible refine wp_eqb ?_ | with_reducible refine wp_nei ?_ | with_reducible refine wp_nes ?_ | with_reducible refine wp_neb ?_ | with_reducible refine wp_lt ?_ | with_reducible refine wp_le ?_ | with_reducible refine wp_gt ?_ | with_reducible refine wp_ge ?_ | with_reducible refine wp_isn ?_ | with_reducible refine wp_isnn ?_ | with_reducible refine wp_isb ?_ | with_reducible refine wp_isnb ?_ | with_reducible refine wp_int ?_ | with_reducible refine wp_min ?_ | with_reducible refine wp_max ?_ | with_reducible refine wp_lent ?_ | ((with_reducible refine wp_ixt (w := ?_) ?_ ?_); rotate_left; · rfl) | with_reducible refine wp_cutT ?_ | with_reducible refine wp_tupZ ?_ | with_reducible refine If.n ?_ | ((with_reducible refine If_tr ?_ ?_); · rfl) | ((with_reducible refine If_fa ?_ ?_); · rfl) | with_reducible refine ex_bl ?_ | with_reducible refine ex_int ?_ | with_reducible refine ex_int2 ?_ | with_reducible refine inW_mk ?_ | ((with_reducible refine ex_some (y := ?_) ?_ ?_); rotate_left; · rfl) | ((with_reducible refine and_len ?_ ?_); · rfl) | ((with_reducible refine and_hty ?_ ?_); · rfl) | ((with_reducible refine and_le ?_ ?_); · exact Nat.le_of_ble_eq_true rfl) | ((with_reducible refine and_bd ?_ ?_); · first | decide | omega)))
      refine If.d (fun _ => ?_) (fun _ => ?_)
      · (repeat (first | with_reducible refine we_c ?_ | ((with_reducible refine we_v (w := ?_) ?_ ?_); rotate_left; · rfl) | with_reducible refine we_b ?_ | with_reducible refine we_a ?_ | with_reducible refine wa_c ?_ | with_reducible refine wa_n ?_ | with_reducible refine we_mt ?_ | with_reducible refine we_call ?_ | with_reducible refine we_tup ?_ | with_reducible refine we_lstW ?_ | with_reducible refine we_u ?_ | with_reducible refine we_not ?_ | with_reducible refine we_if ?_ | with_reducible refine we_and ?_ | with_reducible refine we_or ?_ | with_reducible refine we_cut ?_ | with_reducible refine wo_n ?_ | with_reducible refine wo_s ?_ | with_reducible refine wb_b ?_ | with_reducible refine wb_v ?_ | with_reducible refine wb_o ?_ | with_reducible refine wb_and ?_ | with_reducible refine wb_or ?_ | with_reducible refine wb_not ?_ | with_reducible refine wb_yes ?_ | with_reducible refine we_ch ?_ | with_reducible refine wx_n ?_ | with_reducible refine wx_c ?_ | with_reducible refine ss_n ?_ | with_reducible refine ss_c ?_ | with_reducible refine ss_set ?_ | with_reducible refine ss_ex ?_ | with_reducible refine ss_ret ?_ | with_reducible refine ss_retN ?_ | with_reducible refine ss_bk ?_ | with_reducible refine ss_ct ?_ | with_reducible refine ss_if ?_ | with_reducible refine ss_asg ?_ | with_reducible refine ss_put ?_ | with_reducible refine ss_for ?_ | with_reducible refine wi_a ?_ | with_reducible refine wi_r1 ?_ | with_reducible refine wi_r2 ?_ | with_reducible refine wp_ai ?_ | with_reducible refine wp_si ?_ | ((with_reducible refine wp_ml ?_ ?_); · decide) | ((with_reducible refine wp_mr ?_ ?_); · decide) | ((with_reducible refine wp_md ?_ ?_); · decide) | with_reducible refine wp_ng ?_ | with_reducible refine wp_eqi ?_ | with_reducible refine wp_eqs ?_ | with_reducible refine wp_eqb ?_ | with_reducible refine wp_nei ?_ | with_reducible refine wp_nes ?_ | with_reducible refine wp_neb ?_ | with_reducible refine wp_lt ?_ | with_reducible refine wp_le ?_ | with_reducible refine wp_gt ?_ | with_reducible refine wp_ge ?_ | with_reducible refine wp_isn ?_ | with_reducible refine wp_isnn ?_ | with_reducible refine wp_isb ?_ | with_reducible refine wp_isnb ?_ | with_reducible refine wp_int ?_ | with_reducible refine wp_min ?_ | with_reducible refine wp_max ?_ | with_reducible refine wp_lent ?_ | ((with_reducible refine wp_ixt (w := ?_) ?_ ?_); rotate_left; · rfl) | with_reducible refine wp_cutT ?_ | with_reducible refine wp_tupZ ?_ | with_reducible refine If.n ?_ | ((with_reducible refine If_tr ?_ ?_); · rfl) | ((with_reducible refine If_fa ?_ ?_); · rfl) | with_reducible refine ex_bl ?_ | with_reducible refine ex_int ?_ | with_reducible refine ex_int2 ?_ | with_reducible refine inW_mk ?_ | ((with_reducible refine ex_some (y := ?_) ?_ ?_); rotate_left; · rfl) | ((with_reducible refine and_len ?_ ?_); · rfl) | ((with_reducible refine and_hty ?_ ?_); · rfl) | ((with_reducible refine and_le ?_ ?_); · exact Nat.le_of_ble_eq_true rfl) | ((with_reducible refine and_bd ?_ ?_); · first | decide | omega)))
        refine wp_as (by simp; omega) ?_
        (repeat (first | with_reducible refine we_c ?_ | ((with_reducible refine we_v (w := ?_) ?_ ?_); rotate_left; · rfl) | with_reducible refine we_b ?_ | with_reducible refine we_a ?_ | with_reducible refine wa_c ?_ | with_reducible refine wa_n ?_ | with_reducible refine we_mt ?_ | with_reducible refine we_call ?_ | with_reducible refine we_tup ?_ | with_reducible refine we_lstW ?_ | with_reducible refine we_u ?_ | with_reducible refine we_not ?_ | with_reducible refine we_if ?_ | with_reducible refine we_and ?_ | with_reducible refine we_or ?_ | with_reducible refine we_cut ?_ | with_reducible refine wo_n ?_ | with_reducible refine wo_s ?_ | with_reducible refine wb_b ?_ | with_reducible refine wb_v ?_ | with_reducible refine wb_o ?_ | with_reducible refine wb_and ?_ | with_reducible refine wb_or ?_ | with_reducible refine wb_not ?_ | with_reducible refine wb_yes ?_ | with_reducible refine we_ch ?_ | with_reducible refine wx_n ?_ | with_reducible refine wx_c ?_ | with_reducible refine ss_n ?_ | with_reducible refine ss_c ?_ | with_reducible refine ss_set ?_ | with_reducible refine ss_ex ?_ | with_reducible refine ss_ret ?_ | with_reducible refine ss_retN ?_ | with_reducible refine ss_bk ?_ | with_reducible refine ss_ct ?_ | with_reducible refine ss_if ?_ | with_reducible refine ss_asg ?_ | with_reducible refine ss_put ?_ | with_reducible refine ss_for ?_ | with_reducible refine wi_a ?_ | with_reducible refine wi_r1 ?_ | with_reducible refine wi_r2 ?_ | with_reducible refine wp_ai ?_ | with_reducible refine wp_si ?_ | ((with_reducible refine wp_ml ?_ ?_); · decide) | ((with_reducible refine wp_mr ?_ ?_); · decide) | ((with_reducible refine wp_md ?_ ?_); · decide) | with_reducible refine wp_ng ?_ | with_reducible refine wp_eqi ?_ | with_reducible refine wp_eqs ?_ | with_reducible refine wp_eqb ?_ | with_reducible refine wp_nei ?_ | with_reducible refine wp_nes ?_ | with_reducible refine wp_neb ?_ | with_reducible refine wp_lt ?_ | with_reducible refine wp_le ?_ | with_reducible refine wp_gt ?_ | with_reducible refine wp_ge ?_ | with_reducible refine wp_isn ?_ | with_reducible refine wp_isnn ?_ | with_reducible refine wp_isb ?_ | with_reducible refine wp_isnb ?_ | with_reducible refine wp_int ?_ | with_reducible refine wp_min ?_ | with_reducible refine wp_max ?_ | with_reducible refine wp_lent ?_ | ((with_reducible refine wp_ixt (w := ?_) ?_ ?_); rotate_left; · rfl) | with_reducible refine wp_cutT ?_ | with_reducible refine wp_tupZ ?_ | with_reducible refine If.n ?_ | ((with_reducible refine If_tr ?_ ?_); · rfl) | ((with_reducible refine If_fa ?_ ?_); · rfl) | with_reducible refine ex_bl ?_ | with_reducible refine ex_int ?_ | with_reducible refine ex_int2 ?_ | with_reducible refine inW_mk ?_ | ((with_reducible refine ex_some (y := ?_) ?_ ?_); rotate_left; · rfl) | ((with_reducible refine and_len ?_ ?_); · rfl) | ((with_reducible refine and_hty ?_ ?_); · rfl) | ((with_reducible refine and_le ?_ ?_); · exact Nat.le_of_ble_eq_true rfl) | ((with_reducible refine and_bd ?_ ?_); · first | decide | omega)))
        exact hd ⟨_, _, _, _, rfl, rfl, by simp; omega, by rw [ht]; exact hsub.append (List.Sublist.refl _)⟩
      · (repeat (first | with_reducible refine we_c ?_ | ((with_reducible refine we_v (w := ?_) ?_ ?_); rotate_left; · rfl) | with_reducible refine we_b ?_ | with_reducible refine we_a ?_ | with_reducible refine wa_c ?_ | with_reducible refine wa_n ?_ | with_reducible refine we_mt ?_ | with_reducible refine we_call ?_ | with_reducible refine we_tup ?_ | with_reducible refine we_lstW ?_ | with_reducible refine we_u ?_ | with_reducible refine we_not ?_ | with_reducible refine we_if ?_ | with_reducible refine we_and ?_ | with_reducible refine we_or ?_ | with_reducible refine we_cut ?_ | with_reducible refine wo_n ?_ | with_reducible refine wo_s ?_ | with_reducible refine wb_b ?_ | with_reducible refine wb_v ?_ | with_reducible refine wb_o ?_ | with_reducible refine wb_and ?_ | with_reducible refine wb_or ?_ | with_reducible refine wb_not ?_ | with_reducible refine wb_yes ?_ | with_reducible refine we_ch ?_ | with_reducible refine wx_n ?_ | with_reducible refine wx_c ?_ | with_reducible refine ss_n ?_ | with_reducible refine ss_c ?_ | with_reducible refine ss_set ?_ | with_reducible refine ss_ex ?_ | with_reducible refine ss_ret ?_ | with_reducible refine ss_retN ?_ | with_reducible refine ss_bk ?_ | with_reducible refine ss_ct ?_ | with_reducible refine ss_if ?_ | with_reducible refine ss_asg ?_ | with_reducible refine ss_put ?_ | with_reducible refine ss_for ?_ | with_reducible refine wi_a ?_ | with_reducible refine wi_r1 ?_ | with_reducible refine wi_r2 ?_ | with_reducible refine wp_ai ?_ | with_reducible refine wp_si ?_ | ((with_reducible refine wp_ml ?_ ?_); · decide) | ((with_reducible refine wp_mr ?_ ?_); · decide) | ((with_reducible refine wp_md ?_ ?_); · decide) | with_reducible refine wp_ng ?_ | with_reducible refine wp_eqi ?_ | with_reducible refine wp_eqs ?_ | with_reducible refine wp_eqb ?_ | with_reducible refine wp_nei ?_ | with_reducible refine wp_nes ?_ | with_reducible refine wp_neb ?_ | with_reducible refine wp_lt ?_ | with_reducible refine wp_le ?_ | with_reducible refine wp_gt ?_ | with_reducible refine wp_ge ?_ | with_reducible refine wp_isn ?_ | with_reducible refine wp_isnn ?_ | with_reducible refine wp_isb ?_ | with_reducible refine wp_isnb ?_ | with_reducible refine wp_int ?_ | with_reducible refine wp_min ?_ | with_reducible refine wp_max ?_ | with_reducible refine wp_lent ?_ | ((with_reducible refine wp_ixt (w := ?_) ?_ ?_); rotate_left; · rfl) | with_reducible refine wp_cutT ?_ | with_reducible refine wp_tupZ ?_ | with_reducible refine If.n ?_ | ((with_reducible refine If_tr ?_ ?_); · rfl) | ((with_reducible refine If_fa ?_ ?_); · rfl) | with_reducible refine ex_bl ?_ | with_reducible refine ex_int ?_ | with_reducible refine ex_int2 ?_ | with_reducible refine inW_mk ?_ | ((with_reducible refine ex_some (y := ?_) ?_ ?_); rotate_left; · rfl) | ((with_reducible refine and_len ?_ ?_); · rfl) | ((with_reducible refine and_hty ?_ ?_); · rfl) | ((with_reducible refine and_le ?_ ?_); · exact Nat.le_of_ble_eq_true rfl) | ((with_reducible refine and_bd ?_ ?_); · first | decide | omega)))
        exact hd ⟨_, _, _, _, rfl, rfl, hl, by rw [ht]; exact hsub.trans (List.sublist_append_left _ _)⟩
    · (repeat (first | with_reducible refine we_c ?_ | ((with_reducible refine we_v (w := ?_) ?_ ?_); rotate_left; · rfl) | with_reducible refine we_b ?_ | with_reducible refine we_a ?_ | with_reducible refine wa_c ?_ | with_reducible refine wa_n ?_ | with_reducible refine we_mt ?_ | with_reducible refine we_call ?_ | with_reducible refine we_tup ?_ | with_reducible refine we_lstW ?_ | with_reducible refine we_u ?_ | with_reducible refine we_not ?_ | with_reducible refine we_if ?_ | with_reducible refine we_and ?_ | with_reducible refine we_or ?_ | with_reducible refine we_cut ?_ | with_reducible refine wo_n ?_ | with_reducible refine wo_s ?_ | with_reducible refine wb_b ?_ | with_reducible refine wb_v ?_ | with_reducible refine wb_o ?_ | with_reducible refine wb_and ?_ | with_reducible refine wb_or ?_ | with_reducible refine wb_not ?_ | with_reducible refine wb_yes ?_ | with_reducible refine we_ch ?_ | with_reducible refine wx_n ?_ | with_reducible refine wx_c ?_ | with_reducible refine ss_n ?_ | with_reducible refine ss_c ?_ | with_reducible refine ss_set ?_ | with_reducible refine ss_ex ?_ | with_reducible refine ss_ret ?_ | with_reducible refine ss_retN ?_ | with_reducible refine ss_bk ?_ | with_reducible refine ss_ct ?_ | with_reducible refine ss_if ?_ | with_reducible refine ss_asg ?_ | with_reducible refine ss_put ?_ | with_reducible refine ss_for ?_ | with_reducible refine wi_a ?_ | with_reducible refine wi_r1 ?_ | with_reducible refine wi_r2 ?_ | with_reducible refine wp_ai ?_ | with_reducible refine wp_si ?_ | ((with_reducible refine wp_ml ?_ ?_); · decide) | ((with_reducible refine wp_mr ?_ ?_); · decide) | ((with_reducible refine wp_md ?_ ?_); · decide) | with_reducible refine wp_ng ?_ | with_reducible refine wp_eqi ?_ | with_reducible refine wp_eqs ?_ | with_reducible refine wp_eqb ?_ | with_reducible refine wp_nei ?_ | with_reducible refine wp_nes ?_ | with_reducible refine wp_neb ?_ | with_reducible refine wp_lt ?_ | with_reducible refine wp_le ?_ | with_reducible refine wp_gt ?_ | with_reducible refine wp_ge ?_ | with_reducible refine wp_isn ?_ | with_reducible refine wp_isnn ?_ | with_reducible refine wp_isb ?_ | with_reducible refine wp_isnb ?_ | with_reducible refine wp_int ?_ | with_reducible refine wp_min ?_ | with_reducible refine wp_max ?_ | with_reducible refine wp_lent ?_ | ((with_reducible refine wp_ixt (w := ?_) ?_ ?_); rotate_left; · rfl) | with_reducible refine wp_cutT ?_ | with_reducible refine wp_tupZ ?_ | with_reducible refine If.n ?_ | ((with_reducible refine If_tr ?_ ?_); · rfl) | ((with_reducible refine If_fa ?_ ?_); · rfl) | with_reducible refine ex_bl ?_ | with_reducible refine ex_int ?_ | with_reducible refine ex_int2 ?_ | with_reducible refine inW_mk ?_ | ((with_reducible refine ex_some (y := ?_) ?_ ?_); rotate_left; · rfl) | ((with_reducible refine and_len ?_ ?_); · rfl) | ((with_reducible refine and_hty ?_ ?_); · rfl) | ((with_reducible refine and_le ?_ ?_); · exact Nat.le_of_ble_eq_true rfl) | ((with_reducible refine and_bd ?_ ?_); · first | decide | omega)))
      exact hd ⟨_, _, _, _, rfl, rfl, hl, by rw [ht]; exact hsub.trans (List.sublist_append_left _ _)⟩
  · rintro fm st ⟨ls, b, x, M, rfl, rfl, hl, hsub⟩
    dsimp only at hsub
    rw [strW_len, List.take_length] at hsub
    have hr : ∀ c ∈ ls, 97 ≤ c ∧ c ≤ 122 := fun c hc => hs c (hsub.subset hc)
    (repeat (first | with_reducible refine we_c ?_ | ((with_reducible refine we_v (w := ?_) ?_ ?_); rotate_left; · rfl) | with_reducible refine we_b ?_ | with_reducible refine we_a ?_ | with_reducible refine wa_c ?_ | with_reducible refine wa_n ?_ | with_reducible refine we_mt ?_ | with_reducible refine we_call ?_ | with_reducible refine we_tup ?_ | with_reducible refine we_lstW ?_ | with_reducible refine we_u ?_ | with_reducible refine we_not ?_ | with_reducible refine we_if ?_ | with_reducible refine we_and ?_ | with_reducible refine we_or ?_ | with_reducible refine we_cut ?_ | with_reducible refine wo_n ?_ | with_reducible refine wo_s ?_ | with_reducible refine wb_b ?_ | with_reducible refine wb_v ?_ | with_reducible refine wb_o ?_ | with_reducible refine wb_and ?_ | with_reducible refine wb_or ?_ | with_reducible refine wb_not ?_ | with_reducible refine wb_yes ?_ | with_reducible refine we_ch ?_ | with_reducible refine wx_n ?_ | with_reducible refine wx_c ?_ | with_reducible refine ss_n ?_ | with_reducible refine ss_c ?_ | with_reducible refine ss_set ?_ | with_reducible refine ss_ex ?_ | with_reducible refine ss_ret ?_ | with_reducible refine ss_retN ?_ | with_reducible refine ss_bk ?_ | with_reducible refine ss_ct ?_ | with_reducible refine ss_if ?_ | with_reducible refine ss_asg ?_ | with_reducible refine ss_put ?_ | with_reducible refine ss_for ?_ | with_reducible refine wi_a ?_ | with_reducible refine wi_r1 ?_ | with_reducible refine wi_r2 ?_ | with_reducible refine wp_ai ?_ | with_reducible refine wp_si ?_ | ((with_reducible refine wp_ml ?_ ?_); · decide) | ((with_reducible refine wp_mr ?_ ?_); · decide) | ((with_reducible refine wp_md ?_ ?_); · decide) | with_reducible refine wp_ng ?_ | with_reducible refine wp_eqi ?_ | with_reducible refine wp_eqs ?_ | with_reducible refine wp_eqb ?_ | with_reducible refine wp_nei ?_ | with_reducible refine wp_nes ?_ | with_reducible refine wp_neb ?_ | with_reducible refine wp_lt ?_ | with_reducible refine wp_le ?_ | with_reducible refine wp_gt ?_ | with_reducible refine wp_ge ?_ | with_reducible refine wp_isn ?_ | with_reducible refine wp_isnn ?_ | with_reducible refine wp_isb ?_ | with_reducible refine wp_isnb ?_ | with_reducible refine wp_int ?_ | with_reducible refine wp_min ?_ | with_reducible refine wp_max ?_ | with_reducible refine wp_lent ?_ | ((with_reducible refine wp_ixt (w := ?_) ?_ ?_); rotate_left; · rfl) | with_reducible refine wp_cutT ?_ | with_reducible refine wp_tupZ ?_ | with_reducible refine If.n ?_ | ((with_reducible refine If_tr ?_ ?_); · rfl) | ((with_reducible refine If_fa ?_ ?_); · rfl) | with_reducible refine ex_bl ?_ | with_reducible refine ex_int ?_ | with_reducible refine ex_int2 ?_ | with_reducible refine inW_mk ?_ | ((with_reducible refine ex_some (y := ?_) ?_ ?_); rotate_left; · rfl) | ((with_reducible refine and_len ?_ ?_); · rfl) | ((with_reducible refine and_hty ?_ ?_); · rfl) | ((with_reducible refine and_le ?_ ?_); · exact Nat.le_of_ble_eq_true rfl) | ((with_reducible refine and_bd ?_ ?_); · first | decide | omega)))
    refine If.d (fun _ => ?_) (fun hne => ?_)
    · (repeat (first | with_reducible refine we_c ?_ | ((with_reducible refine we_v (w := ?_) ?_ ?_); rotate_left; · rfl) | with_reducible refine we_b ?_ | with_reducible refine we_a ?_ | with_reducible refine wa_c ?_ | with_reducible refine wa_n ?_ | with_reducible refine we_mt ?_ | with_reducible refine we_call ?_ | with_reducible refine we_tup ?_ | with_reducible refine we_lstW ?_ | with_reducible refine we_u ?_ | with_reducible refine we_not ?_ | with_reducible refine we_if ?_ | with_reducible refine we_and ?_ | with_reducible refine we_or ?_ | with_reducible refine we_cut ?_ | with_reducible refine wo_n ?_ | with_reducible refine wo_s ?_ | with_reducible refine wb_b ?_ | with_reducible refine wb_v ?_ | with_reducible refine wb_o ?_ | with_reducible refine wb_and ?_ | with_reducible refine wb_or ?_ | with_reducible refine wb_not ?_ | with_reducible refine wb_yes ?_ | with_reducible refine we_ch ?_ | with_reducible refine wx_n ?_ | with_reducible refine wx_c ?_ | with_reducible refine ss_n ?_ | with_reducible refine ss_c ?_ | with_reducible refine ss_set ?_ | with_reducible refine ss_ex ?_ | with_reducible refine ss_ret ?_ | with_reducible refine ss_retN ?_ | with_reducible refine ss_bk ?_ | with_reducible refine ss_ct ?_ | with_reducible refine ss_if ?_ | with_reducible refine ss_asg ?_ | with_reducible refine ss_put ?_ | with_reducible refine ss_for ?_ | with_reducible refine wi_a ?_ | with_reducible refine wi_r1 ?_ | with_reducible refine wi_r2 ?_ | with_reducible refine wp_ai ?_ | with_reducible refine wp_si ?_ | ((with_reducible refine wp_ml ?_ ?_); · decide) | ((with_reducible refine wp_mr ?_ ?_); · decide) | ((with_reducible refine wp_md ?_ ?_); · decide) | with_reducible refine wp_ng ?_ | with_reducible refine wp_eqi ?_ | with_reducible refine wp_eqs ?_ | with_reducible refine wp_eqb ?_ | with_reducible refine wp_nei ?_ | with_reducible refine wp_nes ?_ | with_reducible refine wp_neb ?_ | with_reducible refine wp_lt ?_ | with_reducible refine wp_le ?_ | with_reducible refine wp_gt ?_ | with_reducible refine wp_ge ?_ | with_reducible refine wp_isn ?_ | with_reducible refine wp_isnn ?_ | with_reducible refine wp_isb ?_ | with_reducible refine wp_isnb ?_ | with_reducible refine wp_int ?_ | with_reducible refine wp_min ?_ | with_reducible refine wp_max ?_ | with_reducible refine wp_lent ?_ | ((with_reducible refine wp_ixt (w := ?_) ?_ ?_); rotate_left; · rfl) | with_reducible refine wp_cutT ?_ | with_reducible refine wp_tupZ ?_ | with_reducible refine If.n ?_ | ((with_reducible refine If_tr ?_ ?_); · rfl) | ((with_reducible refine If_fa ?_ ?_); · rfl) | with_reducible refine ex_bl ?_ | with_reducible refine ex_int ?_ | with_reducible refine ex_int2 ?_ | with_reducible refine inW_mk ?_ | ((with_reducible refine ex_some (y := ?_) ?_ ?_); rotate_left; · rfl) | ((with_reducible refine and_len ?_ ?_); · rfl) | ((with_reducible refine and_hty ?_ ?_); · rfl) | ((with_reducible refine and_le ?_ ?_); · exact Nat.le_of_ble_eq_true rfl) | ((with_reducible refine and_bd ?_ ?_); · first | decide | omega)))
      rw [W_fin_s]
      exact hd ⟨_, _, rfl, rfl, by decide, hn.1, by unfold Low; decide, by decide, by decide⟩
    · (repeat (first | with_reducible refine we_c ?_ | ((with_reducible refine we_v (w := ?_) ?_ ?_); rotate_left; · rfl) | with_reducible refine we_b ?_ | with_reducible refine we_a ?_ | with_reducible refine wa_c ?_ | with_reducible refine wa_n ?_ | with_reducible refine we_mt ?_ | with_reducible refine we_call ?_ | with_reducible refine we_tup ?_ | with_reducible refine we_lstW ?_ | with_reducible refine we_u ?_ | with_reducible refine we_not ?_ | with_reducible refine we_if ?_ | with_reducible refine we_and ?_ | with_reducible refine we_or ?_ | with_reducible refine we_cut ?_ | with_reducible refine wo_n ?_ | with_reducible refine wo_s ?_ | with_reducible refine wb_b ?_ | with_reducible refine wb_v ?_ | with_reducible refine wb_o ?_ | with_reducible refine wb_and ?_ | with_reducible refine wb_or ?_ | with_reducible refine wb_not ?_ | with_reducible refine wb_yes ?_ | with_reducible refine we_ch ?_ | with_reducible refine wx_n ?_ | with_reducible refine wx_c ?_ | with_reducible refine ss_n ?_ | with_reducible refine ss_c ?_ | with_reducible refine ss_set ?_ | with_reducible refine ss_ex ?_ | with_reducible refine ss_ret ?_ | with_reducible refine ss_retN ?_ | with_reducible refine ss_bk ?_ | with_reducible refine ss_ct ?_ | with_reducible refine ss_if ?_ | with_reducible refine ss_asg ?_ | with_reducible refine ss_put ?_ | with_reducible refine ss_for ?_ | with_reducible refine wi_a ?_ | with_reducible refine wi_r1 ?_ | with_reducible refine wi_r2 ?_ | with_reducible refine wp_ai ?_ | with_reducible refine wp_si ?_ | ((with_reducible refine wp_ml ?_ ?_); · decide) | ((with_reducible refine wp_mr ?_ ?_); · decide) | ((with_reducible refine wp_md ?_ ?_); · decide) | with_reducible refine wp_ng ?_ | with_reducible refine wp_eqi ?_ | with_reducible refine wp_eqs ?_ | with_reducible refine wp_eqb ?_ | with_reducible refine wp_nei ?_ | with_reducible refine wp_nes ?_ | with_reducible refine wp_neb ?_ | with_reducible refine wp_lt ?_ | with_reducible refine wp_le ?_ | with_reducible refine wp_gt ?_ | with_reducible refine wp_ge ?_ | with_reducible refine wp_isn ?_ | with_reducible refine wp_isnn ?_ | with_reducible refine wp_isb ?_ | with_reducible refine wp_isnb ?_ | with_reducible refine wp_int ?_ | with_reducible refine wp_min ?_ | with_reducible refine wp_max ?_ | with_reducible refine wp_lent ?_ | ((with_reducible refine wp_ixt (w := ?_) ?_ ?_); rotate_left; · rfl) | with_reducible refine wp_cutT ?_ | with_reducible refine wp_tupZ ?_ | with_reducible refine If.n ?_ | ((with_reducible refine If_tr ?_ ?_); · rfl) | ((with_reducible refine If_fa ?_ ?_); · rfl) | with_reducible refine ex_bl ?_ | with_reducible refine ex_int ?_ | with_reducible refine ex_int2 ?_ | with_reducible refine inW_mk ?_ | ((with_reducible refine ex_some (y := ?_) ?_ ?_); rotate_left; · rfl) | ((with_reducible refine and_len ?_ ?_); · rfl) | ((with_reducible refine and_hty ?_ ?_); · rfl) | ((with_reducible refine and_le ?_ ?_); · exact Nat.le_of_ble_eq_true rfl) | ((with_reducible refine and_bd ?_ ?_); · first | decide | omega)))
      rw [W_fin_s]
      exact hd ⟨_, _, rfl, rfl, by cases ls; exact absurd rfl hne; simp, hl, fun c hc => by have := hr c hc; omega, hr, hp.sublist hsub⟩
/-! ### set machines -/
abbrev rowV (r : List Nat) : Va := .tup (r.map fun (g : Nat) => .int g)
abbrev setV (ls : List Nat) (goals : List (List Nat)) (ends : List Bool) : Va := .tup [.str [115, 101, 116], .str ls, .tup (goals.map rowV), .tup (ends.map .bl)]
structure WF (ls : List Nat) (goals : List (List Nat)) (ends : List Bool) : Prop where
  pos : 1 ≤ goals.length
  ends : ends.length = goals.length
  row : ∀ r ∈ goals, r.length = ls.length ∧ ∀ g ∈ r, g < goals.length
/-! ### runs -/
/-- the first place of a letter -/
def at1 (ls : List Nat) (c : Nat) : Option Nat := ls.findIdx? (· == c)
theorem at1_none {ls : List Nat} {c : Nat} : at1 ls c = none ↔ c ∉ ls := by
  unfold at1
  rw [List.findIdx?_eq_none_iff]
  constructor
  · intro h hc
    simpa using h c hc
  · intro h x hx
    simp only [beq_eq_false_iff_ne, ne_eq]
    rintro rfl
    exact h hx
theorem at1_some {ls : List Nat} {c k : Nat} (h : at1 ls c = some k) : ls[k]? = some c ∧ ∀ i, i < k → ls[i]? ≠ some c := by
  unfold at1 at h
  rw [List.findIdx?_eq_some_iff_getElem] at h
  obtain ⟨hk, h1, h2⟩ := h
  refine ⟨by rw [List.getElem?_eq_getElem hk]; simpa using h1, fun i hi e => ?_⟩
  have := h2 i hi
  obtain ⟨hl, e⟩ := List.getElem?_eq_some_iff.mp e
  simp [e] at this
/-- the state that a text leads to -/
def runM (ls : List Nat) (goals : List (List Nat)) : Nat → List Nat → Option Nat
  | q, [] => some q
  | q, c :: t => match at1 ls c with
    | none => none
    | some k => runM ls goals (((goals[q]?).bind fun r => r[k]?).getD 0) t
def inM (ls : List Nat) (goals : List (List Nat)) (ends : List Bool) (t : List Nat) : Bool := match runM ls goals 0 t with
  | none => false
  | some q => (ends[q]?).getD false
theorem WF.step {ls : List Nat} {goals : List (List Nat)} {ends : List Bool} (h : WF ls goals ends) {q k c : Nat} (hq : q < goals.length) (hk : at1 ls c = some k) :
    ∃ r g, goals[q]? = some r ∧ r[k]? = some g ∧ g < goals.length := by
  have hk' : k < ls.length := (List.getElem?_eq_some_iff.mp (at1_some hk).1).1
  have hr := h.row goals[q] (List.getElem_mem hq)
  refine ⟨goals[q], goals[q][k]'(by omega), List.getElem?_eq_getElem hq, List.getElem?_eq_getElem (by omega), hr.2 _ (List.getElem_mem _)⟩
theorem contains_loop {ls : List Nat} {goals : List (List Nat)} {ends : List Bool} (h : WF ls goals ends) {st : Sto} : ∀ (t : List Nat) (q : Nat) (x v : Option Va) {N : Fm → Sto → Prop} {R : Va → Sto → Prop}, q < goals.length →
    (∀ q' y, runM ls goals q t = some q' → q' < goals.length → N [some (setV ls goals ends), v, some (.int (q' : Nat)), y] st) → (runM ls goals q t = none → R (.bl false) st) →
    Wl (fun _ => True) (gN 3) (sCons (sIf (bB gNin (eV 3) (eB gIx (eV 0) (eC (.int 1)))) (sCons (sRet (eC (.bl false))) sNil) sNil)
      (sCons (sSet 2 (eB gIx (eB gIx (eB gIx (eV 0) (eC (.int 2))) (eV 2)) (eMt "str" gIndex (eB gIx (eV 0) (eC (.int 1))) (aC (eV 3) aN)))) sNil)) (strW t) [some (setV ls goals ends), v, some (.int q), x] st N R
  | [], q, x, v, N, R, hq, hN, _ => wl_nil trivial (hN q x rfl hq)
  | c :: t, q, x, v, N, R, hq, hN, hR => by
    show Wl _ _ _ (Va.str [c] :: strW t) _ _ _ _
    refine wl_cons trivial rfl ?_
    refine ss_c (ss_if ?_)
    (repeat (first | with_reducible refine we_c ?_ | ((with_reducible refine we_v (w := ?_) ?_ ?_); rotate_left; · rfl) | with_reducible refine we_b ?_ | with_reducible refine we_a ?_ | with_reducible refine wa_c ?_ | with_reducible refine wa_n ?_ | with_reducible refine we_mt ?_ | with_reducible refine we_call ?_ | with_reducible refine we_tup ?_ | with_reducible refine we_lstW ?_ | with_reducible refine we_u ?_ | with_reducible refine we_not ?_ | with_reducible refine we_if ?_ | with_reducible refine we_and ?_ | with_reducible refine we_or ?_ | with_reducible refine we_cut ?_ | with_reducible refine wo_n ?_ | with_reducible refine wo_s ?_ | with_reducible refine wb_b ?_ | with_reducible refine wb_v ?_ | with_reducible refine wb_o ?_ | with_reducible refine wb_and ?_ | with_reducible refine wb_or ?_ | with_reducible refine wb_not ?_ | with_reducible refine wb_yes ?_ | with_reducible refine we_ch ?_ | with_reducible refine wx_n ?_ | with_reducible refine wx_c ?_ | with_reducible refine ss_n ?_ | with_reducible refine ss_c ?_ | with_reducible refine ss_set ?_ | with_reducible refine ss_ex ?_ | with_reducible refine ss_ret ?_ | with_reducible refine ss_retN ?_ | with_reducible refine ss_bk ?_ | with_reducible refine ss_ct ?_ | with_reducible refine ss_if ?_ | with_reducible refine ss_asg ?_ | with_reducible refine ss_put ?_ | with_reducible refine ss_for ?_ | with_reducible refine wi_a ?_ | with_reducible refine wi_r1 ?_ | with_reducible refine wi_r2 ?_ | with_reducible refine wp_ai ?_ | with_reducible refine wp_si ?_ | ((with_reducible refine wp_ml ?_ ?_); · decide) | ((with_reducible refine wp_mr ?_ ?_); · decide) | ((with_reducible refine wp_md ?_ ?_); · decide) | with_reducible refine wp_ng ?_ | with_reducible refine wp_eqi ?_ | with_reducible refine wp_eqs ?_ | with_reducible refine wp_eqb ?_ | with_reducible refine wp_nei ?_ | with_reducible refine wp_nes ?_ | with_reducible refine wp_neb ?_ | with_reducible refine wp_lt ?_ | with_reducible refine wp_le ?_ | with_reducible refine wp_gt ?_ | with_reducible refine wp_ge ?_ | with_reducible refine wp_isn ?_ | with_reducible refine wp_isnn ?_ | with_reducible refine wp_isb ?_ | with_reducible refine wp_isnb ?_ | with_reducible refine wp_int ?_ | with_reducible refine wp_min ?_ | with_reducible refine wp_max ?_ | with_reducible refine wp_lent ?_ | ((with_reducible refine wp_ixt (w := ?_) ?_ ?_); rotate_left; · rfl) | with_reducible refine wp_cutT ?_ | with_reducible refine wp_tupZ ?_ | with_reducible refine If.n ?_ | ((with_reducible refine If_tr ?_ ?_); · rfl) | ((with_reducible refine If_fa ?_ ?_); · rfl) | with_reducible refine ex_bl ?_ | with_reducible refine ex_int ?_ | with_reducible refine ex_int2 ?_ | with_reducible refine inW_mk ?_ | ((with_reducible refine ex_some (y := ?_) ?_ ?_); rotate_left; · rfl) | ((with_reducible refine and_len ?_ ?_); · rfl) | ((with_reducible refine and_hty ?_ ?_); · rfl) | ((with_reducible refine and_le ?_ ?_); · exact Nat.le_of_ble_eq_true rfl) | ((with_reducible refine and_bd ?_ ?_); · first | decide | omega)))
    refine wp_of gNin_s ?_
    (repeat (first | with_reducible refine we_c ?_ | ((with_reducible refine we_v (w := ?_) ?_ ?_); rotate_left; · rfl) | with_reducible refine we_b ?_ | with_reducible refine we_a ?_ | with_reducible refine wa_c ?_ | with_reducible refine wa_n ?_ | with_reducible refine we_mt ?_ | with_reducible refine we_call ?_ | with_reducible refine we_tup ?_ | with_reducible refine we_lstW ?_ | with_reducible refine we_u ?_ | with_reducible refine we_not ?_ | with_reducible refine we_if ?_ | with_reducible refine we_and ?_ | with_reducible refine we_or ?_ | with_reducible refine we_cut ?_ | with_reducible refine wo_n ?_ | with_reducible refine wo_s ?_ | with_reducible refine wb_b ?_ | with_reducible refine wb_v ?_ | with_reducible refine wb_o ?_ | with_reducible refine wb_and ?_ | with_reducible refine wb_or ?_ | with_reducible refine wb_not ?_ | with_reducible refine wb_yes ?_ | with_reducible refine we_ch ?_ | with_reducible refine wx_n ?_ | with_reducible refine wx_c ?_ | with_reducible refine ss_n ?_ | with_reducible refine ss_c ?_ | with_reducible refine ss_set ?_ | with_reducible refine ss_ex ?_ | with_reducible refine ss_ret ?_ | with_reducible refine ss_retN ?_ | with_reducible refine ss_bk ?_ | with_reducible refine ss_ct ?_ | with_reducible refine ss_if ?_ | with_reducible refine ss_asg ?_ | with_reducible refine ss_put ?_ | with_reducible refine ss_for ?_ | with_reducible refine wi_a ?_ | with_reducible refine wi_r1 ?_ | with_reducible refine wi_r2 ?_ | with_reducible refine wp_ai ?_ | with_reducible refine wp_si ?_ | ((with_reducible refine wp_ml ?_ ?_); · decide) | ((with_reducible refine wp_mr ?_ ?_); · decide) | ((with_reducible refine wp_md ?_ ?_); · decide) | with_reducible refine wp_ng ?_ | with_reducible refine wp_eqi ?_ | with_reducible refine wp_eqs ?_ | with_reducible refine wp_eqb ?_ | with_reducible refine wp_nei ?_ | with_reducible refine wp_nes ?_ | with_reducible refine wp_neb ?_ | with_reducible refine wp_lt ?_ | with_reducible refine wp_le ?_ | with_reducible refine wp_gt ?_ | with_reducible refine wp_ge ?_ | with_reducible refine wp_isn ?_ | with_reducible refine wp_isnn ?_ | with_reducible refine wp_isb ?_ | with_reducible refine wp_isnb ?_ | with_reducible refine wp_int ?_ | with_reducible refine wp_min ?_ | with_reducible refine wp_max ?_ | with_reducible refine wp_lent ?_ | ((with_reducible refine wp_ixt (w := ?_) ?_ ?_); rotate_left; · rfl) | with_reducible refine wp_cutT ?_ | with_reducible refine wp_tupZ ?_ | with_reducible refine If.n ?_ | ((with_reducible refine If_tr ?_ ?_); · rfl) | ((with_reducible refine If_fa ?_ ?_); · rfl) | with_reducible refine ex_bl ?_ | with_reducible refine ex_int ?_ | with_reducible refine ex_int2 ?_ | with_reducible refine inW_mk ?_ | ((with_reducible refine ex_some (y := ?_) ?_ ?_); rotate_left; · rfl) | ((with_reducible refine and_len ?_ ?_); · rfl) | ((with_reducible refine and_hty ?_ ?_); · rfl) | ((with_reducible refine and_le ?_ ?_); · exact Nat.le_of_ble_eq_true rfl) | ((with_reducible refine and_bd ?_ ?_); · first | decide | omega)))
    refine If.d (fun hc => ?_) (fun hc => ?_)
    · (repeat (first | with_reducible refine we_c ?_ | ((with_reducible refine we_v (w := ?_) ?_ ?_); rotate_left; · rfl) | with_reducible refine we_b ?_ | with_reducible refine we_a ?_ | with_reducible refine wa_c ?_ | with_reducible refine wa_n ?_ | with_reducible refine we_mt ?_ | with_reducible refine we_call ?_ | with_reducible refine we_tup ?_ | with_reducible refine we_lstW ?_ | with_reducible refine we_u ?_ | with_reducible refine we_not ?_ | with_reducible refine we_if ?_ | with_reducible refine we_and ?_ | with_reducible refine we_or ?_ | with_reducible refine we_cut ?_ | with_reducible refine wo_n ?_ | with_reducible refine wo_s ?_ | with_reducible refine wb_b ?_ | with_reducible refine wb_v ?_ | with_reducible refine wb_o ?_ | with_reducible refine wb_and ?_ | with_reducible refine wb_or ?_ | with_reducible refine wb_not ?_ | with_reducible refine wb_yes ?_ | with_reducible refine we_ch ?_ | with_reducible refine wx_n ?_ | with_reducible refine wx_c ?_ | with_reducible refine ss_n ?_ | with_reducible refine ss_c ?_ | with_reducible refine ss_set ?_ | with_reducible refine ss_ex ?_ | with_reducible refine ss_ret ?_ | with_reducible refine ss_retN ?_ | with_reducible refine ss_bk ?_ | with_reducible refine ss_ct ?_ | with_reducible refine ss_if ?_ | with_reducible refine ss_asg ?_ | with_reducible refine ss_put ?_ | with_reducible refine ss_for ?_ | with_reducible refine wi_a ?_ | with_reducible refine wi_r1 ?_ | with_reducible refine wi_r2 ?_ | with_reducible refine wp_ai ?_ | with_reducible refine wp_si ?_ | ((with_reducible refine wp_ml ?_ ?_); · decide) | ((with_reducible refine wp_mr ?_ ?_); · decide) | ((with_reducible refine wp_md ?_ ?_); · decide) | with_reducible refine wp_ng ?_ | with_reducible refine wp_eqi ?_ | with_reducible refine wp_eqs ?_ | with_reducible refine wp_eqb ?_ | with_reducible refine wp_nei ?_ | with_reducible refine wp_nes ?_ | with_reducible refine wp_neb ?_ | with_reducible refine wp_lt ?_ | with_reducible refine wp_le ?_ | with_reducible refine wp_gt ?_ | with_reducible refine wp_ge ?_ | with_reducible refine wp_isn ?_ | with_reducible refine wp_isnn ?_ | with_reducible refine wp_isb ?_ | with_reducible refine wp_isnb ?_ | with_reducible refine wp_int ?_ | with_reducible refine wp_min ?_ | with_reducible refine wp_max ?_ | with_reducible refine wp_lent ?_ | ((with_reducible refine wp_ixt (w := ?_) ?_ ?_); rotate_left; · rfl) | with_reducible refine wp_cutT ?_ | with_reducible refine wp_tupZ ?_ | with_reducible refine If.n ?_ | ((with_reducible refine If_tr ?_ ?_); · rfl) | ((with_reducible refine If_fa ?_ ?_); · rfl) | with_reducible refine ex_bl ?_ | with_reducible refine ex_int ?_ | with_reducible refine ex_int2 ?_ | with_reducible refine inW_mk ?_ | ((with_reducible refine ex_some (y := ?_) ?_ ?_); rotate_left; · rfl) | ((with_reducible refine and_len ?_ ?_); · rfl) | ((with_reducible refine and_hty ?_ ?_); · rfl) | ((with_reducible refine and_le ?_ ?_); · exact Nat.le_of_ble_eq_true rfl) | ((with_reducible refine and_bd ?_ ?_); · first | decide | omega)))
      obtain ⟨k, hk⟩ : ∃ k, at1 ls c = some k := by
        cases e : at1 ls c with
        | none => exact absurd hc (at1_none.mp e)
        | some k => exact ⟨k, rfl⟩
      obtain ⟨hk1, hk2⟩ := at1_some hk
      obtain ⟨r, g, e1, e2, e3⟩ := h.step hq hk
      have hrun : runM ls goals q (c :: t) = runM ls goals g t := by
        simp only [runM, hk, e1, Option.bind_some, e2, Option.getD_some]
      refine wp_ixt (w := rowV r) (by rw [atI_map, atI_n, e1]; rfl) ?_
      (repeat (first | with_reducible refine we_c ?_ | ((with_reducible refine we_v (w := ?_) ?_ ?_); rotate_left; · rfl) | with_reducible refine we_b ?_ | with_reducible refine we_a ?_ | with_reducible refine wa_c ?_ | with_reducible refine wa_n ?_ | with_reducible refine we_mt ?_ | with_reducible refine we_call ?_ | with_reducible refine we_tup ?_ | with_reducible refine we_lstW ?_ | with_reducible refine we_u ?_ | with_reducible refine we_not ?_ | with_reducible refine we_if ?_ | with_reducible refine we_and ?_ | with_reducible refine we_or ?_ | with_reducible refine we_cut ?_ | with_reducible refine wo_n ?_ | with_reducible refine wo_s ?_ | with_reducible refine wb_b ?_ | with_reducible refine wb_v ?_ | with_reducible refine wb_o ?_ | with_reducible refine wb_and ?_ | with_reducible refine wb_or ?_ | with_reducible refine wb_not ?_ | with_reducible refine wb_yes ?_ | with_reducible refine we_ch ?_ | with_reducible refine wx_n ?_ | with_reducible refine wx_c ?_ | with_reducible refine ss_n ?_ | with_reducible refine ss_c ?_ | with_reducible refine ss_set ?_ | with_reducible refine ss_ex ?_ | with_reducible refine ss_ret ?_ | with_reducible refine ss_retN ?_ | with_reducible refine ss_bk ?_ | with_reducible refine ss_ct ?_ | with_reducible refine ss_if ?_ | with_reducible refine ss_asg ?_ | with_reducible refine ss_put ?_ | with_reducible refine ss_for ?_ | with_reducible refine wi_a ?_ | with_reducible refine wi_r1 ?_ | with_reducible refine wi_r2 ?_ | with_reducible refine wp_ai ?_ | with_reducible refine wp_si ?_ | ((with_reducible refine wp_ml ?_ ?_); · decide) | ((with_reducible refine wp_mr ?_ ?_); · decide) | ((with_reducible refine wp_md ?_ ?_); · decide) | with_reducible refine wp_ng ?_ | with_reducible refine wp_eqi ?_ | with_reducible refine wp_eqs ?_ | with_reducible refine wp_eqb ?_ | with_reducible refine wp_nei ?_ | with_reducible refine wp_nes ?_ | with_reducible refine wp_neb ?_ | with_reducible refine wp_lt ?_ | with_reducible refine wp_le ?_ | with_reducible refine wp_gt ?_ | with_reducible refine wp_ge ?_ | with_reducible refine wp_isn ?_ | with_reducible refine wp_isnn ?_ | with_reducible refine wp_isb ?_ | with_reducible refine wp_isnb ?_ | with_reducible refine wp_int ?_ | with_reducible refine wp_min ?_ | with_reducible refine wp_max ?_ | with_reducible refine wp_lent ?_ | ((with_reducible refine wp_ixt (w := ?_) ?_ ?_); rotate_left; · rfl) | with_reducible refine wp_cutT ?_ | with_reducible refine wp_tupZ ?_ | with_reducible refine If.n ?_ | ((with_reducible refine If_tr ?_ ?_); · rfl) | ((with_reducible refine If_fa ?_ ?_); · rfl) | with_reducible refine ex_bl ?_ | with_reducible refine ex_int ?_ | with_reducible refine ex_int2 ?_ | with_reducible refine inW_mk ?_ | ((with_reducible refine ex_some (y := ?_) ?_ ?_); rotate_left; · rfl) | ((with_reducible refine and_len ?_ ?_); · rfl) | ((with_reducible refine and_hty ?_ ?_); · rfl) | ((with_reducible refine and_le ?_ ?_); · exact Nat.le_of_ble_eq_true rfl) | ((with_reducible refine and_bd ?_ ?_); · first | decide | omega)))
      refine wp_of (gIndex_one hk1 hk2) ?_
      refine wp_ixt (w := .int g) (by rw [atI_map, atI_n, e2]; rfl) ?_
      (repeat (first | with_reducible refine we_c ?_ | ((with_reducible refine we_v (w := ?_) ?_ ?_); rotate_left; · rfl) | with_reducible refine we_b ?_ | with_reducible refine we_a ?_ | with_reducible refine wa_c ?_ | with_reducible refine wa_n ?_ | with_reducible refine we_mt ?_ | with_reducible refine we_call ?_ | with_reducible refine we_tup ?_ | with_reducible refine we_lstW ?_ | with_reducible refine we_u ?_ | with_reducible refine we_not ?_ | with_reducible refine we_if ?_ | with_reducible refine we_and ?_ | with_reducible refine we_or ?_ | with_reducible refine we_cut ?_ | with_reducible refine wo_n ?_ | with_reducible refine wo_s ?_ | with_reducible refine wb_b ?_ | with_reducible refine wb_v ?_ | with_reducible refine wb_o ?_ | with_reducible refine wb_and ?_ | with_reducible refine wb_or ?_ | with_reducible refine wb_not ?_ | with_reducible refine wb_yes ?_ | with_reducible refine we_ch ?_ | with_reducible refine wx_n ?_ | with_reducible refine wx_c ?_ | with_reducible refine ss_n ?_ | with_reducible refine ss_c ?_ | with_reducible refine ss_set ?_ | with_reducible refine ss_ex ?_ | with_reducible refine ss_ret ?_ | with_reducible refine ss_retN ?_ | with_reducible refine ss_bk ?_ | with_reducible refine ss_ct ?_ | with_reducible refine ss_if ?_ | with_reducible refine ss_asg ?_ | with_reducible refine ss_put ?_ | with_reducible refine ss_for ?_ | with_reducible refine wi_a ?_ | with_reducible refine wi_r1 ?_ | with_reducible refine wi_r2 ?_ | with_reducible refine wp_ai ?_ | with_reducible refine wp_si ?_ | ((with_reducible refine wp_ml ?_ ?_); · decide) | ((with_reducible refine wp_mr ?_ ?_); · decide) | ((with_reducible refine wp_md ?_ ?_); · decide) | with_reducible refine wp_ng ?_ | with_reducible refine wp_eqi ?_ | with_reducible refine wp_eqs ?_ | with_reducible refine wp_eqb ?_ | with_reducible refine wp_nei ?_ | with_reducible refine wp_nes ?_ | with_reducible refine wp_neb ?_ | with_reducible refine wp_lt ?_ | with_reducible refine wp_le ?_ | with_reducible refine wp_gt ?_ | with_reducible refine wp_ge ?_ | with_reducible refine wp_isn ?_ | with_reducible refine wp_isnn ?_ | with_reducible refine wp_isb ?_ | with_reducible refine wp_isnb ?_ | with_reducible refine wp_int ?_ | with_reducible refine wp_min ?_ | with_reducible refine wp_max ?_ | with_reducible refine wp_lent ?_ | ((with_reducible refine wp_ixt (w := ?_) ?_ ?_); rotate_left; · rfl) | with_reducible refine wp_cutT ?_ | with_reducible refine wp_tupZ ?_ | with_reducible refine If.n ?_ | ((with_reducible refine If_tr ?_ ?_); · rfl) | ((with_reducible refine If_fa ?_ ?_); · rfl) | with_reducible refine ex_bl ?_ | with_reducible refine ex_int ?_ | with_reducible refine ex_int2 ?_ | with_reducible refine inW_mk ?_ | ((with_reducible refine ex_some (y := ?_) ?_ ?_); rotate_left; · rfl) | ((with_reducible refine and_len ?_ ?_); · rfl) | ((with_reducible refine and_hty ?_ ?_); · rfl) | ((with_reducible refine and_le ?_ ?_); · exact Nat.le_of_ble_eq_true rfl) | ((with_reducible refine and_bd ?_ ?_); · first | decide | omega)))
      exact contains_loop h t g _ v e3 (fun q' y e hq' => hN q' y (hrun.trans e) hq') (fun e => hR (hrun.trans e))
    · (repeat (first | with_reducible refine we_c ?_ | ((with_reducible refine we_v (w := ?_) ?_ ?_); rotate_left; · rfl) | with_reducible refine we_b ?_ | with_reducible refine we_a ?_ | with_reducible refine wa_c ?_ | with_reducible refine wa_n ?_ | with_reducible refine we_mt ?_ | with_reducible refine we_call ?_ | with_reducible refine we_tup ?_ | with_reducible refine we_lstW ?_ | with_reducible refine we_u ?_ | with_reducible refine we_not ?_ | with_reducible refine we_if ?_ | with_reducible refine we_and ?_ | with_reducible refine we_or ?_ | with_reducible refine we_cut ?_ | with_reducible refine wo_n ?_ | with_reducible refine wo_s ?_ | with_reducible refine wb_b ?_ | with_reducible refine wb_v ?_ | with_reducible refine wb_o ?_ | with_reducible refine wb_and ?_ | with_reducible refine wb_or ?_ | with_reducible refine wb_not ?_ | with_reducible refine wb_yes ?_ | with_reducible refine we_ch ?_ | with_reducible refine wx_n ?_ | with_reducible refine wx_c ?_ | with_reducible refine ss_n ?_ | with_reducible refine ss_c ?_ | with_reducible refine ss_set ?_ | with_reducible refine ss_ex ?_ | with_reducible refine ss_ret ?_ | with_reducible refine ss_retN ?_ | with_reducible refine ss_bk ?_ | with_reducible refine ss_ct ?_ | with_reducible refine ss_if ?_ | with_reducible refine ss_asg ?_ | with_reducible refine ss_put ?_ | with_reducible refine ss_for ?_ | with_reducible refine wi_a ?_ | with_reducible refine wi_r1 ?_ | with_reducible refine wi_r2 ?_ | with_reducible refine wp_ai ?_ | with_reducible refine wp_si ?_ | ((with_reducible refine wp_ml ?_ ?_); · decide) | ((with_reducible refine wp_mr ?_ ?_); · decide) | ((with_reducible refine wp_md ?_ ?_); · decide) | with_reducible refine wp_ng ?_ | with_reducible refine wp_eqi ?_ | with_reducible refine wp_eqs ?_ | with_reducible refine wp_eqb ?_ | with_reducible refine wp_nei ?_ | with_reducible refine wp_nes ?_ | with_reducible refine wp_neb ?_ | with_reducible refine wp_lt ?_ | with_reducible refine wp_le ?_ | with_reducible refine wp_gt ?_ | with_reducible refine wp_ge ?_ | with_reducible refine wp_isn ?_ | with_reducible refine wp_isnn ?_ | with_reducible refine wp_isb ?_ | with_reducible refine wp_isnb ?_ | with_reducible refine wp_int ?_ | with_reducible refine wp_min ?_ | with_reducible refine wp_max ?_ | with_reducible refine wp_lent ?_ | ((with_reducible refine wp_ixt (w := ?_) ?_ ?_); rotate_left; · rfl) | with_reducible refine wp_cutT ?_ | with_reducible refine wp_tupZ ?_ | with_reducible refine If.n ?_ | ((with_reducible refine If_tr ?_ ?_); · rfl) | ((with_reducible refine If_fa ?_ ?_); · rfl) | with_reducible refine ex_bl ?_ | with_reducible refine ex_int ?_ | with_reducible refine ex_int2 ?_ | with_reducible refine inW_mk ?_ | ((with_reducible refine ex_some (y := ?_) ?_ ?_); rotate_left; · rfl) | ((with_reducible refine and_len ?_ ?_); · rfl) | ((with_reducible refine and_hty ?_ ?_); · rfl) | ((with_reducible refine and_le ?_ ?_); · exact Nat.le_of_ble_eq_true rfl) | ((with_reducible refine and_bd ?_ ?_); · first | decide | omega)))
      refine hR ?_
      simp only [runM, at1_none.mpr hc]
noncomputable def c_contains : Fn := fn 4 2 (sCons (sSet 2 (eC (.int 0)))
  (sCons (sFor (iA (eV 1)) (gN 3) (sCons (sIf (bB gNin (eV 3) (eB gIx (eV 0) (eC (.int 1)))) (sCons (sRet (eC (.bl false)))
  sNil) sNil)
  (sCons (sSet 2 (eB gIx (eB gIx (eB gIx (eV 0) (eC (.int 2))) (eV 2)) (eMt "str" gIndex (eB gIx (eV 0) (eC (.int 1))) (aC (eV 3) aN))))
  sNil)))
  (sCons (sRet (eB gIx (eB gIx (eV 0) (eC (.int 3))) (eV 2)))
  sNil)))
theorem contains_eq {ls : List Nat} {goals : List (List Nat)} {ends : List Bool} (h : WF ls goals ends) (t : List Nat) (st : Sto) : c_contains [setV ls goals ends, .str t] st = some (.bl (inM ls goals ends t), st) := by
  refine Wp.eq ?_
  unfold c_contains
  refine wp_fn rfl ?_
  (repeat (first | with_reducible refine we_c ?_ | ((with_reducible refine we_v (w := ?_) ?_ ?_); rotate_left; · rfl) | with_reducible refine we_b ?_ | with_reducible refine we_a ?_ | with_reducible refine wa_c ?_ | with_reducible refine wa_n ?_ | with_reducible refine we_mt ?_ | with_reducible refine we_call ?_ | with_reducible refine we_tup ?_ | with_reducible refine we_lstW ?_ | with_reducible refine we_u ?_ | with_reducible refine we_not ?_ | with_reducible refine we_if ?_ | with_reducible refine we_and ?_ | with_reducible refine we_or ?_ | with_reducible refine we_cut ?_ | with_reducible refine wo_n ?_ | with_reducible refine wo_s ?_ | with_reducible refine wb_b ?_ | with_reducible refine wb_v ?_ | with_reducible refine wb_o ?_ | with_reducible refine wb_and ?_ | with_reducible refine wb_or ?_ | with_reducible refine wb_not ?_ | with_reducible refine wb_yes ?_ | with_reducible refine we_ch ?_ | with_reducible refine wx_n ?_ | with_reducible refine wx_c ?_ | with_reducible refine ss_n ?_ | with_reducible refine ss_c ?_ | with_reducible refine ss_set ?_ | with_reducible refine ss_ex ?_ | with_reducible refine ss_ret ?_ | with_reducible refine ss_retN ?_ | with_reducible refine ss_bk ?_ | with_reducible refine ss_ct ?_ | with_reducible refine ss_if ?_ | with_reducible refine ss_asg ?_ | with_reducible refine ss_put ?_ | with_reducible refine ss_for ?_ | with_reducible refine wi_a ?_ | with_reducible refine wi_r1 ?_ | with_reducible refine wi_r2 ?_ | with_reducible refine wp_ai ?_ | with_reducible refine wp_si ?_ | ((with_reducible refine wp_ml ?_ ?_); · decide) | ((with_reducible refine wp_mr ?_ ?_); · decide) | ((with_reducible refine wp_md ?_ ?_); · decide) | with_reducible refine wp_ng ?_ | with_reducible refine wp_eqi ?_ | with_reducible refine wp_eqs ?_ | with_reducible refine wp_eqb ?_ | with_reducible refine wp_nei ?_ | with_reducible refine wp_nes ?_ | with_reducible refine wp_neb ?_ | with_reducible refine wp_lt ?_ | with_reducible refine wp_le ?_ | with_reducible refine wp_gt ?_ | with_reducible refine wp_ge ?_ | with_reducible refine wp_isn ?_ | with_reducible refine wp_isnn ?_ | with_reducible refine wp_isb ?_ | with_reducible refine wp_isnb ?_ | with_reducible refine wp_int ?_ | with_reducible refine wp_min ?_ | with_reducible refine wp_max ?_ | with_reducible refine wp_lent ?_ | ((with_reducible refine wp_ixt (w := ?_) ?_ ?_); rotate_left; · rfl) | with_reducible refine wp_cutT ?_ | with_reducible refine wp_tupZ ?_ | with_reducible refine If.n ?_ | ((with_reducible refine If_tr ?_ ?_); · rfl) | ((with_reducible refine If_fa ?_ ?_); · rfl) | with_reducible refine ex_bl ?_ | with_reducible refine ex_int ?_ | with_reducible refine ex_int2 ?_ | with_reducible refine inW_mk ?_ | ((with_reducible refine ex_some (y := ?_) ?_ ?_); rotate_left; · rfl) | ((with_reducible refine and_len ?_ ?_); · rfl) | ((with_reducible refine and_hty ?_ ?_); · rfl) | ((with_reducible refine and_le ?_ ?_); · exact Nat.le_of_ble_eq_true rfl) | ((with_reducible refine and_bd ?_ ?_); · first | decide | omega)))
  refine contains_loop h t 0 _ _ h.pos (fun q' y e hq' => ?_) (fun e => ?_)
  · (repeat (first | with_reducible refine we_c ?_ | ((with_reducible refine we_v (w := ?_) ?_ ?_); rotate_left; · rfl) | with_reducible refine we_b ?_ | with_reducible refine we_a ?_ | with_reducible refine wa_c ?_ | with_reducible refine wa_n ?_ | with_reducible refine we_mt ?_ | with_reducible refine we_call ?_ | with_reducible refine we_tup ?_ | with_reducible refine we_lstW ?_ | with_reducible refine we_u ?_ | with_reducible refine we_not ?_ | with_reducible refine we_if ?_ | with_reducible refine we_and ?_ | with_reducible refine we_or ?_ | with_reducible refine we_cut ?_ | with_reducible refine wo_n ?_ | with_reducible refine wo_s ?_ | with_reducible refine wb_b ?_ | with_reducible refine wb_v ?_ | with_reducible refine wb_o ?_ | with_reducible refine wb_and ?_ | with_reducible refine wb_or ?_ | with_reducible refine wb_not ?_ | with_reducible refine wb_yes ?_ | with_reducible refine we_ch ?_ | with_reducible refine wx_n ?_ | with_reducible refine wx_c ?_ | with_reducible refine ss_n ?_ | with_reducible refine ss_c ?_ | with_reducible refine ss_set ?_ | with_reducible refine ss_ex ?_ | with_reducible refine ss_ret ?_ | with_reducible refine ss_retN ?_ | with_reducible refine ss_bk ?_ | with_reducible refine ss_ct ?_ | with_reducible refine ss_if ?_ | with_reducible refine ss_asg ?_ | with_reducible refine ss_put ?_ | with_reducible refine ss_for ?_ | with_reducible refine wi_a ?_ | with_reducible refine wi_r1 ?_ | with_reducible refine wi_r2 ?_ | with_reducible refine wp_ai ?_ | with_reducible refine wp_si ?_ | ((with_reducible refine wp_ml ?_ ?_); · decide) | ((with_reducible refine wp_mr ?_ ?_); · decide) | ((with_reducible refine wp_md ?_ ?_); · decide) | with_reducible refine wp_ng ?_ | with_reducible refine wp_eqi ?_ | with_reducible refine wp_eqs ?_ | with_reducible refine wp_eqb ?_ | with_reducible refine wp_nei ?_ | with_reducible refine wp_nes ?_ | with_reducible refine wp_neb ?_ | with_reducible refine wp_lt ?_ | with_reducible refine wp_le ?_ | with_reducible refine wp_gt ?_ | with_reducible refine wp_ge ?_ | with_reducible refine wp_isn ?_ | with_reducible refine wp_isnn ?_ | with_reducible refine wp_isb ?_ | with_reducible refine wp_isnb ?_ | with_reducible refine wp_int ?_ | with_reducible refine wp_min ?_ | with_reducible refine wp_max ?_ | with_reducible refine wp_lent ?_ | ((with_reducible refine wp_ixt (w := ?_) ?_ ?_); rotate_left; · rfl) | with_reducible refine wp_cutT ?_ | with_reducible refine wp_tupZ ?_ | with_reducible refine If.n ?_ | ((with_reducible refine If_tr ?_ ?_); · rfl) | ((with_reducible refine If_fa ?_ ?_); · rfl) | with_reducible refine ex_bl ?_ | with_reducible refine ex_int ?_ | with_reducible refine ex_int2 ?_ | with_reducible refine inW_mk ?_ | ((with_reducible refine ex_some (y := ?_) ?_ ?_); rotate_left; · rfl) | ((with_reducible refine and_len ?_ ?_); · rfl) | ((with_reducible refine and_hty ?_ ?_); · rfl) | ((with_reducible refine and_le ?_ ?_); · exact Nat.le_of_ble_eq_true rfl) | ((with_reducible refine and_bd ?_ ?_); · first | decide | omega)))
    have he : ends[q']? = some (ends[q']'(by have := h.ends; omega)) := List.getElem?_eq_getElem _
    refine wp_ixt (w := .bl (ends[q']'(by have := h.ends; omega))) (by rw [atI_map, atI_n, he]; rfl) ?_
    rw [fin_sb]
    refine ⟨?_, rfl⟩
    simp only [inM, e, he, Option.getD_some]
  · rw [fin_sb]
    refine ⟨?_, rfl⟩
    simp only [inM, e]
end T3
/-! the plain law of the search for a first text: breadth first, in order -/
namespace Bfs
/-- a word's number: shorter ones first, then in order -/
def val (n : Nat) : List Nat → Nat → Nat
  | [], x => x
  | k :: w, x => val n w (n * x + k + 1)
theorem val_app {n : Nat} : ∀ (u v : List Nat) (x : Nat), val n (u ++ v) x = val n v (val n u x)
  | [], _, _ => rfl
  | _ :: u, v, _ => val_app u v _
def V (n : Nat) (w : List Nat) : Nat := val n w 0
theorem V_snoc {n : Nat} (w : List Nat) (k : Nat) : V n (w ++ [k]) = n * V n w + k + 1 := by unfold V; rw [val_app]; rfl
def Wd (n : Nat) (w : List Nat) : Prop := ∀ k ∈ w, k < n
theorem Wd.snoc {n : Nat} {w : List Nat} {k : Nat} (h : Wd n w) (hk : k < n) : Wd n (w ++ [k]) := fun x hx => by
  rcases List.mem_append.mp hx with hx | hx
  · exact h x hx
  · simp at hx; omega
theorem Wd.init {n : Nat} {w : List Nat} {k : Nat} (h : Wd n (w ++ [k])) : Wd n w ∧ k < n := ⟨fun x hx => h x (by simp [hx]), h k (by simp)⟩
theorem snoc_cases (w : List Nat) : w = [] ∨ ∃ u k, w = u ++ [k] := by
  rcases List.eq_nil_or_concat w with h | ⟨u, k, h⟩
  · exact .inl h
  · exact .inr ⟨u, k, by rw [h, List.concat_eq_append]⟩
theorem V_inj {n : Nat} : ∀ (m : Nat) (u v : List Nat), u.length = m → Wd n u → Wd n v → V n u = V n v → u = v := by
  intro m
  induction m with
  | zero =>
    intro u v hu _ _ e
    have : u = [] := List.length_eq_zero_iff.mp hu
    subst this
    rcases snoc_cases v with rfl | ⟨v', k, rfl⟩
    · rfl
    · rw [V_snoc] at e
      have : V n [] = 0 := rfl
      omega
  | succ m ih =>
    intro u v hu wu wv e
    rcases snoc_cases u with rfl | ⟨u', j, rfl⟩
    · simp at hu
    · rcases snoc_cases v with rfl | ⟨v', k, rfl⟩
      · rw [V_snoc] at e
        have : V n [] = 0 := rfl
        omega
      · rw [V_snoc, V_snoc] at e
        have hj := wu.init.2
        have hk := wv.init.2
        have e1 : n * V n u' + j = n * V n v' + k := by omega
        have e2 : V n u' = V n v' := by
          have a := congrArg (· / n) e1
          simp only [Nat.mul_add_div (show n > 0 by omega), Nat.div_eq_of_lt hj, Nat.div_eq_of_lt hk, Nat.add_zero] at a
          exact a
        rw [ih u' v' (by simpa using hu) wu.init.1 wv.init.1 e2]
        rw [e2] at e1
        have : j = k := by omega
        rw [this]
section
variable (n : Nat) (d : Nat → Nat → Nat)
def run (w : List Nat) : Nat := w.foldl d 0
theorem run_snoc (w : List Nat) (k : Nat) : run d (w ++ [k]) = d (run d w) k := by unfold run; rw [List.foldl_append]; rfl
/-- the queue while the letters below k of the one at `at` are done -/
structure Q (qu : List (Nat × List Nat)) (a k : Nat) : Prop where
  le : a ≤ qu.length
  hk : k ≤ n
  start : ∃ r, qu = (0, []) :: r
  word : ∀ p ∈ qu, run d p.2 = p.1 ∧ Wd n p.2
  nodup : (qu.map (·.1)).Nodup
  sort : ∀ i j : Nat, ∀ p q, i < j → qu[i]? = some p → qu[j]? = some q → V n p.2 < V n q.2
  least : ∀ p ∈ qu, ∀ u, Wd n u → run d u = p.1 → V n p.2 ≤ V n u
  below : ∀ p, qu[a]? = some p → ∀ q ∈ qu, V n q.2 < n * V n p.2 + k + 1
  done : ∀ i, i < a → ∀ p, qu[i]? = some p → ∀ j, j < n → d p.1 j ∈ qu.map (·.1)
  part : ∀ p, qu[a]? = some p → ∀ j, j < k → d p.1 j ∈ qu.map (·.1)
theorem Q.init (hn : 1 ≤ n) : Q n d [(0, [])] 0 0 where
  le := by simp
  hk := by omega
  start := ⟨[], rfl⟩
  word := fun p hp => by simp at hp; subst hp; exact ⟨rfl, fun _ h => (List.not_mem_nil h).elim⟩
  nodup := by simp
  sort := fun i j p q hij h1 h2 => by
    have := (List.getElem?_eq_some_iff.mp h2).1
    simp at this; omega
  least := fun p hp u _ _ => by simp at hp; subst hp; exact Nat.zero_le _
  below := fun p hp q hq => by simp at hq; subst hq; show V n [] < _; have : V n [] = 0 := rfl; omega
  done := fun i hi => by omega
  part := fun p _ j hj => by omega
variable {n d}
theorem idx_of {qu : List (Nat × List Nat)} {s : Nat} (h : s ∈ qu.map (·.1)) : ∃ (i : Nat) (p : Nat × List Nat), qu[i]? = some p ∧ p.1 = s := by
  obtain ⟨p, hp, rfl⟩ := List.mem_map.mp h
  obtain ⟨i, hi⟩ := List.getElem?_of_mem hp
  exact ⟨i, p, hi, rfl⟩
/-- words that lead to unmet states come later -/
theorem Q.later {qu : List (Nat × List Nat)} {a k : Nat} {p : Nat × List Nat} (h : Q n d qu a k) (hp : qu[a]? = some p) : ∀ (m : Nat) (u : List Nat), u.length = m → Wd n u → run d u ∉ qu.map (·.1) → n * V n p.2 + k + 1 ≤ V n u := by
  intro m
  induction m with
  | zero =>
    intro u hu _ hr
    have : u = [] := List.length_eq_zero_iff.mp hu
    subst this
    obtain ⟨r, hq⟩ := h.start
    exact absurd (by rw [hq]; simp [run]) hr
  | succ m ih =>
    intro u hu wu hr
    rcases snoc_cases u with rfl | ⟨v, j, rfl⟩
    · simp at hu
    · rw [V_snoc]
      obtain ⟨wv, hj⟩ := wu.init
      by_cases hv : run d v ∈ qu.map (·.1)
      · obtain ⟨i, q, hi, hq⟩ := idx_of hv
        have hqm := List.mem_of_getElem? hi
        have hl := h.least q hqm v wv hq.symm
        rw [run_snoc, ← hq] at hr
        rcases Nat.lt_trichotomy i a with hia | hia | hia
        · exact absurd (h.done i hia q hi j hj) hr
        · subst hia
          rw [hp] at hi
          cases hi
          have hjk : ¬ j < k := fun hjk => hr (h.part p hp j hjk)
          have : n * V n p.2 ≤ n * V n v := Nat.mul_le_mul_left n hl
          omega
        · have hs := h.sort a i p q hia hp hi
          have h1 : n * (V n p.2 + 1) ≤ n * V n v := Nat.mul_le_mul_left n (by omega)
          have h2 := h.hk
          rw [Nat.mul_add] at h1
          omega
      · have := ih v (by simpa using hu) wv hv
        have hn : 1 ≤ n := by omega
        have h1 : 1 * V n v ≤ n * V n v := Nat.mul_le_mul_right _ hn
        omega
/-- a letter whose state is met -/
theorem Q.old {qu : List (Nat × List Nat)} {a k : Nat} {p : Nat × List Nat} (h : Q n d qu a k) (hp : qu[a]? = some p) (hk : k < n) (hm : d p.1 k ∈ qu.map (·.1)) : Q n d qu a (k + 1) :=
  { h with
    hk := hk
    below := fun q hq r hr => by rw [hp] at hq; cases hq; have := h.below p hp r hr; omega
    part := fun q hq j hj => by
      rw [hp] at hq; cases hq
      by_cases e : j = k
      · rw [e]; exact hm
      · exact h.part p hp j (by omega) }
/-- a letter whose state is new -/
theorem Q.new {qu : List (Nat × List Nat)} {a k : Nat} {p : Nat × List Nat} (h : Q n d qu a k) (hp : qu[a]? = some p) (hk : k < n) (hm : d p.1 k ∉ qu.map (·.1)) : Q n d (qu ++ [(d p.1 k, p.2 ++ [k])]) a (k + 1) := by
  have hpm := List.mem_of_getElem? hp
  have hal := (List.getElem?_eq_some_iff.mp hp).1
  have hget : ∀ (i : Nat) q, (qu ++ [(d p.1 k, p.2 ++ [k])])[i]? = some q → qu[i]? = some q ∨ i = qu.length ∧ q = (d p.1 k, p.2 ++ [k]) := fun i q hq => by
    by_cases hi : i < qu.length
    · rw [List.getElem?_append_left hi] at hq; exact .inl hq
    · rw [List.getElem?_append_right (by omega)] at hq
      by_cases h0 : i - qu.length = 0
      · rw [h0] at hq; simp at hq; exact .inr ⟨by omega, hq.symm⟩
      · rw [List.getElem?_singleton, if_neg h0] at hq; cases hq
  have hw := h.word p hpm
  have hp' : (qu ++ [(d p.1 k, p.2 ++ [k])])[a]? = some p := by rw [List.getElem?_append_left hal]; exact hp
  refine ⟨by simp; have := h.le; omega, hk, ?_, ?_, ?_, ?_, ?_, ?_, ?_, ?_⟩
  · obtain ⟨r, hq⟩ := h.start
    exact ⟨r ++ [(d p.1 k, p.2 ++ [k])], by rw [hq]; rfl⟩
  · intro q hq
    rcases List.mem_append.mp hq with hq | hq
    · exact h.word q hq
    · simp at hq; subst hq
      exact ⟨by rw [run_snoc, hw.1], hw.2.snoc hk⟩
  · rw [List.map_append, List.nodup_append]
    refine ⟨h.nodup, by simp, fun x hx y hy => ?_⟩
    simp at hy; subst hy
    rintro rfl
    exact hm hx
  · intro i j q r hij h1 h2
    rcases hget j r h2 with h2 | ⟨rfl, rfl⟩
    · have hj := (List.getElem?_eq_some_iff.mp h2).1
      rcases hget i q h1 with h1 | ⟨rfl, rfl⟩
      · exact h.sort i j q r hij h1 h2
      · omega
    · rcases hget i q h1 with h1 | ⟨rfl, rfl⟩
      · rw [V_snoc]
        exact h.below p hp q (List.mem_of_getElem? h1)
      · omega
  · intro q hq u wu hu
    rcases List.mem_append.mp hq with hq | hq
    · exact h.least q hq u wu hu
    · simp at hq; subst hq
      rw [V_snoc]
      exact h.later hp u.length u rfl wu (by rw [hu]; exact hm)
  · intro q hq r hr
    rw [hp'] at hq; cases hq
    rcases List.mem_append.mp hr with hr | hr
    · have := h.below p hp r hr; omega
    · simp at hr; subst hr
      rw [V_snoc]; omega
  · intro i hi q hq j hj
    rw [List.getElem?_append_left (by omega)] at hq
    rw [List.map_append]
    exact List.mem_append_left _ (h.done i hi q hq j hj)
  · intro q hq j hj
    rw [hp'] at hq; cases hq
    rw [List.map_append]
    by_cases e : j = k
    · subst e; exact List.mem_append_right _ (by simp)
    · exact List.mem_append_left _ (h.part p hp j (by omega))
/-- the next one -/
theorem Q.next {qu : List (Nat × List Nat)} {a : Nat} (h : Q n d qu a n) (ha : a < qu.length) : Q n d qu (a + 1) 0 :=
  have hp : qu[a]? = some qu[a] := List.getElem?_eq_getElem ha
  { h with
    le := ha
    hk := Nat.zero_le _
    below := fun q hq r hr => by
      have h1 := h.below _ hp r hr
      have h2 := h.sort a (a + 1) _ _ (by omega) hp hq
      have h3 : n * (V n qu[a].2 + 1) ≤ n * V n q.2 := Nat.mul_le_mul_left n (by omega)
      rw [Nat.mul_add] at h3
      omega
    done := fun i hi q hq j hj => by
      by_cases e : i = a
      · subst e
        rw [hp] at hq; cases hq
        exact h.part _ hp j hj
      · exact h.done i (by omega) q hq j hj
    part := fun _ _ j hj => by omega }
/-- the first word that is taken -/
def Least (n : Nat) (d : Nat → Nat → Nat) (acc : Nat → Bool) (w : List Nat) : Prop := Wd n w ∧ acc (run d w) = true ∧ ∀ u, Wd n u → acc (run d u) = true → V n w ≤ V n u
theorem Q.found {acc : Nat → Bool} {qu : List (Nat × List Nat)} {a : Nat} {p : Nat × List Nat} (h : Q n d qu a 0) (hn : 1 ≤ n) (hp : qu[a]? = some p) (ha : acc p.1 = true) (hno : ∀ i, i < a → ∀ q, qu[i]? = some q → acc q.1 = false) : Least n d acc p.2 := by
  have hw := h.word p (List.mem_of_getElem? hp)
  refine ⟨hw.2, by rw [hw.1]; exact ha, fun u wu hu => ?_⟩
  by_cases hr : run d u ∈ qu.map (·.1)
  · obtain ⟨i, q, hi, hq⟩ := idx_of hr
    have hl := h.least q (List.mem_of_getElem? hi) u wu hq.symm
    rcases Nat.lt_trichotomy i a with hia | hia | hia
    · have := hno i hia q hi
      rw [hq, hu] at this
      cases this
    · subst hia; rw [hp] at hi; cases hi; exact hl
    · have := h.sort a i p q hia hp hi; omega
  · have h1 := h.later hp u.length u rfl wu hr
    have h2 : 1 * V n p.2 ≤ n * V n p.2 := Nat.mul_le_mul_right _ hn
    omega
theorem Q.none {acc : Nat → Bool} {qu : List (Nat × List Nat)} (h : Q n d qu qu.length 0) (hno : ∀ q ∈ qu, acc q.1 = false) : ∀ u, Wd n u → acc (run d u) = false := by
  have key : ∀ (m : Nat) (u : List Nat), u.length = m → Wd n u → run d u ∈ qu.map (·.1) := by
    intro m
    induction m with
    | zero =>
      intro u hu _
      have : u = [] := List.length_eq_zero_iff.mp hu
      subst this
      obtain ⟨r, hq⟩ := h.start
      rw [hq]; simp [run]
    | succ m ih =>
      intro u hu wu
      rcases snoc_cases u with rfl | ⟨v, j, rfl⟩
      · simp at hu
      · obtain ⟨wv, hj⟩ := wu.init
        obtain ⟨i, q, hi, hq⟩ := idx_of (ih v (by simpa using hu) wv)
        rw [run_snoc, ← hq]
        exact h.done i (List.getElem?_eq_some_iff.mp hi).1 q hi j hj
  intro u wu
  obtain ⟨i, q, hi, hq⟩ := idx_of (key u.length u rfl wu)
  rw [← hq]
  exact hno q (List.mem_of_getElem? hi)
theorem Least.uniq {acc : Nat → Bool} {u v : List Nat} (hu : Least n d acc u) (hv : Least n d acc v) : u = v :=
  V_inj u.length u v rfl hu.1 hv.1 (Nat.le_antisymm (hu.2.2 v hv.1 hv.2.1) (hv.2.2 u hu.1 hu.2.1))
end
end Bfs
set_option maxHeartbeats 4000000
namespace L_k05
open PySem PySem.Spec PyProof.Rows L2 T3
def topS (i : Nat) : Stmt := PySem.Challenge.pw_threescribes_k05_first_texts.main.body.getD i (.Pass ⟨0, 0, 0, 0⟩)
abbrev s_contains : Stmt := topS 1
abbrev s_shortest : Stmt := topS 2
abbrev s__law_mix : Stmt := topS 4
abbrev s__law_stream : Stmt := topS 5
abbrev s__law_pick : Stmt := topS 6
abbrev s__law_letters : Stmt := topS 7
abbrev s__law_set : Stmt := topS 8
abbrev s__law_first : Stmt := topS 9
abbrev s__law_tried : Stmt := topS 10
abbrev s_law : Stmt := topS 11
/-- what the top has written -/
structure Txt (K : PySem.W.Frag) (mg : Str → Option Value) where
  a_contains : Addr
  fd_contains : FuncData
  F_contains : Fun K "contains" "contains" s_contains a_contains fd_contains
  b_contains : Binds K fd_contains ["machine", "text"] []
  g_contains : mg "contains" = some (.ref a_contains)
  a_shortest : Addr
  fd_shortest : FuncData
  F_shortest : Fun K "shortest" "shortest" s_shortest a_shortest fd_shortest
  b_shortest : Binds K fd_shortest ["machine"] []
  g_shortest : mg "shortest" = some (.ref a_shortest)
  a__law_mix : Addr
  fd__law_mix : FuncData
  F__law_mix : Fun K "_law_mix" "_law_mix" s__law_mix a__law_mix fd__law_mix
  b__law_mix : Binds K fd__law_mix ["cell", "k"] []
  g__law_mix : mg "_law_mix" = some (.ref a__law_mix)
  a__law_stream : Addr
  fd__law_stream : FuncData
  F__law_stream : Fun K "_law_stream" "_law_stream" s__law_stream a__law_stream fd__law_stream
  b__law_stream : Binds K fd__law_stream ["script", "most"] []
  g__law_stream : mg "_law_stream" = some (.ref a__law_stream)
  a__law_pick : Addr
  fd__law_pick : FuncData
  F__law_pick : Fun K "_law_pick" "_law_pick" s__law_pick a__law_pick fd__law_pick
  b__law_pick : Binds K fd__law_pick ["draws", "many"] []
  g__law_pick : mg "_law_pick" = some (.ref a__law_pick)
  a__law_letters : Addr
  fd__law_letters : FuncData
  F__law_letters : Fun K "_law_letters" "_law_letters" s__law_letters a__law_letters fd__law_letters
  b__law_letters : Binds K fd__law_letters ["draws", "most"] []
  g__law_letters : mg "_law_letters" = some (.ref a__law_letters)
  a__law_set : Addr
  fd__law_set : FuncData
  F__law_set : Fun K "_law_set" "_law_set" s__law_set a__law_set fd__law_set
  b__law_set : Binds K fd__law_set ["draws", "letters", "most"] []
  g__law_set : mg "_law_set" = some (.ref a__law_set)
  a__law_first : Addr
  fd__law_first : FuncData
  F__law_first : Fun K "_law_first" "_law_first" s__law_first a__law_first fd__law_first
  b__law_first : Binds K fd__law_first ["machine"] []
  g__law_first : mg "_law_first" = some (.ref a__law_first)
  a__law_tried : Addr
  fd__law_tried : FuncData
  F__law_tried : Fun K "_law_tried" "_law_tried" s__law_tried a__law_tried fd__law_tried
  b__law_tried : Binds K fd__law_tried ["machine", "most"] []
  g__law_tried : mg "_law_tried" = some (.ref a__law_tried)
  a_law : Addr
  fd_law : FuncData
  F_law : Fun K "law" "law" s_law a_law fd_law
  b_law : Binds K fd_law ["script"] []
  g_law : mg "law" = some (.ref a_law)
  m_int : mg "int" = none
  m_len : mg "len" = none
  m_min : mg "min" = none
  m_range : mg "range" = none
  m_sum : mg "sum" = none
  m_tuple : mg "tuple" = none
section
variable {P : Program} {w : World} {K : PySem.W.Frag} {mg : Str → Option Value} {base : Heap}
noncomputable def m_contains : Fn := fn 4 2 (sCons (sSet 2 (eC (.int 0)))
  (sCons (sFor (iA (eV 1)) (gN 3) (sCons (sIf (bB gNin (eV 3) (eB gIx (eV 0) (eC (.int 1)))) (sCons (sRet (eC (.bl false)))
  sNil) sNil)
  (sCons (sSet 2 (eB gIx (eB gIx (eB gIx (eV 0) (eC (.int 2))) (eV 2)) (eMt "str" gIndex (eB gIx (eV 0) (eC (.int 1))) (aC (eV 3) aN))))
  sNil)))
  (sCons (sRet (eB gIx (eB gIx (eV 0) (eC (.int 3))) (eV 2)))
  sNil)))
theorem sc_contains : FnScope ["machine", "text", "state", "char"] ["machine", "text"] (defScope s_contains) := ⟨rfl, rfl, rfl, by decide +kernel, rfl, by decide +kernel, by decide +kernel⟩
theorem w_contains (T : Txt K mg) : FnOk P w K mg base CX0 1 T.a_contains T.fd_contains ["machine", "text"] (spD K m_contains 2) := by
  refine ok_def (k := 0) T.F_contains sc_contains rfl rfl (by decide) fun cdv A outer sh H E hr => ?_
  have sc := sc_contains
  have hu1 := hu_of hr
  have hu64 := hr.units
  have hu65 := hu65_of hr
  exact (dss_cons (ds_set (i := 2) sc.nd rfl (by first | exact .inl rfl | exact .inr rfl) de_int)
  (dss_cons (ds_for PassesOwn.never rfl (di_a (de_v (pv 1))) (dg_n (i := 3) sc.nd rfl (by first | exact .inl rfl | exact .inr rfl)) (dss_cons (ds_if (dt_nin hu65 (de_v (pv 3)) (de_ix2 (de_v (pv 0)) de_int hu1)) (dss_cons (ds_ret de_bl)
  dss_nil) dss_nil)
  (dss_cons (ds_set (i := 2) sc.nd rfl (by first | exact .inl rfl | exact .inr rfl) (de_ix2 (de_ix2 (de_ix2 (de_v (pv 0)) de_int hu1) (de_v (pv 2)) hu1) (de_index (de_ix2 (de_v (pv 0)) de_int hu1) (de_v (pv 3))) hu1))
  dss_nil)))
  (dss_cons (ds_ret (de_ix2 (de_ix2 (de_v (pv 0)) de_int hu1) (de_v (pv 2)) hu1))
  dss_nil)))
noncomputable def m_shortest : Fn := fn 10 1 (sCons (sAsg (gT (gsC (gN 1) (gsC (gN 2) (gsC (gN 3) gsN)))) (eCut (eV 0) (pSo (eC (.int 1))) pNo))
  (sCons (sSet 4 (eLst (aC (eC (.int 0)) aN)))
  (sCons (sSet 5 (eDic (pC (eC (.int 0)) (eC (.str [])) pN)))
  (sCons (sSet 6 (eC (.int 0)))
  (sCons (sWh (bB gLt (eV 6) (eA gLen (aC (eV 4) aN))) (sCons (sSet 7 (eB gIx (eV 4) (eV 6)))
  (sCons (sIf (bV (eB gIx (eV 3) (eV 7))) (sCons (sRet (eB gIx (eV 5) (eV 7)))
  sNil) sNil)
  (sCons (sFor (iR1 (eA gLen (aC (eV 1) aN))) (gN 8) (sCons (sSet 9 (eB gIx (eB gIx (eV 2) (eV 7)) (eV 8)))
  (sCons (sIf (bB gNin (eV 9) (eV 5)) (sCons (sPut (eV 5) (eV 9) (eB gAdd (eB gIx (eV 5) (eV 7)) (eB gIx (eV 1) (eV 8))))
  (sCons (sEx (eMt "list" gApp (eV 4) (aC (eV 9) aN)))
  sNil)) sNil)
  sNil)))
  (sCons (sSet 6 (eB gAdd (eV 6) (eC (.int 1))))
  sNil)))))
  (sCons (sRet (eC .non))
  sNil))))))
theorem sc_shortest : FnScope ["machine", "letters", "goals", "ends", "order", "texts", "at", "state", "k", "goal"] ["machine"] (defScope s_shortest) := ⟨rfl, rfl, rfl, by decide +kernel, rfl, by decide +kernel, by decide +kernel⟩
theorem w_shortest (T : Txt K mg) : FnOk P w K mg base CX0 1 T.a_shortest T.fd_shortest ["machine"] (spD K m_shortest 1) := by
  refine ok_def (k := 0) T.F_shortest sc_shortest rfl rfl (by decide) fun cdv A outer sh H E hr => ?_
  have sc := sc_shortest
  have hu1 := hu_of hr
  have hu64 := hr.units
  have hu65 := hu65_of hr
  exact (dss_cons (ds_asg (de_cut (de_v (pv 0)) (dp_so de_int) dp_no) (dg_t rfl (dgs_cons (dg_n (i := 1) sc.nd rfl (by first | exact .inl rfl | exact .inr rfl)) (dgs_cons (dg_n (i := 2) sc.nd rfl (by first | exact .inl rfl | exact .inr rfl)) (dgs_cons (dg_n (i := 3) sc.nd rfl (by first | exact .inl rfl | exact .inr rfl)) dgs_nil))) rfl rfl (gslc (gslc (gslc gsl0)))))
  (dss_cons (ds_set (i := 4) sc.nd rfl (by first | exact .inl rfl | exact .inr rfl) (de_lst (da_cons de_int da_nil)))
  (dss_cons (ds_set (i := 5) sc.nd rfl (by first | exact .inl rfl | exact .inr rfl) (de_dic (dps_cons de_int (de_str rfl) dps_nil) rfl rfl (by simp) (by decide)))
  (dss_cons (ds_set (i := 6) sc.nd rfl (by first | exact .inl rfl | exact .inr rfl) de_int)
  (dss_cons (ds_wh PassesOwn.never (dt_lt (de_v (pv 6)) (de_B _ _ cLen (by decide +kernel) T.m_len (da_cons (de_v (pv 4)) da_nil))) (dss_cons (ds_set (i := 7) sc.nd rfl (by first | exact .inl rfl | exact .inr rfl) (de_ix2 (de_v (pv 4)) (de_v (pv 6)) hu1))
  (dss_cons (ds_if (dt_v (de_ix2 (de_v (pv 3)) (de_v (pv 7)) hu1) (fun _ => rfl)) (dss_cons (ds_ret (de_ix2 (de_v (pv 5)) (de_v (pv 7)) hu1))
  dss_nil) dss_nil)
  (dss_cons (ds_for PassesOwn.never rfl (di_r1 rfl T.m_range (de_B _ _ cLen (by decide +kernel) T.m_len (da_cons (de_v (pv 1)) da_nil))) (dg_n (i := 8) sc.nd rfl (by first | exact .inl rfl | exact .inr rfl)) (dss_cons (ds_set (i := 9) sc.nd rfl (by first | exact .inl rfl | exact .inr rfl) (de_ix2 (de_ix2 (de_v (pv 2)) (de_v (pv 7)) hu1) (de_v (pv 8)) hu1))
  (dss_cons (ds_if (dt_nin hu65 (de_v (pv 9)) (de_v (pv 5))) (dss_cons (ds_put (de_v (pv 5)) (de_v (pv 9)) (de_add (de_ix2 (de_v (pv 5)) (de_v (pv 7)) hu1) (de_ix2 (de_v (pv 1)) (de_v (pv 8)) hu1)) hu1)
  (dss_cons (ds_ex (de_app (de_v (pv 4)) (de_v (pv 9))))
  dss_nil)) dss_nil)
  dss_nil)))
  (dss_cons (ds_set (i := 6) sc.nd rfl (by first | exact .inl rfl | exact .inr rfl) (de_add (de_v (pv 6)) de_int))
  dss_nil)))))
  (dss_cons (ds_ret de_non)
  dss_nil))))))
noncomputable def m__law_mix : Fn := fn 3 2 (sCons (sSet 2 (eB gMod (eA gInt (aC (eB gAdd (eB gAdd (eB gMul (eV 0) (eC (.int 48271))) (eB gMul (eV 1) (eC (.int 69621)))) (eC (.int 11))) aN)) (eC (.int 2147483647))))
  (sCons (sRet (eB gMod (eB gMod (eA gInt (aC (eB gAdd (eB gAdd (eB gAdd (eB gMul (eV 2) (eV 2)) (eB gMul (eV 0) (eC (.int 40692)))) (eB gMul (eV 1) (eC (.int 7)))) (eC (.int 3))) aN)) (eC (.int 1000003))) (eC (.int 1000))))
  sNil))
theorem sc__law_mix : FnScope ["cell", "k", "low"] ["cell", "k"] (defScope s__law_mix) := ⟨rfl, rfl, rfl, by decide +kernel, rfl, by decide +kernel, by decide +kernel⟩
theorem w__law_mix (T : Txt K mg) : FnOk P w K mg base CX0 1 T.a__law_mix T.fd__law_mix ["cell", "k"] (spD K m__law_mix 2) := by
  refine ok_def (k := 0) T.F__law_mix sc__law_mix rfl rfl (by decide) fun cdv A outer sh H E hr => ?_
  have sc := sc__law_mix
  have hu1 := hu_of hr
  have hu64 := hr.units
  have hu65 := hu65_of hr
  exact (dss_cons (ds_set (i := 2) sc.nd rfl (by first | exact .inl rfl | exact .inr rfl) (de_mod (de_T _ _ cInt (by decide +kernel) T.m_int (da_cons (de_add (de_add (de_mul (de_v (pv 0)) de_int) (de_mul (de_v (pv 1)) de_int)) de_int) da_nil)) de_int))
  (dss_cons (ds_ret (de_mod (de_mod (de_T _ _ cInt (by decide +kernel) T.m_int (da_cons (de_add (de_add (de_add (de_mul (de_v (pv 2)) (de_v (pv 2))) (de_mul (de_v (pv 0)) de_int)) (de_mul (de_v (pv 1)) de_int)) de_int) da_nil)) de_int) de_int))
  dss_nil))
noncomputable def m__law_stream : Fn := fn 6 2 (sCons (sSet 2 (eLst aN))
  (sCons (sFor (iR1 (eA gMin (aC (eA gLen (aC (eV 0) aN)) (aC (eC (.int 63)) aN)))) (gN 3) (sCons (sSet 4 (eB gIx (eV 0) (eV 3)))
  (sCons (sIf (bB gGe (eV 4) (eB gPow (eC (.int 10)) (eC (.int 18)))) (sCons (sFor (iR1 (eC (.int 60))) (gN 5) (sCons (sIf (bAnd (bB gGt (eV 4) (eC (.int 0))) (bB gLt (eA gLen (aC (eV 2) aN)) (eV 1))) (sCons (sEx (eMt "list" gApp (eV 2) (aC (eB gMod (eA gInt (aC (eV 4) aN)) (eC (.int 1000))) aN)))
  (sCons (sSet 4 (eB gDiv (eV 4) (eC (.int 1000))))
  sNil)) sNil)
  sNil))
  sNil) (sCons (sFor (iR1 (eC (.int 4))) (gN 5) (sCons (sIf (bB gLt (eA gLen (aC (eV 2) aN)) (eV 1)) (sCons (sEx (eMt "list" gApp (eV 2) (aC (eCall 2 m__law_mix (aC (eV 4) (aC (eB gAdd (eB gMul (eC (.int 64)) (eV 5)) (eV 3)) aN))) aN)))
  sNil) sNil)
  sNil))
  sNil))
  sNil)))
  (sCons (sRet (eDic (pC (eC (.str [114, 111, 119])) (eV 2) (pC (eC (.str [97, 116])) (eC (.int 0)) (pC (eC (.str [115, 101, 101, 100])) (eB gAdd (eA gSum (aC (eV 2) aN)) (eA gLen (aC (eV 2) aN))) pN)))))
  sNil)))
theorem sc__law_stream : FnScope ["script", "most", "row", "k", "rest", "j"] ["script", "most"] (defScope s__law_stream) := ⟨rfl, rfl, rfl, by decide +kernel, rfl, by decide +kernel, by decide +kernel⟩
theorem w__law_stream (T : Txt K mg) : FnOk P w K mg base CX0 2 T.a__law_stream T.fd__law_stream ["script", "most"] (spD K m__law_stream 2) := by
  refine ok_def (k := 1) T.F__law_stream sc__law_stream rfl rfl (by decide) fun cdv A outer sh H E hr => ?_
  have sc := sc__law_stream
  have hu1 := hu_of hr
  have hu64 := hr.units
  have hu65 := hu65_of hr
  exact (dss_cons (ds_set (i := 2) sc.nd rfl (by first | exact .inl rfl | exact .inr rfl) (de_lst da_nil))
  (dss_cons (ds_for PassesOwn.never rfl (di_r1 rfl T.m_range (de_B _ _ (cMin rfl) (by decide +kernel) T.m_min (da_cons (de_B _ _ cLen (by decide +kernel) T.m_len (da_cons (de_v (pv 0)) da_nil)) (da_cons de_int da_nil)))) (dg_n (i := 3) sc.nd rfl (by first | exact .inl rfl | exact .inr rfl)) (dss_cons (ds_set (i := 4) sc.nd rfl (by first | exact .inl rfl | exact .inr rfl) (de_ix2 (de_v (pv 0)) (de_v (pv 3)) hu1))
  (dss_cons (ds_if (dt_ge (de_v (pv 4)) (de_pow de_int de_int)) (dss_cons (ds_for PassesOwn.never rfl (di_r1 rfl T.m_range de_int) (dg_n (i := 5) sc.nd rfl (by first | exact .inl rfl | exact .inr rfl)) (dss_cons (ds_if (dt_w (dw_and (dt_gt (de_v (pv 4)) de_int) (dw_and1 (dt_lt (de_B _ _ cLen (by decide +kernel) T.m_len (da_cons (de_v (pv 2)) da_nil)) (de_v (pv 1)))))) (dss_cons (ds_ex (de_app (de_v (pv 2)) (de_mod (de_T _ _ cInt (by decide +kernel) T.m_int (da_cons (de_v (pv 4)) da_nil)) de_int)))
  (dss_cons (ds_set (i := 4) sc.nd rfl (by first | exact .inl rfl | exact .inr rfl) (de_div (de_v (pv 4)) de_int))
  dss_nil)) dss_nil)
  dss_nil))
  dss_nil) (dss_cons (ds_for PassesOwn.never rfl (di_r1 rfl T.m_range de_int) (dg_n (i := 5) sc.nd rfl (by first | exact .inl rfl | exact .inr rfl)) (dss_cons (ds_if (dt_lt (de_B _ _ cLen (by decide +kernel) T.m_len (da_cons (de_v (pv 2)) da_nil)) (de_v (pv 1))) (dss_cons (ds_ex (de_app (de_v (pv 2)) (de_call ((w__law_mix T).mono (by omega)) hr rfl T.g__law_mix T.F__law_mix.kp T.b__law_mix (da_cons (de_v (pv 4)) (da_cons (de_add (de_mul de_int (de_v (pv 5))) (de_v (pv 3))) da_nil)))))
  dss_nil) dss_nil)
  dss_nil))
  dss_nil))
  dss_nil)))
  (dss_cons (ds_ret (de_dic (dps_cons (de_str rfl) (de_v (pv 2)) (dps_cons (de_str rfl) de_int (dps_cons (de_str rfl) (de_add (de_B _ _ (cSum rfl) (by decide +kernel) T.m_sum (da_cons (de_v (pv 2)) da_nil)) (de_B _ _ cLen (by decide +kernel) T.m_len (da_cons (de_v (pv 2)) da_nil))) dps_nil))) rfl rfl (by simp) (by decide)))
  dss_nil)))
noncomputable def m__law_pick : Fn := fn 4 2 (sCons (sSet 2 (eB gIx (eV 0) (eC (.str [97, 116]))))
  (sCons (sPut (eV 0) (eC (.str [97, 116])) (eB gAdd (eV 2) (eC (.int 1))))
  (sCons (sSet 3 (eCall 2 m__law_mix (aC (eB gIx (eV 0) (eC (.str [115, 101, 101, 100]))) (aC (eV 2) aN))))
  (sCons (sIf (bB gLt (eV 2) (eA gLen (aC (eB gIx (eV 0) (eC (.str [114, 111, 119]))) aN))) (sCons (sSet 3 (eB gIx (eB gIx (eV 0) (eC (.str [114, 111, 119]))) (eV 2)))
  sNil) sNil)
  (sCons (sRet (eB gMod (eA gInt (aC (eV 3) aN)) (eV 1)))
  sNil)))))
theorem sc__law_pick : FnScope ["draws", "many", "at", "number"] ["draws", "many"] (defScope s__law_pick) := ⟨rfl, rfl, rfl, by decide +kernel, rfl, by decide +kernel, by decide +kernel⟩
theorem w__law_pick (T : Txt K mg) : FnOk P w K mg base CX0 2 T.a__law_pick T.fd__law_pick ["draws", "many"] (spD K m__law_pick 2) := by
  refine ok_def (k := 1) T.F__law_pick sc__law_pick rfl rfl (by decide) fun cdv A outer sh H E hr => ?_
  have sc := sc__law_pick
  have hu1 := hu_of hr
  have hu64 := hr.units
  have hu65 := hu65_of hr
  exact (dss_cons (ds_set (i := 2) sc.nd rfl (by first | exact .inl rfl | exact .inr rfl) (de_ix2 (de_v (pv 0)) (de_str rfl) hu1))
  (dss_cons (ds_put (de_v (pv 0)) (de_str rfl) (de_add (de_v (pv 2)) de_int) hu1)
  (dss_cons (ds_set (i := 3) sc.nd rfl (by first | exact .inl rfl | exact .inr rfl) (de_call ((w__law_mix T).mono (by omega)) hr rfl T.g__law_mix T.F__law_mix.kp T.b__law_mix (da_cons (de_ix2 (de_v (pv 0)) (de_str rfl) hu1) (da_cons (de_v (pv 2)) da_nil))))
  (dss_cons (ds_if (dt_lt (de_v (pv 2)) (de_B _ _ cLen (by decide +kernel) T.m_len (da_cons (de_ix2 (de_v (pv 0)) (de_str rfl) hu1) da_nil))) (dss_cons (ds_set (i := 3) sc.nd rfl (by first | exact .inl rfl | exact .inr rfl) (de_ix2 (de_ix2 (de_v (pv 0)) (de_str rfl) hu1) (de_v (pv 2)) hu1))
  dss_nil) dss_nil)
  (dss_cons (ds_ret (de_mod (de_T _ _ cInt (by decide +kernel) T.m_int (da_cons (de_v (pv 3)) da_nil)) (de_v (pv 1))))
  dss_nil)))))
noncomputable def m__law_letters : Fn := fn 4 2 (sCons (sSet 2 (eC (.str [])))
  (sCons (sFor (iA (eB gIx (eLst (aC (eC (.str [97, 98, 99, 100, 101, 102])) (aC (eC (.str [98, 100, 107, 113, 120, 122])) (aC (eC (.str [109, 110, 111, 112, 114, 115])) (aC (eC (.str [97, 117, 118, 119, 121, 122])) aN))))) (eCall 2 m__law_pick (aC (eV 0) (aC (eC (.int 4)) aN))))) (gN 3) (sCons (sIf (bAnd (bB gLt (eA gLen (aC (eV 2) aN)) (eV 1)) (bB gEq (eCall 2 m__law_pick (aC (eV 0) (aC (eC (.int 2)) aN))) (eC (.int 0)))) (sCons (sSet 2 (eB gAdd (eV 2) (eV 3)))
  sNil) sNil)
  sNil))
  (sCons (sIf (bB gEq (eV 2) (eC (.str []))) (sCons (sRet (eC (.str [98])))
  sNil) sNil)
  (sCons (sRet (eV 2))
  sNil))))
theorem sc__law_letters : FnScope ["draws", "most", "letters", "char"] ["draws", "most"] (defScope s__law_letters) := ⟨rfl, rfl, rfl, by decide +kernel, rfl, by decide +kernel, by decide +kernel⟩
theorem w__law_letters (T : Txt K mg) : FnOk P w K mg base CX0 3 T.a__law_letters T.fd__law_letters ["draws", "most"] (spD K m__law_letters 2) := by
  refine ok_def (k := 2) T.F__law_letters sc__law_letters rfl rfl (by decide) fun cdv A outer sh H E hr => ?_
  have sc := sc__law_letters
  have hu1 := hu_of hr
  have hu64 := hr.units
  have hu65 := hu65_of hr
  exact (dss_cons (ds_set (i := 2) sc.nd rfl (by first | exact .inl rfl | exact .inr rfl) (de_str rfl))
  (dss_cons (ds_for PassesOwn.never rfl (di_a (de_ix2 (de_lst (da_cons (de_str rfl) (da_cons (de_str rfl) (da_cons (de_str rfl) (da_cons (de_str rfl) da_nil))))) (de_call ((w__law_pick T).mono (by omega)) hr rfl T.g__law_pick T.F__law_pick.kp T.b__law_pick (da_cons (de_v (pv 0)) (da_cons de_int da_nil))) hu1)) (dg_n (i := 3) sc.nd rfl (by first | exact .inl rfl | exact .inr rfl)) (dss_cons (ds_if (dt_w (dw_and (dt_lt (de_B _ _ cLen (by decide +kernel) T.m_len (da_cons (de_v (pv 2)) da_nil)) (de_v (pv 1))) (dw_and1 (dt_eq hu64 (de_call ((w__law_pick T).mono (by omega)) hr rfl T.g__law_pick T.F__law_pick.kp T.b__law_pick (da_cons (de_v (pv 0)) (da_cons de_int da_nil))) de_int)))) (dss_cons (ds_set (i := 2) sc.nd rfl (by first | exact .inl rfl | exact .inr rfl) (de_add (de_v (pv 2)) (de_v (pv 3))))
  dss_nil) dss_nil)
  dss_nil))
  (dss_cons (ds_if (dt_eq hu64 (de_v (pv 2)) (de_str rfl)) (dss_cons (ds_ret (de_str rfl))
  dss_nil) dss_nil)
  (dss_cons (ds_ret (de_v (pv 2)))
  dss_nil))))
noncomputable def m__law_set : Fn := fn 8 3 (sCons (sSet 3 (eB gAdd (eC (.int 1)) (eCall 2 m__law_pick (aC (eV 0) (aC (eV 2) aN)))))
  (sCons (sSet 4 (eLst aN))
  (sCons (sFor (iR1 (eV 3)) (gN 5) (sCons (sEx (eMt "list" gApp (eV 4) (aC (eA gTuple (aC (eLc (iA (eV 1)) (gN 7) bYes (eB gIx (eLst (aC (eA gMin (aC (eB gAdd (eV 5) (eC (.int 1))) (aC (eB gSub (eV 3) (eC (.int 1))) aN))) (aC (eCall 2 m__law_pick (aC (eV 0) (aC (eV 3) aN))) (aC (eCall 2 m__law_pick (aC (eV 0) (aC (eB gAdd (eV 5) (eC (.int 1))) aN))) aN)))) (eCall 2 m__law_pick (aC (eV 0) (aC (eC (.int 3)) aN)))) [7]) aN)) aN)))
  sNil))
  (sCons (sSet 6 (eB gSub (eB gSub (eV 3) (eC (.int 1))) (eB gMul (eCall 2 m__law_pick (aC (eV 0) (aC (eC (.int 2)) aN))) (eCall 2 m__law_pick (aC (eV 0) (aC (eV 3) aN))))))
  (sCons (sRet (eTup (aC (eC (.str [115, 101, 116])) (aC (eV 1) (aC (eA gTuple (aC (eV 4) aN)) (aC (eA gTuple (aC (eLc (iR1 (eV 3)) (gN 5) bYes (eAnd (eB gEq (eV 5) (eV 6)) (eB gGt (eCall 2 m__law_pick (aC (eV 0) (aC (eC (.int 9)) aN))) (eC (.int 0)))) [5]) aN)) aN))))))
  sNil)))))
theorem sc__law_set : FnScope ["draws", "letters", "most", "many", "goals", "state", "last", "char"] ["draws", "letters", "most"] (defScope s__law_set) := ⟨rfl, rfl, rfl, by decide +kernel, rfl, by decide +kernel, by decide +kernel⟩
theorem w__law_set (T : Txt K mg) : FnOk P w K mg base CX0 3 T.a__law_set T.fd__law_set ["draws", "letters", "most"] (spD K m__law_set 3) := by
  refine ok_def (k := 2) T.F__law_set sc__law_set rfl rfl (by decide) fun cdv A outer sh H E hr => ?_
  have sc := sc__law_set
  have hu1 := hu_of hr
  have hu64 := hr.units
  have hu65 := hu65_of hr
  exact (dss_cons (ds_set (i := 3) sc.nd rfl (by first | exact .inl rfl | exact .inr rfl) (de_add de_int (de_call ((w__law_pick T).mono (by omega)) hr rfl T.g__law_pick T.F__law_pick.kp T.b__law_pick (da_cons (de_v (pv 0)) (da_cons (de_v (pv 2)) da_nil)))))
  (dss_cons (ds_set (i := 4) sc.nd rfl (by first | exact .inl rfl | exact .inr rfl) (de_lst da_nil))
  (dss_cons (ds_for PassesOwn.never rfl (di_r1 rfl T.m_range (de_v (pv 3))) (dg_n (i := 5) sc.nd rfl (by first | exact .inl rfl | exact .inr rfl)) (dss_cons (ds_ex (de_app (de_v (pv 4)) (de_T _ _ cTuple (by decide +kernel) T.m_tuple (da_cons (de_lc (own := [("char", 7)]) [7] rfl sc.nd (di_a (de_v (pv 1))) (blkOk_by (own := [("char", 7)]) (N := ["draws", "letters", "most", "many", "goals", "state", "last", "char"]) (sc := defScope s__law_set) (by decide +kernel)) (fun _ _ _ _ _ => (dg_n (i := 7) sc.nd rfl (by first | exact .inl rfl | exact .inr rfl))) (fun _ _ _ _ _ => dts_nil) (fun _ _ _ _ _ => (de_ix2 (de_lst (da_cons (de_B _ _ (cMin rfl) (by decide +kernel) T.m_min (da_cons (de_add (de_v (pv 5)) de_int) (da_cons (de_sub (de_v (pv 3)) de_int) da_nil))) (da_cons (de_call ((w__law_pick T).mono (by omega)) hr rfl T.g__law_pick T.F__law_pick.kp T.b__law_pick (da_cons (de_v (pv 0)) (da_cons (de_v (pv 3)) da_nil))) (da_cons (de_call ((w__law_pick T).mono (by omega)) hr rfl T.g__law_pick T.F__law_pick.kp T.b__law_pick (da_cons (de_v (pv 0)) (da_cons (de_add (de_v (pv 5)) de_int) da_nil))) da_nil)))) (de_call ((w__law_pick T).mono (by omega)) hr rfl T.g__law_pick T.F__law_pick.kp T.b__law_pick (da_cons (de_v (pv 0)) (da_cons de_int da_nil))) hu1)) rfl (by decide)) da_nil))))
  dss_nil))
  (dss_cons (ds_set (i := 6) sc.nd rfl (by first | exact .inl rfl | exact .inr rfl) (de_sub (de_sub (de_v (pv 3)) de_int) (de_mul (de_call ((w__law_pick T).mono (by omega)) hr rfl T.g__law_pick T.F__law_pick.kp T.b__law_pick (da_cons (de_v (pv 0)) (da_cons de_int da_nil))) (de_call ((w__law_pick T).mono (by omega)) hr rfl T.g__law_pick T.F__law_pick.kp T.b__law_pick (da_cons (de_v (pv 0)) (da_cons (de_v (pv 3)) da_nil))))))
  (dss_cons (ds_ret (de_tup (da_cons (de_str rfl) (da_cons (de_v (pv 1)) (da_cons (de_T _ _ cTuple (by decide +kernel) T.m_tuple (da_cons (de_v (pv 4)) da_nil)) (da_cons (de_T _ _ cTuple (by decide +kernel) T.m_tuple (da_cons (de_lc (own := [("state", 5)]) [5] rfl sc.nd (di_r1 rfl T.m_range (de_v (pv 3))) (blkOk_by (own := [("state", 5)]) (N := ["draws", "letters", "most", "many", "goals", "state", "last", "char"]) (sc := defScope s__law_set) (by decide +kernel)) (fun _ _ _ _ _ => (dg_n (i := 5) sc.nd rfl (by first | exact .inl rfl | exact .inr rfl))) (fun _ _ _ _ _ => dts_nil) (fun _ _ _ _ _ => (de_and (de_eq hu64 (de_v (pv 5)) (de_v (pv 6))) (de_one (de_gt (de_call ((w__law_pick T).mono (by omega)) hr rfl T.g__law_pick T.F__law_pick.kp T.b__law_pick (da_cons (de_v (pv 0)) (da_cons de_int da_nil))) de_int)))) rfl (by decide)) da_nil)) da_nil))))))
  dss_nil)))))
noncomputable def m__law_first : Fn := fn 9 1 (sCons (sSet 1 (eLst (aC (eTup (aC (eC (.str [])) (aC (eC (.int 0)) aN))) aN)))
  (sCons (sSet 2 (eLst (aC (eC (.int 0)) aN)))
  (sCons (sFor (iR1 (eA gLen (aC (eB gIx (eV 0) (eC (.int 2))) aN))) (gN 3) (sCons (sSet 4 (eLst aN))
  (sCons (sFor (iA (eV 1)) (gT (gsC (gN 5) (gsC (gN 6) gsN))) (sCons (sIf (bV (eB gIx (eB gIx (eV 0) (eC (.int 3))) (eV 6))) (sCons (sRet (eV 5))
  sNil) sNil)
  (sCons (sFor (iR1 (eA gLen (aC (eB gIx (eV 0) (eC (.int 1))) aN))) (gN 7) (sCons (sSet 8 (eB gIx (eB gIx (eB gIx (eV 0) (eC (.int 2))) (eV 6)) (eV 7)))
  (sCons (sIf (bB gNin (eV 8) (eV 2)) (sCons (sEx (eMt "list" gApp (eV 2) (aC (eV 8) aN)))
  (sCons (sEx (eMt "list" gApp (eV 4) (aC (eTup (aC (eB gAdd (eV 5) (eB gIx (eB gIx (eV 0) (eC (.int 1))) (eV 7))) (aC (eV 8) aN))) aN)))
  sNil)) sNil)
  sNil)))
  sNil)))
  (sCons (sSet 1 (eV 4))
  sNil))))
  (sCons (sRet (eC .non))
  sNil))))
theorem sc__law_first : FnScope ["machine", "row", "met", "size", "longer", "text", "state", "k", "goal"] ["machine"] (defScope s__law_first) := ⟨rfl, rfl, rfl, by decide +kernel, rfl, by decide +kernel, by decide +kernel⟩
theorem w__law_first (T : Txt K mg) : FnOk P w K mg base CX0 1 T.a__law_first T.fd__law_first ["machine"] (spD K m__law_first 1) := by
  refine ok_def (k := 0) T.F__law_first sc__law_first rfl rfl (by decide) fun cdv A outer sh H E hr => ?_
  have sc := sc__law_first
  have hu1 := hu_of hr
  have hu64 := hr.units
  have hu65 := hu65_of hr
  exact (dss_cons (ds_set (i := 1) sc.nd rfl (by first | exact .inl rfl | exact .inr rfl) (de_lst (da_cons (de_tup (da_cons (de_str rfl) (da_cons de_int da_nil))) da_nil)))
  (dss_cons (ds_set (i := 2) sc.nd rfl (by first | exact .inl rfl | exact .inr rfl) (de_lst (da_cons de_int da_nil)))
  (dss_cons (ds_for PassesOwn.never rfl (di_r1 rfl T.m_range (de_B _ _ cLen (by decide +kernel) T.m_len (da_cons (de_ix2 (de_v (pv 0)) de_int hu1) da_nil))) (dg_n (i := 3) sc.nd rfl (by first | exact .inl rfl | exact .inr rfl)) (dss_cons (ds_set (i := 4) sc.nd rfl (by first | exact .inl rfl | exact .inr rfl) (de_lst da_nil))
  (dss_cons (ds_for PassesOwn.never rfl (di_a (de_v (pv 1))) (dg_t rfl (dgs_cons (dg_n (i := 5) sc.nd rfl (by first | exact .inl rfl | exact .inr rfl)) (dgs_cons (dg_n (i := 6) sc.nd rfl (by first | exact .inl rfl | exact .inr rfl)) dgs_nil)) rfl rfl (gslc (gslc gsl0))) (dss_cons (ds_if (dt_v (de_ix2 (de_ix2 (de_v (pv 0)) de_int hu1) (de_v (pv 6)) hu1) (fun _ => rfl)) (dss_cons (ds_ret (de_v (pv 5)))
  dss_nil) dss_nil)
  (dss_cons (ds_for PassesOwn.never rfl (di_r1 rfl T.m_range (de_B _ _ cLen (by decide +kernel) T.m_len (da_cons (de_ix2 (de_v (pv 0)) de_int hu1) da_nil))) (dg_n (i := 7) sc.nd rfl (by first | exact .inl rfl | exact .inr rfl)) (dss_cons (ds_set (i := 8) sc.nd rfl (by first | exact .inl rfl | exact .inr rfl) (de_ix2 (de_ix2 (de_ix2 (de_v (pv 0)) de_int hu1) (de_v (pv 6)) hu1) (de_v (pv 7)) hu1))
  (dss_cons (ds_if (dt_nin hu65 (de_v (pv 8)) (de_v (pv 2))) (dss_cons (ds_ex (de_app (de_v (pv 2)) (de_v (pv 8))))
  (dss_cons (ds_ex (de_app (de_v (pv 4)) (de_tup (da_cons (de_add (de_v (pv 5)) (de_ix2 (de_ix2 (de_v (pv 0)) de_int hu1) (de_v (pv 7)) hu1)) (da_cons (de_v (pv 8)) da_nil)))))
  dss_nil)) dss_nil)
  dss_nil)))
  dss_nil)))
  (dss_cons (ds_set (i := 1) sc.nd rfl (by first | exact .inl rfl | exact .inr rfl) (de_v (pv 4)))
  dss_nil))))
  (dss_cons (ds_ret de_non)
  dss_nil))))
noncomputable def m__law_tried : Fn := fn 8 2 (sCons (sSet 2 (eLst (aC (eTup (aC (eC (.str [])) (aC (eC (.int 0)) aN))) aN)))
  (sCons (sFor (iR1 (eB gAdd (eV 1) (eC (.int 1)))) (gN 3) (sCons (sFor (iA (eV 2)) (gT (gsC (gN 4) (gsC (gN 5) gsN))) (sCons (sIf (bV (eB gIx (eB gIx (eV 0) (eC (.int 3))) (eV 5))) (sCons (sRet (eV 4))
  sNil) sNil)
  sNil))
  (sCons (sSet 6 (eLst aN))
  (sCons (sFor (iA (eV 2)) (gT (gsC (gN 4) (gsC (gN 5) gsN))) (sCons (sSet 6 (eB gAdd (eV 6) (eLc (iR1 (eA gLen (aC (eB gIx (eV 0) (eC (.int 1))) aN))) (gN 7) bYes (eTup (aC (eB gAdd (eV 4) (eB gIx (eB gIx (eV 0) (eC (.int 1))) (eV 7))) (aC (eB gIx (eB gIx (eB gIx (eV 0) (eC (.int 2))) (eV 5)) (eV 7)) aN))) [7])))
  sNil))
  (sCons (sSet 2 (eV 6))
  sNil)))))
  (sCons (sRet (eC .non))
  sNil)))
theorem sc__law_tried : FnScope ["machine", "most", "row", "size", "text", "state", "longer", "k"] ["machine", "most"] (defScope s__law_tried) := ⟨rfl, rfl, rfl, by decide +kernel, rfl, by decide +kernel, by decide +kernel⟩
theorem w__law_tried (T : Txt K mg) : FnOk P w K mg base CX0 1 T.a__law_tried T.fd__law_tried ["machine", "most"] (spD K m__law_tried 2) := by
  refine ok_def (k := 0) T.F__law_tried sc__law_tried rfl rfl (by decide) fun cdv A outer sh H E hr => ?_
  have sc := sc__law_tried
  have hu1 := hu_of hr
  have hu64 := hr.units
  have hu65 := hu65_of hr
  exact (dss_cons (ds_set (i := 2) sc.nd rfl (by first | exact .inl rfl | exact .inr rfl) (de_lst (da_cons (de_tup (da_cons (de_str rfl) (da_cons de_int da_nil))) da_nil)))
  (dss_cons (ds_for PassesOwn.never rfl (di_r1 rfl T.m_range (de_add (de_v (pv 1)) de_int)) (dg_n (i := 3) sc.nd rfl (by first | exact .inl rfl | exact .inr rfl)) (dss_cons (ds_for PassesOwn.never rfl (di_a (de_v (pv 2))) (dg_t rfl (dgs_cons (dg_n (i := 4) sc.nd rfl (by first | exact .inl rfl | exact .inr rfl)) (dgs_cons (dg_n (i := 5) sc.nd rfl (by first | exact .inl rfl | exact .inr rfl)) dgs_nil)) rfl rfl (gslc (gslc gsl0))) (dss_cons (ds_if (dt_v (de_ix2 (de_ix2 (de_v (pv 0)) de_int hu1) (de_v (pv 5)) hu1) (fun _ => rfl)) (dss_cons (ds_ret (de_v (pv 4)))
  dss_nil) dss_nil)
  dss_nil))
  (dss_cons (ds_set (i := 6) sc.nd rfl (by first | exact .inl rfl | exact .inr rfl) (de_lst da_nil))
  (dss_cons (ds_for PassesOwn.never rfl (di_a (de_v (pv 2))) (dg_t rfl (dgs_cons (dg_n (i := 4) sc.nd rfl (by first | exact .inl rfl | exact .inr rfl)) (dgs_cons (dg_n (i := 5) sc.nd rfl (by first | exact .inl rfl | exact .inr rfl)) dgs_nil)) rfl rfl (gslc (gslc gsl0))) (dss_cons (ds_set (i := 6) sc.nd rfl (by first | exact .inl rfl | exact .inr rfl) (de_add (de_v (pv 6)) (de_lc (own := [("k", 7)]) [7] rfl sc.nd (di_r1 rfl T.m_range (de_B _ _ cLen (by decide +kernel) T.m_len (da_cons (de_ix2 (de_v (pv 0)) de_int hu1) da_nil))) (blkOk_by (own := [("k", 7)]) (N := ["machine", "most", "row", "size", "text", "state", "longer", "k"]) (sc := defScope s__law_tried) (by decide +kernel)) (fun _ _ _ _ _ => (dg_n (i := 7) sc.nd rfl (by first | exact .inl rfl | exact .inr rfl))) (fun _ _ _ _ _ => dts_nil) (fun _ _ _ _ _ => (de_tup (da_cons (de_add (de_v (pv 4)) (de_ix2 (de_ix2 (de_v (pv 0)) de_int hu1) (de_v (pv 7)) hu1)) (da_cons (de_ix2 (de_ix2 (de_ix2 (de_v (pv 0)) de_int hu1) (de_v (pv 5)) hu1) (de_v (pv 7)) hu1) da_nil)))) rfl (by decide))))
  dss_nil))
  (dss_cons (ds_set (i := 2) sc.nd rfl (by first | exact .inl rfl | exact .inr rfl) (de_v (pv 6)))
  dss_nil)))))
  (dss_cons (ds_ret de_non)
  dss_nil)))
noncomputable def m_law : Fn := fn 6 1 (sCons (sSet 1 (eCall 2 m__law_stream (aC (eV 0) (aC (eC (.int 200)) aN))))
  (sCons (sFor (iR1 (eC (.int 2))) (gN 2) (sCons (sSet 3 (eCall 3 m__law_set (aC (eV 1) (aC (eCall 2 m__law_letters (aC (eV 1) (aC (eC (.int 3)) aN))) (aC (eC (.int 7)) aN)))))
  (sCons (sSet 4 (eCall 1 m_shortest (aC (eV 3) aN)))
  (sCons (sIf (bB gNe (eV 4) (eCall 1 m__law_first (aC (eV 3) aN))) (sCons (sRet (eC (.bl false)))
  sNil) sNil)
  (sCons (sSet 5 (eCall 2 m__law_tried (aC (eV 3) (aC (eC (.int 4)) aN))))
  (sCons (sIf (bOr (bAnd (bB gIsN (eV 5) (eC .non)) (bB gNe (eV 4) (eV 5))) (bAnd (bB gIs (eV 5) (eC .non)) (bAnd (bB gIsN (eV 4) (eC .non)) (bB gLt (eA gLen (aC (eV 4) aN)) (eC (.int 5)))))) (sCons (sRet (eC (.bl false)))
  sNil) sNil)
  (sCons (sIf (bAnd (bB gIsN (eV 4) (eC .non)) (bB gIsN (eCall 2 m_contains (aC (eV 3) (aC (eV 4) aN))) (eC (.bl true)))) (sCons (sRet (eC (.bl false)))
  sNil) sNil)
  sNil)))))))
  (sCons (sRet (eC (.bl true)))
  sNil)))
theorem sc_law : FnScope ["script", "draws", "turn", "machine", "told", "tried"] ["script"] (defScope s_law) := ⟨rfl, rfl, rfl, by decide +kernel, rfl, by decide +kernel, by decide +kernel⟩
theorem w_law (T : Txt K mg) : FnOk P w K mg base CX0 4 T.a_law T.fd_law ["script"] (spD K m_law 1) := by
  refine ok_def (k := 3) T.F_law sc_law rfl rfl (by decide) fun cdv A outer sh H E hr => ?_
  have sc := sc_law
  have hu1 := hu_of hr
  have hu64 := hr.units
  have hu65 := hu65_of hr
  exact (dss_cons (ds_set (i := 1) sc.nd rfl (by first | exact .inl rfl | exact .inr rfl) (de_call ((w__law_stream T).mono (by omega)) hr rfl T.g__law_stream T.F__law_stream.kp T.b__law_stream (da_cons (de_v (pv 0)) (da_cons de_int da_nil))))
  (dss_cons (ds_for PassesOwn.never rfl (di_r1 rfl T.m_range de_int) (dg_n (i := 2) sc.nd rfl (by first | exact .inl rfl | exact .inr rfl)) (dss_cons (ds_set (i := 3) sc.nd rfl (by first | exact .inl rfl | exact .inr rfl) (de_call ((w__law_set T).mono (by omega)) hr rfl T.g__law_set T.F__law_set.kp T.b__law_set (da_cons (de_v (pv 1)) (da_cons (de_call ((w__law_letters T).mono (by omega)) hr rfl T.g__law_letters T.F__law_letters.kp T.b__law_letters (da_cons (de_v (pv 1)) (da_cons de_int da_nil))) (da_cons de_int da_nil)))))
  (dss_cons (ds_set (i := 4) sc.nd rfl (by first | exact .inl rfl | exact .inr rfl) (de_call ((w_shortest T).mono (by omega)) hr rfl T.g_shortest T.F_shortest.kp T.b_shortest (da_cons (de_v (pv 3)) da_nil)))
  (dss_cons (ds_if (dt_ne hu64 (de_v (pv 4)) (de_call ((w__law_first T).mono (by omega)) hr rfl T.g__law_first T.F__law_first.kp T.b__law_first (da_cons (de_v (pv 3)) da_nil))) (dss_cons (ds_ret de_bl)
  dss_nil) dss_nil)
  (dss_cons (ds_set (i := 5) sc.nd rfl (by first | exact .inl rfl | exact .inr rfl) (de_call ((w__law_tried T).mono (by omega)) hr rfl T.g__law_tried T.F__law_tried.kp T.b__law_tried (da_cons (de_v (pv 3)) (da_cons de_int da_nil))))
  (dss_cons (ds_if (dt_w (dw_or (dt_w (dw_and (dt_isn (de_v (pv 5)) de_non) (dw_and1 (dt_ne hu64 (de_v (pv 4)) (de_v (pv 5)))))) (dw_or1 (dt_w (dw_and (dt_is (de_v (pv 5)) de_non) (dw_and (dt_isn (de_v (pv 4)) de_non) (dw_and1 (dt_lt (de_B _ _ cLen (by decide +kernel) T.m_len (da_cons (de_v (pv 4)) da_nil)) de_int)))))))) (dss_cons (ds_ret de_bl)
  dss_nil) dss_nil)
  (dss_cons (ds_if (dt_w (dw_and (dt_isn (de_v (pv 4)) de_non) (dw_and1 (dt_isn (de_call ((w_contains T).mono (by omega)) hr rfl T.g_contains T.F_contains.kp T.b_contains (da_cons (de_v (pv 3)) (da_cons (de_v (pv 4)) da_nil))) de_bl)))) (dss_cons (ds_ret de_bl)
  dss_nil) dss_nil)
  dss_nil)))))))
  (dss_cons (ds_ret de_bl)
  dss_nil)))
end
theorem all_mk {l : PySem.W.OpenLaw} {w : World} {K : PySem.W.Frag} {h : Heap} {mg : Str → Option Value} {fa : Addr} (X : K.In h) (G : h.Ns mainGlobals mg) (hfa : mg "law" = some (.ref fa))
    {f0 : Addr} {od0 an0 : Option Addr} {sl0 : Array (Option Value)} {oc0 kV0 dc0 pm0 cd0 ct0 : Value}
    {f1 : Addr} {od1 an1 : Option Addr} {sl1 : Array (Option Value)} {oc1 kV1 dc1 pm1 cd1 ct1 : Value}
    {f2 : Addr} {od2 an2 : Option Addr} {sl2 : Array (Option Value)} {oc2 kV2 dc2 pm2 cd2 ct2 : Value}
    {f3 : Addr} {od3 an3 : Option Addr} {sl3 : Array (Option Value)} {oc3 kV3 dc3 pm3 cd3 ct3 : Value}
    {f4 : Addr} {od4 an4 : Option Addr} {sl4 : Array (Option Value)} {oc4 kV4 dc4 pm4 cd4 ct4 : Value}
    {f5 : Addr} {od5 an5 : Option Addr} {sl5 : Array (Option Value)} {oc5 kV5 dc5 pm5 cd5 ct5 : Value}
    {f6 : Addr} {od6 an6 : Option Addr} {sl6 : Array (Option Value)} {oc6 kV6 dc6 pm6 cd6 ct6 : Value}
    {f7 : Addr} {od7 an7 : Option Addr} {sl7 : Array (Option Value)} {oc7 kV7 dc7 pm7 cd7 ct7 : Value}
    {f8 : Addr} {od8 an8 : Option Addr} {sl8 : Array (Option Value)} {oc8 kV8 dc8 pm8 cd8 ct8 : Value}
    {f9 : Addr} {od9 an9 : Option Addr} {sl9 : Array (Option Value)} {oc9 kV9 dc9 pm9 cd9 ct9 : Value}
    (a0 : PySem.W.nsIn K mainGlobals "contains" = some (some (.ref f0))) (l0 : K.lookup f0 = some ⟨oc0, od0, .func (PySem.W.fnOf "contains" "contains" (defArgs s_contains) (defBody s_contains) (defScope s_contains) .none kV0 dc0 pm0 an0 cd0 ct0), sl0⟩) (c0 : PySem.W.codeIn K cd0 "contains" = true) (k0 : PySem.W.keepIn K (.ref f0) = true)
    (a1 : PySem.W.nsIn K mainGlobals "shortest" = some (some (.ref f1))) (l1 : K.lookup f1 = some ⟨oc1, od1, .func (PySem.W.fnOf "shortest" "shortest" (defArgs s_shortest) (defBody s_shortest) (defScope s_shortest) .none kV1 dc1 pm1 an1 cd1 ct1), sl1⟩) (c1 : PySem.W.codeIn K cd1 "shortest" = true) (k1 : PySem.W.keepIn K (.ref f1) = true)
    (a2 : PySem.W.nsIn K mainGlobals "_law_mix" = some (some (.ref f2))) (l2 : K.lookup f2 = some ⟨oc2, od2, .func (PySem.W.fnOf "_law_mix" "_law_mix" (defArgs s__law_mix) (defBody s__law_mix) (defScope s__law_mix) .none kV2 dc2 pm2 an2 cd2 ct2), sl2⟩) (c2 : PySem.W.codeIn K cd2 "_law_mix" = true) (k2 : PySem.W.keepIn K (.ref f2) = true)
    (a3 : PySem.W.nsIn K mainGlobals "_law_stream" = some (some (.ref f3))) (l3 : K.lookup f3 = some ⟨oc3, od3, .func (PySem.W.fnOf "_law_stream" "_law_stream" (defArgs s__law_stream) (defBody s__law_stream) (defScope s__law_stream) .none kV3 dc3 pm3 an3 cd3 ct3), sl3⟩) (c3 : PySem.W.codeIn K cd3 "_law_stream" = true) (k3 : PySem.W.keepIn K (.ref f3) = true)
    (a4 : PySem.W.nsIn K mainGlobals "_law_pick" = some (some (.ref f4))) (l4 : K.lookup f4 = some ⟨oc4, od4, .func (PySem.W.fnOf "_law_pick" "_law_pick" (defArgs s__law_pick) (defBody s__law_pick) (defScope s__law_pick) .none kV4 dc4 pm4 an4 cd4 ct4), sl4⟩) (c4 : PySem.W.codeIn K cd4 "_law_pick" = true) (k4 : PySem.W.keepIn K (.ref f4) = true)
    (a5 : PySem.W.nsIn K mainGlobals "_law_letters" = some (some (.ref f5))) (l5 : K.lookup f5 = some ⟨oc5, od5, .func (PySem.W.fnOf "_law_letters" "_law_letters" (defArgs s__law_letters) (defBody s__law_letters) (defScope s__law_letters) .none kV5 dc5 pm5 an5 cd5 ct5), sl5⟩) (c5 : PySem.W.codeIn K cd5 "_law_letters" = true) (k5 : PySem.W.keepIn K (.ref f5) = true)
    (a6 : PySem.W.nsIn K mainGlobals "_law_set" = some (some (.ref f6))) (l6 : K.lookup f6 = some ⟨oc6, od6, .func (PySem.W.fnOf "_law_set" "_law_set" (defArgs s__law_set) (defBody s__law_set) (defScope s__law_set) .none kV6 dc6 pm6 an6 cd6 ct6), sl6⟩) (c6 : PySem.W.codeIn K cd6 "_law_set" = true) (k6 : PySem.W.keepIn K (.ref f6) = true)
    (a7 : PySem.W.nsIn K mainGlobals "_law_first" = some (some (.ref f7))) (l7 : K.lookup f7 = some ⟨oc7, od7, .func (PySem.W.fnOf "_law_first" "_law_first" (defArgs s__law_first) (defBody s__law_first) (defScope s__law_first) .none kV7 dc7 pm7 an7 cd7 ct7), sl7⟩) (c7 : PySem.W.codeIn K cd7 "_law_first" = true) (k7 : PySem.W.keepIn K (.ref f7) = true)
    (a8 : PySem.W.nsIn K mainGlobals "_law_tried" = some (some (.ref f8))) (l8 : K.lookup f8 = some ⟨oc8, od8, .func (PySem.W.fnOf "_law_tried" "_law_tried" (defArgs s__law_tried) (defBody s__law_tried) (defScope s__law_tried) .none kV8 dc8 pm8 an8 cd8 ct8), sl8⟩) (c8 : PySem.W.codeIn K cd8 "_law_tried" = true) (k8 : PySem.W.keepIn K (.ref f8) = true)
    (a9 : PySem.W.nsIn K mainGlobals "law" = some (some (.ref f9))) (l9 : K.lookup f9 = some ⟨oc9, od9, .func (PySem.W.fnOf "law" "law" (defArgs s_law) (defBody s_law) (defScope s_law) .none kV9 dc9 pm9 an9 cd9 ct9), sl9⟩) (c9 : PySem.W.codeIn K cd9 "law" = true) (k9 : PySem.W.keepIn K (.ref f9) = true)
    (z0 : PySem.W.nsIn K mainGlobals "int" = some none)
    (z1 : PySem.W.nsIn K mainGlobals "len" = some none)
    (z2 : PySem.W.nsIn K mainGlobals "min" = some none)
    (z3 : PySem.W.nsIn K mainGlobals "range" = some none)
    (z4 : PySem.W.nsIn K mainGlobals "sum" = some none)
    (z5 : PySem.W.nsIn K mainGlobals "tuple" = some none)
    : ∃ fd : FuncData, (∀ (s : Shared) (v : Value), BindsTo s fd ⟨[v], []⟩ [("script", v)]) ∧ ∀ base : Heap, K.In base → base.Ns mainGlobals mg → FnOk l.prog w K mg base CX0 4 fa fd ["script"] (spD K m_law 1) := by
  have e := hfa.symm.trans (PySem.W.mg_of X G a9)
  cases e
  have F0 := fun_mk (st := s_contains) l0 c0 k0
  have B0 := F0.binds (ps := ["machine", "text"]) fun _ _ _ _ _ _ us hl => match us, hl with | [_, _], _ => rfl
  have F1 := fun_mk (st := s_shortest) l1 c1 k1
  have B1 := F1.binds (ps := ["machine"]) fun _ _ _ _ _ _ us hl => match us, hl with | [_], _ => rfl
  have F2 := fun_mk (st := s__law_mix) l2 c2 k2
  have B2 := F2.binds (ps := ["cell", "k"]) fun _ _ _ _ _ _ us hl => match us, hl with | [_, _], _ => rfl
  have F3 := fun_mk (st := s__law_stream) l3 c3 k3
  have B3 := F3.binds (ps := ["script", "most"]) fun _ _ _ _ _ _ us hl => match us, hl with | [_, _], _ => rfl
  have F4 := fun_mk (st := s__law_pick) l4 c4 k4
  have B4 := F4.binds (ps := ["draws", "many"]) fun _ _ _ _ _ _ us hl => match us, hl with | [_, _], _ => rfl
  have F5 := fun_mk (st := s__law_letters) l5 c5 k5
  have B5 := F5.binds (ps := ["draws", "most"]) fun _ _ _ _ _ _ us hl => match us, hl with | [_, _], _ => rfl
  have F6 := fun_mk (st := s__law_set) l6 c6 k6
  have B6 := F6.binds (ps := ["draws", "letters", "most"]) fun _ _ _ _ _ _ us hl => match us, hl with | [_, _, _], _ => rfl
  have F7 := fun_mk (st := s__law_first) l7 c7 k7
  have B7 := F7.binds (ps := ["machine"]) fun _ _ _ _ _ _ us hl => match us, hl with | [_], _ => rfl
  have F8 := fun_mk (st := s__law_tried) l8 c8 k8
  have B8 := F8.binds (ps := ["machine", "most"]) fun _ _ _ _ _ _ us hl => match us, hl with | [_, _], _ => rfl
  have F9 := fun_mk (st := s_law) l9 c9 k9
  have B9 := F9.binds (ps := ["script"]) fun _ _ _ _ _ _ us hl => match us, hl with | [_], _ => rfl
  let T : Txt K mg := ⟨_, _, F0, B0, PySem.W.mg_of X G a0, _, _, F1, B1, PySem.W.mg_of X G a1, _, _, F2, B2, PySem.W.mg_of X G a2, _, _, F3, B3, PySem.W.mg_of X G a3, _, _, F4, B4, PySem.W.mg_of X G a4, _, _, F5, B5, PySem.W.mg_of X G a5, _, _, F6, B6, PySem.W.mg_of X G a6, _, _, F7, B7, PySem.W.mg_of X G a7, _, _, F8, B8, PySem.W.mg_of X G a8, _, _, F9, B9, PySem.W.mg_of X G a9, PySem.W.mg_none_of X G z0, PySem.W.mg_none_of X G z1, PySem.W.mg_none_of X G z2, PySem.W.mg_none_of X G z3, PySem.W.mg_none_of X G z4, PySem.W.mg_none_of X G z5⟩
  exact ⟨_, fun s v => .of_eq rfl, fun base _ _ => w_law T⟩
end L_k05
set_option maxHeartbeats 4000000
namespace L_k05
open PySem PySem.Spec PyProof.Rows L2 T3
theorem pick_is : m__law_pick = c_pick := rfl
theorem stream_is : m__law_stream = c_stream 4 := rfl
theorem letters_is : m__law_letters = c_letters := rfl
theorem contains_is : m_contains = c_contains := rfl
theorem set_D (e : Dw) (a : Nat) (L : Sto) {ls : List Nat} (hl : ls.length ≤ 3) : Wp (m__law_set [.ref e.d, .str ls, .int 7] (W e a L [])) fun w s => Hd (∃ goals ends b, w = setV ls goals ends ∧ s = W e b L [] ∧ WF ls goals ends ∧ goals.length ≤ 7) := by
  unfold m__law_set
  rw [pick_is]
  refine wp_fn rfl ?_
  (repeat (first | with_reducible refine we_c ?_ | ((with_reducible refine we_v (w := ?_) ?_ ?_); rotate_left; · rfl) | with_reducible refine we_b ?_ | with_reducible refine we_a ?_ | with_reducible refine wa_c ?_ | with_reducible refine wa_n ?_ | with_reducible refine we_mt ?_ | with_reducible refine we_call ?_ | with_reducible refine we_tup ?_ | with_reducible refine we_lstW ?_ | with_reducible refine we_u ?_ | with_reducible refine we_not ?_ | with_reducible refine we_if ?_ | with_reducible refine we_and ?_ | with_reducible refine we_or ?_ | with_reducible refine we_cut ?_ | with_reducible refine wo_n ?_ | with_reducible refine wo_s ?_ | with_reducible refine wb_b ?_ | with_reducible refine wb_v ?_ | with_reducible refine wb_o ?_ | with_reducible refine wb_and ?_ | with_reducible refine wb_or ?_ | with_reducible refine wb_not ?_ | with_reducible refine wb_yes ?_ | with_reducible refine we_ch ?_ | with_reducible refine wx_n ?_ | with_reducible refine wx_c ?_ | with_reducible refine ss_n ?_ | with_reducible refine ss_c ?_ | with_reducible refine ss_set ?_ | with_reducible refine ss_ex ?_ | with_reducible refine ss_ret ?_ | with_reducible refine ss_retN ?_ | with_reducible refine ss_bk ?_ | with_reducible refine ss_ct ?_ | with_reducible refine ss_if ?_ | with_reducible refine ss_asg ?_ | with_reducible refine ss_put ?_ | with_reducible refine ss_for ?_ | with_reducible refine wi_a ?_ | with_reducible refine wi_r1 ?_ | with_reducible refine wi_r2 ?_ | with_reducible refine wp_ai ?_ | with_reducible refine wp_si ?_ | ((with_reducible refine wp_ml ?_ ?_); · decide) | ((with_reducible refine wp_mr ?_ ?_); · decide) | ((with_reducible refine wp_md ?_ ?_); · decide) | with_reducible refine wp_ng ?_ | with_reducible refine wp_eqi ?_ | with_reducible refine wp_eqs ?_ | with_reducible refine wp_eqb ?_ | with_reducible refine wp_nei ?_ | with_reducible refine wp_nes ?_ | with_reducible refine wp_neb ?_ | with_reducible refine wp_lt ?_ | with_reducible refine wp_le ?_ | with_reducible refine wp_gt ?_ | with_reducible refine wp_ge ?_ | with_reducible refine wp_isn ?_ | with_reducible refine wp_isnn ?_ | with_reducible refine wp_isb ?_ | with_reducible refine wp_isnb ?_ | with_reducible refine wp_int ?_ | with_reducible refine wp_min ?_ | with_reducible refine wp_max ?_ | with_reducible refine wp_lent ?_ | ((with_reducible refine wp_ixt (w := ?_) ?_ ?_); rotate_left; · rfl) | with_reducible refine wp_cutT ?_ | with_reducible refine wp_tupZ ?_ | with_reducible refine If.n ?_ | ((with_reducible refine If_tr ?_ ?_); · rfl) | ((with_reducible refine If_fa ?_ ?_); · rfl) | with_reducible refine ex_bl ?_ | with_reducible refine ex_int ?_ | with_reducible refine ex_int2 ?_ | with_reducible refine inW_mk ?_ | ((with_reducible refine ex_some (y := ?_) ?_ ?_); rotate_left; · rfl) | ((with_reducible refine and_len ?_ ?_); · rfl) | ((with_reducible refine and_hty ?_ ?_); · rfl) | ((with_reducible refine and_le ?_ ?_); · exact Nat.le_of_ble_eq_true rfl) | ((with_reducible refine and_bd ?_ ?_); · first | decide | omega)))
  refine wp_pick (by first | decide | omega) fun x b h0 h1 => ?_
  obtain ⟨n, hn⟩ : ∃ n : Nat, 1 + x = (n : Int) := ⟨(1 + x).toNat, by omega⟩
  have hn1 : 1 ≤ n ∧ n ≤ 7 := by omega
  (repeat (first | with_reducible refine we_c ?_ | ((with_reducible refine we_v (w := ?_) ?_ ?_); rotate_left; · rfl) | with_reducible refine we_b ?_ | with_reducible refine we_a ?_ | with_reducible refine wa_c ?_ | with_reducible refine wa_n ?_ | with_reducible refine we_mt ?_ | with_reducible refine we_call ?_ | with_reducible refine we_tup ?_ | with_reducible refine we_lstW ?_ | with_reducible refine we_u ?_ | with_reducible refine we_not ?_ | with_reducible refine we_if ?_ | with_reducible refine we_and ?_ | with_reducible refine we_or ?_ | with_reducible refine we_cut ?_ | with_reducible refine wo_n ?_ | with_reducible refine wo_s ?_ | with_reducible refine wb_b ?_ | with_reducible refine wb_v ?_ | with_reducible refine wb_o ?_ | with_reducible refine wb_and ?_ | with_reducible refine wb_or ?_ | with_reducible refine wb_not ?_ | with_reducible refine wb_yes ?_ | with_reducible refine we_ch ?_ | with_reducible refine wx_n ?_ | with_reducible refine wx_c ?_ | with_reducible refine ss_n ?_ | with_reducible refine ss_c ?_ | with_reducible refine ss_set ?_ | with_reducible refine ss_ex ?_ | with_reducible refine ss_ret ?_ | with_reducible refine ss_retN ?_ | with_reducible refine ss_bk ?_ | with_reducible refine ss_ct ?_ | with_reducible refine ss_if ?_ | with_reducible refine ss_asg ?_ | with_reducible refine ss_put ?_ | with_reducible refine ss_for ?_ | with_reducible refine wi_a ?_ | with_reducible refine wi_r1 ?_ | with_reducible refine wi_r2 ?_ | with_reducible refine wp_ai ?_ | with_reducible refine wp_si ?_ | ((with_reducible refine wp_ml ?_ ?_); · decide) | ((with_reducible refine wp_mr ?_ ?_); · decide) | ((with_reducible refine wp_md ?_ ?_); · decide) | with_reducible refine wp_ng ?_ | with_reducible refine wp_eqi ?_ | with_reducible refine wp_eqs ?_ | with_reducible refine wp_eqb ?_ | with_reducible refine wp_nei ?_ | with_reducible refine wp_nes ?_ | with_reducible refine wp_neb ?_ | with_reducible refine wp_lt ?_ | with_reducible refine wp_le ?_ | with_reducible refine wp_gt ?_ | with_reducible refine wp_ge ?_ | with_reducible refine wp_isn ?_ | with_reducible refine wp_isnn ?_ | with_reducible refine wp_isb ?_ | with_reducible refine wp_isnb ?_ | with_reducible refine wp_int ?_ | with_reducible refine wp_min ?_ | with_reducible refine wp_max ?_ | with_reducible refine wp_lent ?_ | ((with_reducible refine wp_ixt (w := ?_) ?_ ?_); rotate_left; · rfl) | with_reducible refine wp_cutT ?_ | with_reducible refine wp_tupZ ?_ | with_reducible refine If.n ?_ | ((with_reducible refine If_tr ?_ ?_); · rfl) | ((with_reducible refine If_fa ?_ ?_); · rfl) | with_reducible refine ex_bl ?_ | with_reducible refine ex_int ?_ | with_reducible refine ex_int2 ?_ | with_reducible refine inW_mk ?_ | ((with_reducible refine ex_some (y := ?_) ?_ ?_); rotate_left; · rfl) | ((with_reducible refine and_len ?_ ?_); · rfl) | ((with_reducible refine and_hty ?_ ?_); · rfl) | ((with_reducible refine and_le ?_ ?_); · exact Nat.le_of_ble_eq_true rfl) | ((with_reducible refine and_bd ?_ ?_); · first | decide | omega)))
  rw [hn]
  clear hn h0 h1 x
  rw [Int.toNat_natCast]
  refine wl_inv (fun i fm st => Hd (∃ gs b x y z M, fm = [some (.ref e.d), some (.str ls), some (.int 7), some (.int n), some (.ref (e.p L + 0)), x, y, z] ∧ st = W e b L M ∧ M[0]? = some (.lst (gs.map rowV)) ∧ gs.length = i ∧ ∀ r ∈ gs, r.length = ls.length ∧ ∀ g ∈ r, g < n)) (fun _ _ _ _ => trivial) (hd ⟨[], _, _, _, _, _, rfl, rfl, rfl, rfl, fun _ h => (List.not_mem_nil h).elim⟩) ?_ ?_
  · rintro i w hw fm st ⟨gs, b, x, y, z, M, rfl, rfl, hM, hgl, hgs⟩
    obtain ⟨rfl, hi⟩ := rng_get hw
    refine ⟨_, rfl, ?_⟩
    (repeat (first | with_reducible refine we_c ?_ | ((with_reducible refine we_v (w := ?_) ?_ ?_); rotate_left; · rfl) | with_reducible refine we_b ?_ | with_reducible refine we_a ?_ | with_reducible refine wa_c ?_ | with_reducible refine wa_n ?_ | with_reducible refine we_mt ?_ | with_reducible refine we_call ?_ | with_reducible refine we_tup ?_ | with_reducible refine we_lstW ?_ | with_reducible refine we_u ?_ | with_reducible refine we_not ?_ | with_reducible refine we_if ?_ | with_reducible refine we_and ?_ | with_reducible refine we_or ?_ | with_reducible refine we_cut ?_ | with_reducible refine wo_n ?_ | with_reducible refine wo_s ?_ | with_reducible refine wb_b ?_ | with_reducible refine wb_v ?_ | with_reducible refine wb_o ?_ | with_reducible refine wb_and ?_ | with_reducible refine wb_or ?_ | with_reducible refine wb_not ?_ | with_reducible refine wb_yes ?_ | with_reducible refine we_ch ?_ | with_reducible refine wx_n ?_ | with_reducible refine wx_c ?_ | with_reducible refine ss_n ?_ | with_reducible refine ss_c ?_ | with_reducible refine ss_set ?_ | with_reducible refine ss_ex ?_ | with_reducible refine ss_ret ?_ | with_reducible refine ss_retN ?_ | with_reducible refine ss_bk ?_ | with_reducible refine ss_ct ?_ | with_reducible refine ss_if ?_ | with_reducible refine ss_asg ?_ | with_reducible refine ss_put ?_ | with_reducible refine ss_for ?_ | with_reducible refine wi_a ?_ | with_reducible refine wi_r1 ?_ | with_reducible refine wi_r2 ?_ | with_reducible refine wp_ai ?_ | with_reducible refine wp_si ?_ | ((with_reducible refine wp_ml ?_ ?_); · decide) | ((with_reducible refine wp_mr ?_ ?_); · decide) | ((with_reducible refine wp_md ?_ ?_); · decide) | with_reducible refine wp_ng ?_ | with_reducible refine wp_eqi ?_ | with_reducible refine wp_eqs ?_ | with_reducible refine wp_eqb ?_ | with_reducible refine wp_nei ?_ | with_reducible refine wp_nes ?_ | with_reducible refine wp_neb ?_ | with_reducible refine wp_lt ?_ | with_reducible refine wp_le ?_ | with_reducible refine wp_gt ?_ | with_reducible refine wp_ge ?_ | with_reducible refine wp_isn ?_ | with_reducible refine wp_isnn ?_ | with_reducible refine wp_isb ?_ | with_reducible refine wp_isnb ?_ | with_reducible refine wp_int ?_ | with_reducible refine wp_min ?_ | with_reducible refine wp_max ?_ | with_reducible refine wp_lent ?_ | ((with_reducible refine wp_ixt (w := ?_) ?_ ?_); rotate_left; · rfl) | with_reducible refine wp_cutT ?_ | with_reducible refine wp_tupZ ?_ | with_reducible refine If.n ?_ | ((with_reducible refine If_tr ?_ ?_); · rfl) | ((with_reducible refine If_fa ?_ ?_); · rfl) | with_reducible refine ex_bl ?_ | with_reducible refine ex_int ?_ | with_reducible refine ex_int2 ?_ | with_reducible refine inW_mk ?_ | ((with_reducible refine ex_some (y := ?_) ?_ ?_); rotate_left; · rfl) | ((with_reducible refine and_len ?_ ?_); · rfl) | ((with_reducible refine and_hty ?_ ?_); · rfl) | ((with_reducible refine and_le ?_ ?_); · exact Nat.le_of_ble_eq_true rfl) | ((with_reducible refine and_bd ?_ ?_); · first | decide | omega)))
    refine and_hty (hty_W hM) ?_
    (repeat (first | with_reducible refine we_c ?_ | ((with_reducible refine we_v (w := ?_) ?_ ?_); rotate_left; · rfl) | with_reducible refine we_b ?_ | with_reducible refine we_a ?_ | with_reducible refine wa_c ?_ | with_reducible refine wa_n ?_ | with_reducible refine we_mt ?_ | with_reducible refine we_call ?_ | with_reducible refine we_tup ?_ | with_reducible refine we_lstW ?_ | with_reducible refine we_u ?_ | with_reducible refine we_not ?_ | with_reducible refine we_if ?_ | with_reducible refine we_and ?_ | with_reducible refine we_or ?_ | with_reducible refine we_cut ?_ | with_reducible refine wo_n ?_ | with_reducible refine wo_s ?_ | with_reducible refine wb_b ?_ | with_reducible refine wb_v ?_ | with_reducible refine wb_o ?_ | with_reducible refine wb_and ?_ | with_reducible refine wb_or ?_ | with_reducible refine wb_not ?_ | with_reducible refine wb_yes ?_ | with_reducible refine we_ch ?_ | with_reducible refine wx_n ?_ | with_reducible refine wx_c ?_ | with_reducible refine ss_n ?_ | with_reducible refine ss_c ?_ | with_reducible refine ss_set ?_ | with_reducible refine ss_ex ?_ | with_reducible refine ss_ret ?_ | with_reducible refine ss_retN ?_ | with_reducible refine ss_bk ?_ | with_reducible refine ss_ct ?_ | with_reducible refine ss_if ?_ | with_reducible refine ss_asg ?_ | with_reducible refine ss_put ?_ | with_reducible refine ss_for ?_ | with_reducible refine wi_a ?_ | with_reducible refine wi_r1 ?_ | with_reducible refine wi_r2 ?_ | with_reducible refine wp_ai ?_ | with_reducible refine wp_si ?_ | ((with_reducible refine wp_ml ?_ ?_); · decide) | ((with_reducible refine wp_mr ?_ ?_); · decide) | ((with_reducible refine wp_md ?_ ?_); · decide) | with_reducible refine wp_ng ?_ | with_reducible refine wp_eqi ?_ | with_reducible refine wp_eqs ?_ | with_reducible refine wp_eqb ?_ | with_reducible refine wp_nei ?_ | with_reducible refine wp_nes ?_ | with_reducible refine wp_neb ?_ | with_reducible refine wp_lt ?_ | with_reducible refine wp_le ?_ | with_reducible refine wp_gt ?_ | with_reducible refine wp_ge ?_ | with_reducible refine wp_isn ?_ | with_reducible refine wp_isnn ?_ | with_reducible refine wp_isb ?_ | with_reducible refine wp_isnb ?_ | with_reducible refine wp_int ?_ | with_reducible refine wp_min ?_ | with_reducible refine wp_max ?_ | with_reducible refine wp_lent ?_ | ((with_reducible refine wp_ixt (w := ?_) ?_ ?_); rotate_left; · rfl) | with_reducible refine wp_cutT ?_ | with_reducible refine wp_tupZ ?_ | with_reducible refine If.n ?_ | ((with_reducible refine If_tr ?_ ?_); · rfl) | ((with_reducible refine If_fa ?_ ?_); · rfl) | with_reducible refine ex_bl ?_ | with_reducible refine ex_int ?_ | with_reducible refine ex_int2 ?_ | with_reducible refine inW_mk ?_ | ((with_reducible refine ex_some (y := ?_) ?_ ?_); rotate_left; · rfl) | ((with_reducible refine and_len ?_ ?_); · rfl) | ((with_reducible refine and_hty ?_ ?_); · rfl) | ((with_reducible refine and_le ?_ ?_); · exact Nat.le_of_ble_eq_true rfl) | ((with_reducible refine and_bd ?_ ?_); · first | decide | omega)))
    refine wp_lcG (ws := strW ls) (fun _ y => ∃ g : Nat, g < n ∧ y = .int g) (gd := fun _ => True) rfl (fun _ _ _ => trivial) (by rw [strW_len]; omega) (fun j w hj => ⟨_, rfl, fun a' X _ => ?_⟩) ?_
    · (repeat (first | with_reducible refine we_c ?_ | ((with_reducible refine we_v (w := ?_) ?_ ?_); rotate_left; · rfl) | with_reducible refine we_b ?_ | with_reducible refine we_a ?_ | with_reducible refine wa_c ?_ | with_reducible refine wa_n ?_ | with_reducible refine we_mt ?_ | with_reducible refine we_call ?_ | with_reducible refine we_tup ?_ | with_reducible refine we_lstW ?_ | with_reducible refine we_u ?_ | with_reducible refine we_not ?_ | with_reducible refine we_if ?_ | with_reducible refine we_and ?_ | with_reducible refine we_or ?_ | with_reducible refine we_cut ?_ | with_reducible refine wo_n ?_ | with_reducible refine wo_s ?_ | with_reducible refine wb_b ?_ | with_reducible refine wb_v ?_ | with_reducible refine wb_o ?_ | with_reducible refine wb_and ?_ | with_reducible refine wb_or ?_ | with_reducible refine wb_not ?_ | with_reducible refine wb_yes ?_ | with_reducible refine we_ch ?_ | with_reducible refine wx_n ?_ | with_reducible refine wx_c ?_ | with_reducible refine ss_n ?_ | with_reducible refine ss_c ?_ | with_reducible refine ss_set ?_ | with_reducible refine ss_ex ?_ | with_reducible refine ss_ret ?_ | with_reducible refine ss_retN ?_ | with_reducible refine ss_bk ?_ | with_reducible refine ss_ct ?_ | with_reducible refine ss_if ?_ | with_reducible refine ss_asg ?_ | with_reducible refine ss_put ?_ | with_reducible refine ss_for ?_ | with_reducible refine wi_a ?_ | with_reducible refine wi_r1 ?_ | with_reducible refine wi_r2 ?_ | with_reducible refine wp_ai ?_ | with_reducible refine wp_si ?_ | ((with_reducible refine wp_ml ?_ ?_); · decide) | ((with_reducible refine wp_mr ?_ ?_); · decide) | ((with_reducible refine wp_md ?_ ?_); · decide) | with_reducible refine wp_ng ?_ | with_reducible refine wp_eqi ?_ | with_reducible refine wp_eqs ?_ | with_reducible refine wp_eqb ?_ | with_reducible refine wp_nei ?_ | with_reducible refine wp_nes ?_ | with_reducible refine wp_neb ?_ | with_reducible refine wp_lt ?_ | with_reducible refine wp_le ?_ | with_reducible refine wp_gt ?_ | with_reducible refine wp_ge ?_ | with_reducible refine wp_isn ?_ | with_reducible refine wp_isnn ?_ | with_reducible refine wp_isb ?_ | with_reducible refine wp_isnb ?_ | with_reducible refine wp_int ?_ | with_reducible refine wp_min ?_ | with_reducible refine wp_max ?_ | with_reducible refine wp_lent ?_ | ((with_reducible refine wp_ixt (w := ?_) ?_ ?_); rotate_left; · rfl) | with_reducible refine wp_cutT ?_ | with_reducible refine wp_tupZ ?_ | with_reducible refine If.n ?_ | ((with_reducible refine If_tr ?_ ?_); · rfl) | ((with_reducible refine If_fa ?_ ?_); · rfl) | with_reducible refine ex_bl ?_ | with_reducible refine ex_int ?_ | with_reducible refine ex_int2 ?_ | with_reducible refine inW_mk ?_ | ((with_reducible refine ex_some (y := ?_) ?_ ?_); rotate_left; · rfl) | ((with_reducible refine and_len ?_ ?_); · rfl) | ((with_reducible refine and_hty ?_ ?_); · rfl) | ((with_reducible refine and_le ?_ ?_); · exact Nat.le_of_ble_eq_true rfl) | ((with_reducible refine and_bd ?_ ?_); · first | decide | omega)))
      refine wp_pick (by omega) fun p pb p0 p1 => ?_
      (repeat (first | with_reducible refine we_c ?_ | ((with_reducible refine we_v (w := ?_) ?_ ?_); rotate_left; · rfl) | with_reducible refine we_b ?_ | with_reducible refine we_a ?_ | with_reducible refine wa_c ?_ | with_reducible refine wa_n ?_ | with_reducible refine we_mt ?_ | with_reducible refine we_call ?_ | with_reducible refine we_tup ?_ | with_reducible refine we_lstW ?_ | with_reducible refine we_u ?_ | with_reducible refine we_not ?_ | with_reducible refine we_if ?_ | with_reducible refine we_and ?_ | with_reducible refine we_or ?_ | with_reducible refine we_cut ?_ | with_reducible refine wo_n ?_ | with_reducible refine wo_s ?_ | with_reducible refine wb_b ?_ | with_reducible refine wb_v ?_ | with_reducible refine wb_o ?_ | with_reducible refine wb_and ?_ | with_reducible refine wb_or ?_ | with_reducible refine wb_not ?_ | with_reducible refine wb_yes ?_ | with_reducible refine we_ch ?_ | with_reducible refine wx_n ?_ | with_reducible refine wx_c ?_ | with_reducible refine ss_n ?_ | with_reducible refine ss_c ?_ | with_reducible refine ss_set ?_ | with_reducible refine ss_ex ?_ | with_reducible refine ss_ret ?_ | with_reducible refine ss_retN ?_ | with_reducible refine ss_bk ?_ | with_reducible refine ss_ct ?_ | with_reducible refine ss_if ?_ | with_reducible refine ss_asg ?_ | with_reducible refine ss_put ?_ | with_reducible refine ss_for ?_ | with_reducible refine wi_a ?_ | with_reducible refine wi_r1 ?_ | with_reducible refine wi_r2 ?_ | with_reducible refine wp_ai ?_ | with_reducible refine wp_si ?_ | ((with_reducible refine wp_ml ?_ ?_); · decide) | ((with_reducible refine wp_mr ?_ ?_); · decide) | ((with_reducible refine wp_md ?_ ?_); · decide) | with_reducible refine wp_ng ?_ | with_reducible refine wp_eqi ?_ | with_reducible refine wp_eqs ?_ | with_reducible refine wp_eqb ?_ | with_reducible refine wp_nei ?_ | with_reducible refine wp_nes ?_ | with_reducible refine wp_neb ?_ | with_reducible refine wp_lt ?_ | with_reducible refine wp_le ?_ | with_reducible refine wp_gt ?_ | with_reducible refine wp_ge ?_ | with_reducible refine wp_isn ?_ | with_reducible refine wp_isnn ?_ | with_reducible refine wp_isb ?_ | with_reducible refine wp_isnb ?_ | with_reducible refine wp_int ?_ | with_reducible refine wp_min ?_ | with_reducible refine wp_max ?_ | with_reducible refine wp_lent ?_ | ((with_reducible refine wp_ixt (w := ?_) ?_ ?_); rotate_left; · rfl) | with_reducible refine wp_cutT ?_ | with_reducible refine wp_tupZ ?_ | with_reducible refine If.n ?_ | ((with_reducible refine If_tr ?_ ?_); · rfl) | ((with_reducible refine If_fa ?_ ?_); · rfl) | with_reducible refine ex_bl ?_ | with_reducible refine ex_int ?_ | with_reducible refine ex_int2 ?_ | with_reducible refine inW_mk ?_ | ((with_reducible refine ex_some (y := ?_) ?_ ?_); rotate_left; · rfl) | ((with_reducible refine and_len ?_ ?_); · rfl) | ((with_reducible refine and_hty ?_ ?_); · rfl) | ((with_reducible refine and_le ?_ ?_); · exact Nat.le_of_ble_eq_true rfl) | ((with_reducible refine and_bd ?_ ?_); · first | decide | omega)))
      refine wp_pick (by omega) fun q qb q0 q1 => ?_
      (repeat (first | with_reducible refine we_c ?_ | ((with_reducible refine we_v (w := ?_) ?_ ?_); rotate_left; · rfl) | with_reducible refine we_b ?_ | with_reducible refine we_a ?_ | with_reducible refine wa_c ?_ | with_reducible refine wa_n ?_ | with_reducible refine we_mt ?_ | with_reducible refine we_call ?_ | with_reducible refine we_tup ?_ | with_reducible refine we_lstW ?_ | with_reducible refine we_u ?_ | with_reducible refine we_not ?_ | with_reducible refine we_if ?_ | with_reducible refine we_and ?_ | with_reducible refine we_or ?_ | with_reducible refine we_cut ?_ | with_reducible refine wo_n ?_ | with_reducible refine wo_s ?_ | with_reducible refine wb_b ?_ | with_reducible refine wb_v ?_ | with_reducible refine wb_o ?_ | with_reducible refine wb_and ?_ | with_reducible refine wb_or ?_ | with_reducible refine wb_not ?_ | with_reducible refine wb_yes ?_ | with_reducible refine we_ch ?_ | with_reducible refine wx_n ?_ | with_reducible refine wx_c ?_ | with_reducible refine ss_n ?_ | with_reducible refine ss_c ?_ | with_reducible refine ss_set ?_ | with_reducible refine ss_ex ?_ | with_reducible refine ss_ret ?_ | with_reducible refine ss_retN ?_ | with_reducible refine ss_bk ?_ | with_reducible refine ss_ct ?_ | with_reducible refine ss_if ?_ | with_reducible refine ss_asg ?_ | with_reducible refine ss_put ?_ | with_reducible refine ss_for ?_ | with_reducible refine wi_a ?_ | with_reducible refine wi_r1 ?_ | with_reducible refine wi_r2 ?_ | with_reducible refine wp_ai ?_ | with_reducible refine wp_si ?_ | ((with_reducible refine wp_ml ?_ ?_); · decide) | ((with_reducible refine wp_mr ?_ ?_); · decide) | ((with_reducible refine wp_md ?_ ?_); · decide) | with_reducible refine wp_ng ?_ | with_reducible refine wp_eqi ?_ | with_reducible refine wp_eqs ?_ | with_reducible refine wp_eqb ?_ | with_reducible refine wp_nei ?_ | with_reducible refine wp_nes ?_ | with_reducible refine wp_neb ?_ | with_reducible refine wp_lt ?_ | with_reducible refine wp_le ?_ | with_reducible refine wp_gt ?_ | with_reducible refine wp_ge ?_ | with_reducible refine wp_isn ?_ | with_reducible refine wp_isnn ?_ | with_reducible refine wp_isb ?_ | with_reducible refine wp_isnb ?_ | with_reducible refine wp_int ?_ | with_reducible refine wp_min ?_ | with_reducible refine wp_max ?_ | with_reducible refine wp_lent ?_ | ((with_reducible refine wp_ixt (w := ?_) ?_ ?_); rotate_left; · rfl) | with_reducible refine wp_cutT ?_ | with_reducible refine wp_tupZ ?_ | with_reducible refine If.n ?_ | ((with_reducible refine If_tr ?_ ?_); · rfl) | ((with_reducible refine If_fa ?_ ?_); · rfl) | with_reducible refine ex_bl ?_ | with_reducible refine ex_int ?_ | with_reducible refine ex_int2 ?_ | with_reducible refine inW_mk ?_ | ((with_reducible refine ex_some (y := ?_) ?_ ?_); rotate_left; · rfl) | ((with_reducible refine and_len ?_ ?_); · rfl) | ((with_reducible refine and_hty ?_ ?_); · rfl) | ((with_reducible refine and_le ?_ ?_); · exact Nat.le_of_ble_eq_true rfl) | ((with_reducible refine and_bd ?_ ?_); · first | decide | omega)))
      refine wp_pick (by first | decide | omega) fun x b h0 h1 => ?_
      refine wp_ixZ rfl h0 h1 fun y hy => ?_
      refine hd ⟨_, _, rfl, pfx1, ?_⟩
      simp only [List.mem_cons, List.not_mem_nil, or_false] at hy
      rcases hy with rfl | rfl | rfl
      · by_cases hc : (n : Int) - 1 < 0 + (i : Int) + 1
        · rw [if_pos hc]
          exact ⟨n - 1, by omega, by congr 1; omega⟩
        · rw [if_neg hc]
          exact ⟨i + 1, by omega, by congr 1; omega⟩
      · exact ⟨p.toNat, by omega, by rw [Int.toNat_of_nonneg p0]⟩
      · exact ⟨q.toNat, by omega, by rw [Int.toNat_of_nonneg q0]⟩
    · intro c ys G hyl hy
      rw [strW_len] at hyl
      obtain ⟨r, rfl, hr⟩ := ys_map (f := fun g : Nat => Va.int g) hy
      rw [List.length_map] at hyl
      (repeat (first | with_reducible refine we_c ?_ | ((with_reducible refine we_v (w := ?_) ?_ ?_); rotate_left; · rfl) | with_reducible refine we_b ?_ | with_reducible refine we_a ?_ | with_reducible refine wa_c ?_ | with_reducible refine wa_n ?_ | with_reducible refine we_mt ?_ | with_reducible refine we_call ?_ | with_reducible refine we_tup ?_ | with_reducible refine we_lstW ?_ | with_reducible refine we_u ?_ | with_reducible refine we_not ?_ | with_reducible refine we_if ?_ | with_reducible refine we_and ?_ | with_reducible refine we_or ?_ | with_reducible refine we_cut ?_ | with_reducible refine wo_n ?_ | with_reducible refine wo_s ?_ | with_reducible refine wb_b ?_ | with_reducible refine wb_v ?_ | with_reducible refine wb_o ?_ | with_reducible refine wb_and ?_ | with_reducible refine wb_or ?_ | with_reducible refine wb_not ?_ | with_reducible refine wb_yes ?_ | with_reducible refine we_ch ?_ | with_reducible refine wx_n ?_ | with_reducible refine wx_c ?_ | with_reducible refine ss_n ?_ | with_reducible refine ss_c ?_ | with_reducible refine ss_set ?_ | with_reducible refine ss_ex ?_ | with_reducible refine ss_ret ?_ | with_reducible refine ss_retN ?_ | with_reducible refine ss_bk ?_ | with_reducible refine ss_ct ?_ | with_reducible refine ss_if ?_ | with_reducible refine ss_asg ?_ | with_reducible refine ss_put ?_ | with_reducible refine ss_for ?_ | with_reducible refine wi_a ?_ | with_reducible refine wi_r1 ?_ | with_reducible refine wi_r2 ?_ | with_reducible refine wp_ai ?_ | with_reducible refine wp_si ?_ | ((with_reducible refine wp_ml ?_ ?_); · decide) | ((with_reducible refine wp_mr ?_ ?_); · decide) | ((with_reducible refine wp_md ?_ ?_); · decide) | with_reducible refine wp_ng ?_ | with_reducible refine wp_eqi ?_ | with_reducible refine wp_eqs ?_ | with_reducible refine wp_eqb ?_ | with_reducible refine wp_nei ?_ | with_reducible refine wp_nes ?_ | with_reducible refine wp_neb ?_ | with_reducible refine wp_lt ?_ | with_reducible refine wp_le ?_ | with_reducible refine wp_gt ?_ | with_reducible refine wp_ge ?_ | with_reducible refine wp_isn ?_ | with_reducible refine wp_isnn ?_ | with_reducible refine wp_isb ?_ | with_reducible refine wp_isnb ?_ | with_reducible refine wp_int ?_ | with_reducible refine wp_min ?_ | with_reducible refine wp_max ?_ | with_reducible refine wp_lent ?_ | ((with_reducible refine wp_ixt (w := ?_) ?_ ?_); rotate_left; · rfl) | with_reducible refine wp_cutT ?_ | with_reducible refine wp_tupZ ?_ | with_reducible refine If.n ?_ | ((with_reducible refine If_tr ?_ ?_); · rfl) | ((with_reducible refine If_fa ?_ ?_); · rfl) | with_reducible refine ex_bl ?_ | with_reducible refine ex_int ?_ | with_reducible refine ex_int2 ?_ | with_reducible refine inW_mk ?_ | ((with_reducible refine ex_some (y := ?_) ?_ ?_); rotate_left; · rfl) | ((with_reducible refine and_len ?_ ?_); · rfl) | ((with_reducible refine and_hty ?_ ?_); · rfl) | ((with_reducible refine and_le ?_ ?_); · exact Nat.le_of_ble_eq_true rfl) | ((with_reducible refine and_bd ?_ ?_); · first | decide | omega)))
      refine wp_tupG ?_
      (repeat (first | with_reducible refine we_c ?_ | ((with_reducible refine we_v (w := ?_) ?_ ?_); rotate_left; · rfl) | with_reducible refine we_b ?_ | with_reducible refine we_a ?_ | with_reducible refine wa_c ?_ | with_reducible refine wa_n ?_ | with_reducible refine we_mt ?_ | with_reducible refine we_call ?_ | with_reducible refine we_tup ?_ | with_reducible refine we_lstW ?_ | with_reducible refine we_u ?_ | with_reducible refine we_not ?_ | with_reducible refine we_if ?_ | with_reducible refine we_and ?_ | with_reducible refine we_or ?_ | with_reducible refine we_cut ?_ | with_reducible refine wo_n ?_ | with_reducible refine wo_s ?_ | with_reducible refine wb_b ?_ | with_reducible refine wb_v ?_ | with_reducible refine wb_o ?_ | with_reducible refine wb_and ?_ | with_reducible refine wb_or ?_ | with_reducible refine wb_not ?_ | with_reducible refine wb_yes ?_ | with_reducible refine we_ch ?_ | with_reducible refine wx_n ?_ | with_reducible refine wx_c ?_ | with_reducible refine ss_n ?_ | with_reducible refine ss_c ?_ | with_reducible refine ss_set ?_ | with_reducible refine ss_ex ?_ | with_reducible refine ss_ret ?_ | with_reducible refine ss_retN ?_ | with_reducible refine ss_bk ?_ | with_reducible refine ss_ct ?_ | with_reducible refine ss_if ?_ | with_reducible refine ss_asg ?_ | with_reducible refine ss_put ?_ | with_reducible refine ss_for ?_ | with_reducible refine wi_a ?_ | with_reducible refine wi_r1 ?_ | with_reducible refine wi_r2 ?_ | with_reducible refine wp_ai ?_ | with_reducible refine wp_si ?_ | ((with_reducible refine wp_ml ?_ ?_); · decide) | ((with_reducible refine wp_mr ?_ ?_); · decide) | ((with_reducible refine wp_md ?_ ?_); · decide) | with_reducible refine wp_ng ?_ | with_reducible refine wp_eqi ?_ | with_reducible refine wp_eqs ?_ | with_reducible refine wp_eqb ?_ | with_reducible refine wp_nei ?_ | with_reducible refine wp_nes ?_ | with_reducible refine wp_neb ?_ | with_reducible refine wp_lt ?_ | with_reducible refine wp_le ?_ | with_reducible refine wp_gt ?_ | with_reducible refine wp_ge ?_ | with_reducible refine wp_isn ?_ | with_reducible refine wp_isnn ?_ | with_reducible refine wp_isb ?_ | with_reducible refine wp_isnb ?_ | with_reducible refine wp_int ?_ | with_reducible refine wp_min ?_ | with_reducible refine wp_max ?_ | with_reducible refine wp_lent ?_ | ((with_reducible refine wp_ixt (w := ?_) ?_ ?_); rotate_left; · rfl) | with_reducible refine wp_cutT ?_ | with_reducible refine wp_tupZ ?_ | with_reducible refine If.n ?_ | ((with_reducible refine If_tr ?_ ?_); · rfl) | ((with_reducible refine If_fa ?_ ?_); · rfl) | with_reducible refine ex_bl ?_ | with_reducible refine ex_int ?_ | with_reducible refine ex_int2 ?_ | with_reducible refine inW_mk ?_ | ((with_reducible refine ex_some (y := ?_) ?_ ?_); rotate_left; · rfl) | ((with_reducible refine and_len ?_ ?_); · rfl) | ((with_reducible refine and_hty ?_ ?_); · rfl) | ((with_reducible refine and_le ?_ ?_); · exact Nat.le_of_ble_eq_true rfl) | ((with_reducible refine and_bd ?_ ?_); · first | decide | omega)))
      refine wp_appW (k := 0) (at_push hM) (by rw [List.length_map, hgl]; omega) ?_
      (repeat (first | with_reducible refine we_c ?_ | ((with_reducible refine we_v (w := ?_) ?_ ?_); rotate_left; · rfl) | with_reducible refine we_b ?_ | with_reducible refine we_a ?_ | with_reducible refine wa_c ?_ | with_reducible refine wa_n ?_ | with_reducible refine we_mt ?_ | with_reducible refine we_call ?_ | with_reducible refine we_tup ?_ | with_reducible refine we_lstW ?_ | with_reducible refine we_u ?_ | with_reducible refine we_not ?_ | with_reducible refine we_if ?_ | with_reducible refine we_and ?_ | with_reducible refine we_or ?_ | with_reducible refine we_cut ?_ | with_reducible refine wo_n ?_ | with_reducible refine wo_s ?_ | with_reducible refine wb_b ?_ | with_reducible refine wb_v ?_ | with_reducible refine wb_o ?_ | with_reducible refine wb_and ?_ | with_reducible refine wb_or ?_ | with_reducible refine wb_not ?_ | with_reducible refine wb_yes ?_ | with_reducible refine we_ch ?_ | with_reducible refine wx_n ?_ | with_reducible refine wx_c ?_ | with_reducible refine ss_n ?_ | with_reducible refine ss_c ?_ | with_reducible refine ss_set ?_ | with_reducible refine ss_ex ?_ | with_reducible refine ss_ret ?_ | with_reducible refine ss_retN ?_ | with_reducible refine ss_bk ?_ | with_reducible refine ss_ct ?_ | with_reducible refine ss_if ?_ | with_reducible refine ss_asg ?_ | with_reducible refine ss_put ?_ | with_reducible refine ss_for ?_ | with_reducible refine wi_a ?_ | with_reducible refine wi_r1 ?_ | with_reducible refine wi_r2 ?_ | with_reducible refine wp_ai ?_ | with_reducible refine wp_si ?_ | ((with_reducible refine wp_ml ?_ ?_); · decide) | ((with_reducible refine wp_mr ?_ ?_); · decide) | ((with_reducible refine wp_md ?_ ?_); · decide) | with_reducible refine wp_ng ?_ | with_reducible refine wp_eqi ?_ | with_reducible refine wp_eqs ?_ | with_reducible refine wp_eqb ?_ | with_reducible refine wp_nei ?_ | with_reducible refine wp_nes ?_ | with_reducible refine wp_neb ?_ | with_reducible refine wp_lt ?_ | with_reducible refine wp_le ?_ | with_reducible refine wp_gt ?_ | with_reducible refine wp_ge ?_ | with_reducible refine wp_isn ?_ | with_reducible refine wp_isnn ?_ | with_reducible refine wp_isb ?_ | with_reducible refine wp_isnb ?_ | with_reducible refine wp_int ?_ | with_reducible refine wp_min ?_ | with_reducible refine wp_max ?_ | with_reducible refine wp_lent ?_ | ((with_reducible refine wp_ixt (w := ?_) ?_ ?_); rotate_left; · rfl) | with_reducible refine wp_cutT ?_ | with_reducible refine wp_tupZ ?_ | with_reducible refine If.n ?_ | ((with_reducible refine If_tr ?_ ?_); · rfl) | ((with_reducible refine If_fa ?_ ?_); · rfl) | with_reducible refine ex_bl ?_ | with_reducible refine ex_int ?_ | with_reducible refine ex_int2 ?_ | with_reducible refine inW_mk ?_ | ((with_reducible refine ex_some (y := ?_) ?_ ?_); rotate_left; · rfl) | ((with_reducible refine and_len ?_ ?_); · rfl) | ((with_reducible refine and_hty ?_ ?_); · rfl) | ((with_reducible refine and_le ?_ ?_); · exact Nat.le_of_ble_eq_true rfl) | ((with_reducible refine and_bd ?_ ?_); · first | decide | omega)))
      exact hd ⟨gs ++ [r], _, _, _, _, _, rfl, rfl, by rw [at_set (at_push hM), List.map_append]; rfl, by simp [hgl], all_snoc hgs ⟨hyl, hr⟩⟩
  · rintro fm st ⟨gs, b, x, y, z, M, rfl, rfl, hM, hgl, hgs⟩
    rw [rng_len] at hgl
    (repeat (first | with_reducible refine we_c ?_ | ((with_reducible refine we_v (w := ?_) ?_ ?_); rotate_left; · rfl) | with_reducible refine we_b ?_ | with_reducible refine we_a ?_ | with_reducible refine wa_c ?_ | with_reducible refine wa_n ?_ | with_reducible refine we_mt ?_ | with_reducible refine we_call ?_ | with_reducible refine we_tup ?_ | with_reducible refine we_lstW ?_ | with_reducible refine we_u ?_ | with_reducible refine we_not ?_ | with_reducible refine we_if ?_ | with_reducible refine we_and ?_ | with_reducible refine we_or ?_ | with_reducible refine we_cut ?_ | with_reducible refine wo_n ?_ | with_reducible refine wo_s ?_ | with_reducible refine wb_b ?_ | with_reducible refine wb_v ?_ | with_reducible refine wb_o ?_ | with_reducible refine wb_and ?_ | with_reducible refine wb_or ?_ | with_reducible refine wb_not ?_ | with_reducible refine wb_yes ?_ | with_reducible refine we_ch ?_ | with_reducible refine wx_n ?_ | with_reducible refine wx_c ?_ | with_reducible refine ss_n ?_ | with_reducible refine ss_c ?_ | with_reducible refine ss_set ?_ | with_reducible refine ss_ex ?_ | with_reducible refine ss_ret ?_ | with_reducible refine ss_retN ?_ | with_reducible refine ss_bk ?_ | with_reducible refine ss_ct ?_ | with_reducible refine ss_if ?_ | with_reducible refine ss_asg ?_ | with_reducible refine ss_put ?_ | with_reducible refine ss_for ?_ | with_reducible refine wi_a ?_ | with_reducible refine wi_r1 ?_ | with_reducible refine wi_r2 ?_ | with_reducible refine wp_ai ?_ | with_reducible refine wp_si ?_ | ((with_reducible refine wp_ml ?_ ?_); · decide) | ((with_reducible refine wp_mr ?_ ?_); · decide) | ((with_reducible refine wp_md ?_ ?_); · decide) | with_reducible refine wp_ng ?_ | with_reducible refine wp_eqi ?_ | with_reducible refine wp_eqs ?_ | with_reducible refine wp_eqb ?_ | with_reducible refine wp_nei ?_ | with_reducible refine wp_nes ?_ | with_reducible refine wp_neb ?_ | with_reducible refine wp_lt ?_ | with_reducible refine wp_le ?_ | with_reducible refine wp_gt ?_ | with_reducible refine wp_ge ?_ | with_reducible refine wp_isn ?_ | with_reducible refine wp_isnn ?_ | with_reducible refine wp_isb ?_ | with_reducible refine wp_isnb ?_ | with_reducible refine wp_int ?_ | with_reducible refine wp_min ?_ | with_reducible refine wp_max ?_ | with_reducible refine wp_lent ?_ | ((with_reducible refine wp_ixt (w := ?_) ?_ ?_); rotate_left; · rfl) | with_reducible refine wp_cutT ?_ | with_reducible refine wp_tupZ ?_ | with_reducible refine If.n ?_ | ((with_reducible refine If_tr ?_ ?_); · rfl) | ((with_reducible refine If_fa ?_ ?_); · rfl) | with_reducible refine ex_bl ?_ | with_reducible refine ex_int ?_ | with_reducible refine ex_int2 ?_ | with_reducible refine inW_mk ?_ | ((with_reducible refine ex_some (y := ?_) ?_ ?_); rotate_left; · rfl) | ((with_reducible refine and_len ?_ ?_); · rfl) | ((with_reducible refine and_hty ?_ ?_); · rfl) | ((with_reducible refine and_le ?_ ?_); · exact Nat.le_of_ble_eq_true rfl) | ((with_reducible refine and_bd ?_ ?_); · first | decide | omega)))
    refine wp_pick (by omega) fun p pb p0 p1 => ?_
    (repeat (first | with_reducible refine we_c ?_ | ((with_reducible refine we_v (w := ?_) ?_ ?_); rotate_left; · rfl) | with_reducible refine we_b ?_ | with_reducible refine we_a ?_ | with_reducible refine wa_c ?_ | with_reducible refine wa_n ?_ | with_reducible refine we_mt ?_ | with_reducible refine we_call ?_ | with_reducible refine we_tup ?_ | with_reducible refine we_lstW ?_ | with_reducible refine we_u ?_ | with_reducible refine we_not ?_ | with_reducible refine we_if ?_ | with_reducible refine we_and ?_ | with_reducible refine we_or ?_ | with_reducible refine we_cut ?_ | with_reducible refine wo_n ?_ | with_reducible refine wo_s ?_ | with_reducible refine wb_b ?_ | with_reducible refine wb_v ?_ | with_reducible refine wb_o ?_ | with_reducible refine wb_and ?_ | with_reducible refine wb_or ?_ | with_reducible refine wb_not ?_ | with_reducible refine wb_yes ?_ | with_reducible refine we_ch ?_ | with_reducible refine wx_n ?_ | with_reducible refine wx_c ?_ | with_reducible refine ss_n ?_ | with_reducible refine ss_c ?_ | with_reducible refine ss_set ?_ | with_reducible refine ss_ex ?_ | with_reducible refine ss_ret ?_ | with_reducible refine ss_retN ?_ | with_reducible refine ss_bk ?_ | with_reducible refine ss_ct ?_ | with_reducible refine ss_if ?_ | with_reducible refine ss_asg ?_ | with_reducible refine ss_put ?_ | with_reducible refine ss_for ?_ | with_reducible refine wi_a ?_ | with_reducible refine wi_r1 ?_ | with_reducible refine wi_r2 ?_ | with_reducible refine wp_ai ?_ | with_reducible refine wp_si ?_ | ((with_reducible refine wp_ml ?_ ?_); · decide) | ((with_reducible refine wp_mr ?_ ?_); · decide) | ((with_reducible refine wp_md ?_ ?_); · decide) | with_reducible refine wp_ng ?_ | with_reducible refine wp_eqi ?_ | with_reducible refine wp_eqs ?_ | with_reducible refine wp_eqb ?_ | with_reducible refine wp_nei ?_ | with_reducible refine wp_nes ?_ | with_reducible refine wp_neb ?_ | with_reducible refine wp_lt ?_ | with_reducible refine wp_le ?_ | with_reducible refine wp_gt ?_ | with_reducible refine wp_ge ?_ | with_reducible refine wp_isn ?_ | with_reducible refine wp_isnn ?_ | with_reducible refine wp_isb ?_ | with_reducible refine wp_isnb ?_ | with_reducible refine wp_int ?_ | with_reducible refine wp_min ?_ | with_reducible refine wp_max ?_ | with_reducible refine wp_lent ?_ | ((with_reducible refine wp_ixt (w := ?_) ?_ ?_); rotate_left; · rfl) | with_reducible refine wp_cutT ?_ | with_reducible refine wp_tupZ ?_ | with_reducible refine If.n ?_ | ((with_reducible refine If_tr ?_ ?_); · rfl) | ((with_reducible refine If_fa ?_ ?_); · rfl) | with_reducible refine ex_bl ?_ | with_reducible refine ex_int ?_ | with_reducible refine ex_int2 ?_ | with_reducible refine inW_mk ?_ | ((with_reducible refine ex_some (y := ?_) ?_ ?_); rotate_left; · rfl) | ((with_reducible refine and_len ?_ ?_); · rfl) | ((with_reducible refine and_hty ?_ ?_); · rfl) | ((with_reducible refine and_le ?_ ?_); · exact Nat.le_of_ble_eq_true rfl) | ((with_reducible refine and_bd ?_ ?_); · first | decide | omega)))
    refine wp_pick (by omega) fun q qb q0 q1 => ?_
    refine wp_mr (by omega) ?_
    (repeat (first | with_reducible refine we_c ?_ | ((with_reducible refine we_v (w := ?_) ?_ ?_); rotate_left; · rfl) | with_reducible refine we_b ?_ | with_reducible refine we_a ?_ | with_reducible refine wa_c ?_ | with_reducible refine wa_n ?_ | with_reducible refine we_mt ?_ | with_reducible refine we_call ?_ | with_reducible refine we_tup ?_ | with_reducible refine we_lstW ?_ | with_reducible refine we_u ?_ | with_reducible refine we_not ?_ | with_reducible refine we_if ?_ | with_reducible refine we_and ?_ | with_reducible refine we_or ?_ | with_reducible refine we_cut ?_ | with_reducible refine wo_n ?_ | with_reducible refine wo_s ?_ | with_reducible refine wb_b ?_ | with_reducible refine wb_v ?_ | with_reducible refine wb_o ?_ | with_reducible refine wb_and ?_ | with_reducible refine wb_or ?_ | with_reducible refine wb_not ?_ | with_reducible refine wb_yes ?_ | with_reducible refine we_ch ?_ | with_reducible refine wx_n ?_ | with_reducible refine wx_c ?_ | with_reducible refine ss_n ?_ | with_reducible refine ss_c ?_ | with_reducible refine ss_set ?_ | with_reducible refine ss_ex ?_ | with_reducible refine ss_ret ?_ | with_reducible refine ss_retN ?_ | with_reducible refine ss_bk ?_ | with_reducible refine ss_ct ?_ | with_reducible refine ss_if ?_ | with_reducible refine ss_asg ?_ | with_reducible refine ss_put ?_ | with_reducible refine ss_for ?_ | with_reducible refine wi_a ?_ | with_reducible refine wi_r1 ?_ | with_reducible refine wi_r2 ?_ | with_reducible refine wp_ai ?_ | with_reducible refine wp_si ?_ | ((with_reducible refine wp_ml ?_ ?_); · decide) | ((with_reducible refine wp_mr ?_ ?_); · decide) | ((with_reducible refine wp_md ?_ ?_); · decide) | with_reducible refine wp_ng ?_ | with_reducible refine wp_eqi ?_ | with_reducible refine wp_eqs ?_ | with_reducible refine wp_eqb ?_ | with_reducible refine wp_nei ?_ | with_reducible refine wp_nes ?_ | with_reducible refine wp_neb ?_ | with_reducible refine wp_lt ?_ | with_reducible refine wp_le ?_ | with_reducible refine wp_gt ?_ | with_reducible refine wp_ge ?_ | with_reducible refine wp_isn ?_ | with_reducible refine wp_isnn ?_ | with_reducible refine wp_isb ?_ | with_reducible refine wp_isnb ?_ | with_reducible refine wp_int ?_ | with_reducible refine wp_min ?_ | with_reducible refine wp_max ?_ | with_reducible refine wp_lent ?_ | ((with_reducible refine wp_ixt (w := ?_) ?_ ?_); rotate_left; · rfl) | with_reducible refine wp_cutT ?_ | with_reducible refine wp_tupZ ?_ | with_reducible refine If.n ?_ | ((with_reducible refine If_tr ?_ ?_); · rfl) | ((with_reducible refine If_fa ?_ ?_); · rfl) | with_reducible refine ex_bl ?_ | with_reducible refine ex_int ?_ | with_reducible refine ex_int2 ?_ | with_reducible refine inW_mk ?_ | ((with_reducible refine ex_some (y := ?_) ?_ ?_); rotate_left; · rfl) | ((with_reducible refine and_len ?_ ?_); · rfl) | ((with_reducible refine and_hty ?_ ?_); · rfl) | ((with_reducible refine and_le ?_ ?_); · exact Nat.le_of_ble_eq_true rfl) | ((with_reducible refine and_bd ?_ ?_); · first | decide | omega)))
    refine wp_tupW (k := 0) hM ?_
    (repeat (first | with_reducible refine we_c ?_ | ((with_reducible refine we_v (w := ?_) ?_ ?_); rotate_left; · rfl) | with_reducible refine we_b ?_ | with_reducible refine we_a ?_ | with_reducible refine wa_c ?_ | with_reducible refine wa_n ?_ | with_reducible refine we_mt ?_ | with_reducible refine we_call ?_ | with_reducible refine we_tup ?_ | with_reducible refine we_lstW ?_ | with_reducible refine we_u ?_ | with_reducible refine we_not ?_ | with_reducible refine we_if ?_ | with_reducible refine we_and ?_ | with_reducible refine we_or ?_ | with_reducible refine we_cut ?_ | with_reducible refine wo_n ?_ | with_reducible refine wo_s ?_ | with_reducible refine wb_b ?_ | with_reducible refine wb_v ?_ | with_reducible refine wb_o ?_ | with_reducible refine wb_and ?_ | with_reducible refine wb_or ?_ | with_reducible refine wb_not ?_ | with_reducible refine wb_yes ?_ | with_reducible refine we_ch ?_ | with_reducible refine wx_n ?_ | with_reducible refine wx_c ?_ | with_reducible refine ss_n ?_ | with_reducible refine ss_c ?_ | with_reducible refine ss_set ?_ | with_reducible refine ss_ex ?_ | with_reducible refine ss_ret ?_ | with_reducible refine ss_retN ?_ | with_reducible refine ss_bk ?_ | with_reducible refine ss_ct ?_ | with_reducible refine ss_if ?_ | with_reducible refine ss_asg ?_ | with_reducible refine ss_put ?_ | with_reducible refine ss_for ?_ | with_reducible refine wi_a ?_ | with_reducible refine wi_r1 ?_ | with_reducible refine wi_r2 ?_ | with_reducible refine wp_ai ?_ | with_reducible refine wp_si ?_ | ((with_reducible refine wp_ml ?_ ?_); · decide) | ((with_reducible refine wp_mr ?_ ?_); · decide) | ((with_reducible refine wp_md ?_ ?_); · decide) | with_reducible refine wp_ng ?_ | with_reducible refine wp_eqi ?_ | with_reducible refine wp_eqs ?_ | with_reducible refine wp_eqb ?_ | with_reducible refine wp_nei ?_ | with_reducible refine wp_nes ?_ | with_reducible refine wp_neb ?_ | with_reducible refine wp_lt ?_ | with_reducible refine wp_le ?_ | with_reducible refine wp_gt ?_ | with_reducible refine wp_ge ?_ | with_reducible refine wp_isn ?_ | with_reducible refine wp_isnn ?_ | with_reducible refine wp_isb ?_ | with_reducible refine wp_isnb ?_ | with_reducible refine wp_int ?_ | with_reducible refine wp_min ?_ | with_reducible refine wp_max ?_ | with_reducible refine wp_lent ?_ | ((with_reducible refine wp_ixt (w := ?_) ?_ ?_); rotate_left; · rfl) | with_reducible refine wp_cutT ?_ | with_reducible refine wp_tupZ ?_ | with_reducible refine If.n ?_ | ((with_reducible refine If_tr ?_ ?_); · rfl) | ((with_reducible refine If_fa ?_ ?_); · rfl) | with_reducible refine ex_bl ?_ | with_reducible refine ex_int ?_ | with_reducible refine ex_int2 ?_ | with_reducible refine inW_mk ?_ | ((with_reducible refine ex_some (y := ?_) ?_ ?_); rotate_left; · rfl) | ((with_reducible refine and_len ?_ ?_); · rfl) | ((with_reducible refine and_hty ?_ ?_); · rfl) | ((with_reducible refine and_le ?_ ?_); · exact Nat.le_of_ble_eq_true rfl) | ((with_reducible refine and_bd ?_ ?_); · first | decide | omega)))
    refine wp_lcD (ws := rngW 0 n) (fun _ y => ∃ g : Bool, True ∧ y = .bl g) (by refine iR1_nat (by rfl) (by omega)) (by rw [rng_len]; omega) (fun j w hj => ⟨_, rfl, fun a' M' _ => ?_⟩) ?_
    · obtain ⟨rfl, hj⟩ := rng_get hj
      (repeat (first | with_reducible refine we_c ?_ | ((with_reducible refine we_v (w := ?_) ?_ ?_); rotate_left; · rfl) | with_reducible refine we_b ?_ | with_reducible refine we_a ?_ | with_reducible refine wa_c ?_ | with_reducible refine wa_n ?_ | with_reducible refine we_mt ?_ | with_reducible refine we_call ?_ | with_reducible refine we_tup ?_ | with_reducible refine we_lstW ?_ | with_reducible refine we_u ?_ | with_reducible refine we_not ?_ | with_reducible refine we_if ?_ | with_reducible refine we_and ?_ | with_reducible refine we_or ?_ | with_reducible refine we_cut ?_ | with_reducible refine wo_n ?_ | with_reducible refine wo_s ?_ | with_reducible refine wb_b ?_ | with_reducible refine wb_v ?_ | with_reducible refine wb_o ?_ | with_reducible refine wb_and ?_ | with_reducible refine wb_or ?_ | with_reducible refine wb_not ?_ | with_reducible refine wb_yes ?_ | with_reducible refine we_ch ?_ | with_reducible refine wx_n ?_ | with_reducible refine wx_c ?_ | with_reducible refine ss_n ?_ | with_reducible refine ss_c ?_ | with_reducible refine ss_set ?_ | with_reducible refine ss_ex ?_ | with_reducible refine ss_ret ?_ | with_reducible refine ss_retN ?_ | with_reducible refine ss_bk ?_ | with_reducible refine ss_ct ?_ | with_reducible refine ss_if ?_ | with_reducible refine ss_asg ?_ | with_reducible refine ss_put ?_ | with_reducible refine ss_for ?_ | with_reducible refine wi_a ?_ | with_reducible refine wi_r1 ?_ | with_reducible refine wi_r2 ?_ | with_reducible refine wp_ai ?_ | with_reducible refine wp_si ?_ | ((with_reducible refine wp_ml ?_ ?_); · decide) | ((with_reducible refine wp_mr ?_ ?_); · decide) | ((with_reducible refine wp_md ?_ ?_); · decide) | with_reducible refine wp_ng ?_ | with_reducible refine wp_eqi ?_ | with_reducible refine wp_eqs ?_ | with_reducible refine wp_eqb ?_ | with_reducible refine wp_nei ?_ | with_reducible refine wp_nes ?_ | with_reducible refine wp_neb ?_ | with_reducible refine wp_lt ?_ | with_reducible refine wp_le ?_ | with_reducible refine wp_gt ?_ | with_reducible refine wp_ge ?_ | with_reducible refine wp_isn ?_ | with_reducible refine wp_isnn ?_ | with_reducible refine wp_isb ?_ | with_reducible refine wp_isnb ?_ | with_reducible refine wp_int ?_ | with_reducible refine wp_min ?_ | with_reducible refine wp_max ?_ | with_reducible refine wp_lent ?_ | ((with_reducible refine wp_ixt (w := ?_) ?_ ?_); rotate_left; · rfl) | with_reducible refine wp_cutT ?_ | with_reducible refine wp_tupZ ?_ | with_reducible refine If.n ?_ | ((with_reducible refine If_tr ?_ ?_); · rfl) | ((with_reducible refine If_fa ?_ ?_); · rfl) | with_reducible refine ex_bl ?_ | with_reducible refine ex_int ?_ | with_reducible refine ex_int2 ?_ | with_reducible refine inW_mk ?_ | ((with_reducible refine ex_some (y := ?_) ?_ ?_); rotate_left; · rfl) | ((with_reducible refine and_len ?_ ?_); · rfl) | ((with_reducible refine and_hty ?_ ?_); · rfl) | ((with_reducible refine and_le ?_ ?_); · exact Nat.le_of_ble_eq_true rfl) | ((with_reducible refine and_bd ?_ ?_); · first | decide | omega)))
      refine If.d (fun _ => ?_) (fun _ => ?_)
      · (repeat (first | with_reducible refine we_c ?_ | ((with_reducible refine we_v (w := ?_) ?_ ?_); rotate_left; · rfl) | with_reducible refine we_b ?_ | with_reducible refine we_a ?_ | with_reducible refine wa_c ?_ | with_reducible refine wa_n ?_ | with_reducible refine we_mt ?_ | with_reducible refine we_call ?_ | with_reducible refine we_tup ?_ | with_reducible refine we_lstW ?_ | with_reducible refine we_u ?_ | with_reducible refine we_not ?_ | with_reducible refine we_if ?_ | with_reducible refine we_and ?_ | with_reducible refine we_or ?_ | with_reducible refine we_cut ?_ | with_reducible refine wo_n ?_ | with_reducible refine wo_s ?_ | with_reducible refine wb_b ?_ | with_reducible refine wb_v ?_ | with_reducible refine wb_o ?_ | with_reducible refine wb_and ?_ | with_reducible refine wb_or ?_ | with_reducible refine wb_not ?_ | with_reducible refine wb_yes ?_ | with_reducible refine we_ch ?_ | with_reducible refine wx_n ?_ | with_reducible refine wx_c ?_ | with_reducible refine ss_n ?_ | with_reducible refine ss_c ?_ | with_reducible refine ss_set ?_ | with_reducible refine ss_ex ?_ | with_reducible refine ss_ret ?_ | with_reducible refine ss_retN ?_ | with_reducible refine ss_bk ?_ | with_reducible refine ss_ct ?_ | with_reducible refine ss_if ?_ | with_reducible refine ss_asg ?_ | with_reducible refine ss_put ?_ | with_reducible refine ss_for ?_ | with_reducible refine wi_a ?_ | with_reducible refine wi_r1 ?_ | with_reducible refine wi_r2 ?_ | with_reducible refine wp_ai ?_ | with_reducible refine wp_si ?_ | ((with_reducible refine wp_ml ?_ ?_); · decide) | ((with_reducible refine wp_mr ?_ ?_); · decide) | ((with_reducible refine wp_md ?_ ?_); · decide) | with_reducible refine wp_ng ?_ | with_reducible refine wp_eqi ?_ | with_reducible refine wp_eqs ?_ | with_reducible refine wp_eqb ?_ | with_reducible refine wp_nei ?_ | with_reducible refine wp_nes ?_ | with_reducible refine wp_neb ?_ | with_reducible refine wp_lt ?_ | with_reducible refine wp_le ?_ | with_reducible refine wp_gt ?_ | with_reducible refine wp_ge ?_ | with_reducible refine wp_isn ?_ | with_reducible refine wp_isnn ?_ | with_reducible refine wp_isb ?_ | with_reducible refine wp_isnb ?_ | with_reducible refine wp_int ?_ | with_reducible refine wp_min ?_ | with_reducible refine wp_max ?_ | with_reducible refine wp_lent ?_ | ((with_reducible refine wp_ixt (w := ?_) ?_ ?_); rotate_left; · rfl) | with_reducible refine wp_cutT ?_ | with_reducible refine wp_tupZ ?_ | with_reducible refine If.n ?_ | ((with_reducible refine If_tr ?_ ?_); · rfl) | ((with_reducible refine If_fa ?_ ?_); · rfl) | with_reducible refine ex_bl ?_ | with_reducible refine ex_int ?_ | with_reducible refine ex_int2 ?_ | with_reducible refine inW_mk ?_ | ((with_reducible refine ex_some (y := ?_) ?_ ?_); rotate_left; · rfl) | ((with_reducible refine and_len ?_ ?_); · rfl) | ((with_reducible refine and_hty ?_ ?_); · rfl) | ((with_reducible refine and_le ?_ ?_); · exact Nat.le_of_ble_eq_true rfl) | ((with_reducible refine and_bd ?_ ?_); · first | decide | omega)))
        refine wp_pick (by first | decide | omega) fun x b h0 h1 => ?_
        (repeat (first | with_reducible refine we_c ?_ | ((with_reducible refine we_v (w := ?_) ?_ ?_); rotate_left; · rfl) | with_reducible refine we_b ?_ | with_reducible refine we_a ?_ | with_reducible refine wa_c ?_ | with_reducible refine wa_n ?_ | with_reducible refine we_mt ?_ | with_reducible refine we_call ?_ | with_reducible refine we_tup ?_ | with_reducible refine we_lstW ?_ | with_reducible refine we_u ?_ | with_reducible refine we_not ?_ | with_reducible refine we_if ?_ | with_reducible refine we_and ?_ | with_reducible refine we_or ?_ | with_reducible refine we_cut ?_ | with_reducible refine wo_n ?_ | with_reducible refine wo_s ?_ | with_reducible refine wb_b ?_ | with_reducible refine wb_v ?_ | with_reducible refine wb_o ?_ | with_reducible refine wb_and ?_ | with_reducible refine wb_or ?_ | with_reducible refine wb_not ?_ | with_reducible refine wb_yes ?_ | with_reducible refine we_ch ?_ | with_reducible refine wx_n ?_ | with_reducible refine wx_c ?_ | with_reducible refine ss_n ?_ | with_reducible refine ss_c ?_ | with_reducible refine ss_set ?_ | with_reducible refine ss_ex ?_ | with_reducible refine ss_ret ?_ | with_reducible refine ss_retN ?_ | with_reducible refine ss_bk ?_ | with_reducible refine ss_ct ?_ | with_reducible refine ss_if ?_ | with_reducible refine ss_asg ?_ | with_reducible refine ss_put ?_ | with_reducible refine ss_for ?_ | with_reducible refine wi_a ?_ | with_reducible refine wi_r1 ?_ | with_reducible refine wi_r2 ?_ | with_reducible refine wp_ai ?_ | with_reducible refine wp_si ?_ | ((with_reducible refine wp_ml ?_ ?_); · decide) | ((with_reducible refine wp_mr ?_ ?_); · decide) | ((with_reducible refine wp_md ?_ ?_); · decide) | with_reducible refine wp_ng ?_ | with_reducible refine wp_eqi ?_ | with_reducible refine wp_eqs ?_ | with_reducible refine wp_eqb ?_ | with_reducible refine wp_nei ?_ | with_reducible refine wp_nes ?_ | with_reducible refine wp_neb ?_ | with_reducible refine wp_lt ?_ | with_reducible refine wp_le ?_ | with_reducible refine wp_gt ?_ | with_reducible refine wp_ge ?_ | with_reducible refine wp_isn ?_ | with_reducible refine wp_isnn ?_ | with_reducible refine wp_isb ?_ | with_reducible refine wp_isnb ?_ | with_reducible refine wp_int ?_ | with_reducible refine wp_min ?_ | with_reducible refine wp_max ?_ | with_reducible refine wp_lent ?_ | ((with_reducible refine wp_ixt (w := ?_) ?_ ?_); rotate_left; · rfl) | with_reducible refine wp_cutT ?_ | with_reducible refine wp_tupZ ?_ | with_reducible refine If.n ?_ | ((with_reducible refine If_tr ?_ ?_); · rfl) | ((with_reducible refine If_fa ?_ ?_); · rfl) | with_reducible refine ex_bl ?_ | with_reducible refine ex_int ?_ | with_reducible refine ex_int2 ?_ | with_reducible refine inW_mk ?_ | ((with_reducible refine ex_some (y := ?_) ?_ ?_); rotate_left; · rfl) | ((with_reducible refine and_len ?_ ?_); · rfl) | ((with_reducible refine and_hty ?_ ?_); · rfl) | ((with_reducible refine and_le ?_ ?_); · exact Nat.le_of_ble_eq_true rfl) | ((with_reducible refine and_bd ?_ ?_); · first | decide | omega)))
        exact ⟨_, rfl, _, trivial, rfl⟩
      · exact ⟨_, rfl, _, trivial, rfl⟩
    · intro c ys hyl hy
      rw [rng_len] at hyl
      obtain ⟨es, rfl, _⟩ := ys_map (f := Va.bl) hy
      rw [List.length_map] at hyl
      (repeat (first | with_reducible refine we_c ?_ | ((with_reducible refine we_v (w := ?_) ?_ ?_); rotate_left; · rfl) | with_reducible refine we_b ?_ | with_reducible refine we_a ?_ | with_reducible refine wa_c ?_ | with_reducible refine wa_n ?_ | with_reducible refine we_mt ?_ | with_reducible refine we_call ?_ | with_reducible refine we_tup ?_ | with_reducible refine we_lstW ?_ | with_reducible refine we_u ?_ | with_reducible refine we_not ?_ | with_reducible refine we_if ?_ | with_reducible refine we_and ?_ | with_reducible refine we_or ?_ | with_reducible refine we_cut ?_ | with_reducible refine wo_n ?_ | with_reducible refine wo_s ?_ | with_reducible refine wb_b ?_ | with_reducible refine wb_v ?_ | with_reducible refine wb_o ?_ | with_reducible refine wb_and ?_ | with_reducible refine wb_or ?_ | with_reducible refine wb_not ?_ | with_reducible refine wb_yes ?_ | with_reducible refine we_ch ?_ | with_reducible refine wx_n ?_ | with_reducible refine wx_c ?_ | with_reducible refine ss_n ?_ | with_reducible refine ss_c ?_ | with_reducible refine ss_set ?_ | with_reducible refine ss_ex ?_ | with_reducible refine ss_ret ?_ | with_reducible refine ss_retN ?_ | with_reducible refine ss_bk ?_ | with_reducible refine ss_ct ?_ | with_reducible refine ss_if ?_ | with_reducible refine ss_asg ?_ | with_reducible refine ss_put ?_ | with_reducible refine ss_for ?_ | with_reducible refine wi_a ?_ | with_reducible refine wi_r1 ?_ | with_reducible refine wi_r2 ?_ | with_reducible refine wp_ai ?_ | with_reducible refine wp_si ?_ | ((with_reducible refine wp_ml ?_ ?_); · decide) | ((with_reducible refine wp_mr ?_ ?_); · decide) | ((with_reducible refine wp_md ?_ ?_); · decide) | with_reducible refine wp_ng ?_ | with_reducible refine wp_eqi ?_ | with_reducible refine wp_eqs ?_ | with_reducible refine wp_eqb ?_ | with_reducible refine wp_nei ?_ | with_reducible refine wp_nes ?_ | with_reducible refine wp_neb ?_ | with_reducible refine wp_lt ?_ | with_reducible refine wp_le ?_ | with_reducible refine wp_gt ?_ | with_reducible refine wp_ge ?_ | with_reducible refine wp_isn ?_ | with_reducible refine wp_isnn ?_ | with_reducible refine wp_isb ?_ | with_reducible refine wp_isnb ?_ | with_reducible refine wp_int ?_ | with_reducible refine wp_min ?_ | with_reducible refine wp_max ?_ | with_reducible refine wp_lent ?_ | ((with_reducible refine wp_ixt (w := ?_) ?_ ?_); rotate_left; · rfl) | with_reducible refine wp_cutT ?_ | with_reducible refine wp_tupZ ?_ | with_reducible refine If.n ?_ | ((with_reducible refine If_tr ?_ ?_); · rfl) | ((with_reducible refine If_fa ?_ ?_); · rfl) | with_reducible refine ex_bl ?_ | with_reducible refine ex_int ?_ | with_reducible refine ex_int2 ?_ | with_reducible refine inW_mk ?_ | ((with_reducible refine ex_some (y := ?_) ?_ ?_); rotate_left; · rfl) | ((with_reducible refine and_len ?_ ?_); · rfl) | ((with_reducible refine and_hty ?_ ?_); · rfl) | ((with_reducible refine and_le ?_ ?_); · exact Nat.le_of_ble_eq_true rfl) | ((with_reducible refine and_bd ?_ ?_); · first | decide | omega)))
      rw [W_fin_f (flat_t fun w hw => ?_)]
      · exact hd ⟨gs, es, _, rfl, rfl, ⟨by omega, by omega, fun r hr => ⟨(hgs r hr).1, fun g hg => by have := (hgs r hr).2 g hg; omega⟩⟩, by omega⟩
      · simp only [List.mem_cons, List.not_mem_nil, or_false] at hw
        rcases hw with rfl | rfl | rfl | rfl
        · rfl
        · rfl
        · exact flat_t fun w hw => by
            obtain ⟨r, _, rfl⟩ := List.mem_map.mp hw
            exact flat_t fun w hw => by
              obtain ⟨r, _, rfl⟩ := List.mem_map.mp hw
              rfl
        · exact flat_t fun w hw => by
            obtain ⟨r, _, rfl⟩ := List.mem_map.mp hw
            rfl
end L_k05
set_option maxHeartbeats 4000000
namespace L_k05
open PySem PySem.Spec PyProof.Rows L2 T3
def dl (goals : List (List Nat)) (q k : Nat) : Nat := ((goals[q]?).bind fun r => r[k]?).getD 0
def acc (ends : List Bool) (q : Nat) : Bool := (ends[q]?).getD false
def txt (ls : List Nat) (w : List Nat) : List Nat := w.map fun k => (ls[k]?).getD 0
theorem txt_snoc {ls w : List Nat} {k c : Nat} (h : ls[k]? = some c) : txt ls (w ++ [k]) = txt ls w ++ [c] := by unfold txt; rw [List.map_append]; simp [h]
theorem goal_at {ls : List Nat} {goals : List (List Nat)} {ends : List Bool} (h : WF ls goals ends) {q k : Nat} (hq : q < goals.length) (hk : k < ls.length) :
    ∃ r, goals[q]? = some r ∧ r[k]? = some (dl goals q k) ∧ dl goals q k < goals.length := by
  have hr := h.row goals[q] (List.getElem_mem hq)
  have e1 : goals[q]? = some goals[q] := List.getElem?_eq_getElem hq
  have e2 : goals[q][k]? = some (goals[q][k]'(by omega)) := List.getElem?_eq_getElem (by omega)
  have e3 : dl goals q k = goals[q][k]'(by omega) := by unfold dl; rw [e1, Option.bind_some, e2]; rfl
  exact ⟨_, e1, by rw [e3]; exact e2, by rw [e3]; exact hr.2 _ (List.getElem_mem _)⟩
theorem run_lt {ls : List Nat} {goals : List (List Nat)} {ends : List Bool} (h : WF ls goals ends) : ∀ (m : Nat) (w : List Nat), w.length = m → Bfs.Wd ls.length w → Bfs.run (dl goals) w < goals.length := by
  intro m
  induction m with
  | zero =>
    intro w hw _
    have : w = [] := List.length_eq_zero_iff.mp hw
    subst this
    exact h.pos
  | succ m ih =>
    intro w hw ww
    rcases Bfs.snoc_cases w with rfl | ⟨v, k, rfl⟩
    · simp at hw
    · rw [Bfs.run_snoc]
      exact (goal_at h (ih v (by simpa using hw) ww.init.1) ww.init.2).choose_spec.2.2
theorem few : ∀ (S : Nat) (l : List Nat), l.Nodup → (∀ x ∈ l, x < S) → l.length ≤ S
  | 0, l, _, h => by
    cases l with
    | nil => exact Nat.le_refl _
    | cons a l => exact absurd (h a (by simp)) (by omega)
  | S + 1, l, hn, h => by
    have h1 := few S (l.erase S) (hn.erase S) fun x hx => by
      rw [hn.mem_erase_iff] at hx
      have := h x hx.2
      have := hx.1
      omega
    by_cases hm : S ∈ l
    · rw [List.length_erase_of_mem hm] at h1; omega
    · rw [List.erase_of_not_mem hm] at h1; omega
def kvs (ls : List Nat) (qu : List (Nat × List Nat)) : List (Key × Va) := qu.map fun p => (.inl (p.1 : Int), .str (txt ls p.2))
def ords (qu : List (Nat × List Nat)) : List Va := qu.map fun p => .int (p.1 : Nat)
theorem kvs_get {ls : List Nat} : ∀ {qu : List (Nat × List Nat)} {i : Nat} {p : Nat × List Nat}, (qu.map (·.1)).Nodup → qu[i]? = some p → dGet (kvs ls qu) (.inl (p.1 : Int)) = some (.str (txt ls p.2))
  | [], _, _, _, h => nomatch h
  | q :: qu, 0, p, _, h => by
    cases h
    simp [dGet, kvs]
  | q :: qu, i + 1, p, hn, h => by
    rw [List.map_cons, List.nodup_cons] at hn
    have ih := kvs_get (ls := ls) hn.2 h
    have hne : ¬ (q.1 : Int) = (p.1 : Int) := fun e => hn.1 (by
      have : q.1 = p.1 := by omega
      rw [this]
      exact List.mem_map.mpr ⟨p, List.mem_of_getElem? h, rfl⟩)
    unfold dGet kvs at ih ⊢
    rw [List.map_cons, List.find?_cons_of_neg (by simpa using hne)]
    exact ih
theorem kvs_none {ls : List Nat} {qu : List (Nat × List Nat)} {g : Nat} (h : g ∉ qu.map (·.1)) : dGet (kvs ls qu) (.inl (g : Int)) = none := by
  unfold dGet kvs
  rw [Option.map_eq_none_iff, List.find?_eq_none]
  intro x hx
  obtain ⟨p, hp, rfl⟩ := List.mem_map.mp hx
  simp only [decide_eq_true_eq]
  intro e
  have e' : (p.1 : Int) = (g : Int) := Sum.inl.inj e
  exact h (List.mem_map.mpr ⟨p, hp, by omega⟩)
theorem kvs_put {ls : List Nat} {qu : List (Nat × List Nat)} {g : Nat} {w : List Nat} (h : g ∉ qu.map (·.1)) : dPut (kvs ls qu) (.inl (g : Int)) (.str (txt ls w)) = kvs ls (qu ++ [(g, w)]) := by
  unfold dPut
  rw [if_neg]
  · simp [kvs]
  · rw [List.any_eq_true]
    rintro ⟨x, hx, e⟩
    obtain ⟨p, hp, rfl⟩ := List.mem_map.mp hx
    simp only [decide_eq_true_eq] at e
    have e' : (p.1 : Int) = (g : Int) := Sum.inl.inj e
    exact h (List.mem_map.mpr ⟨p, hp, by omega⟩)
end L_k05
set_option maxHeartbeats 4000000
namespace L_k05
open PySem PySem.Spec PyProof.Rows L2 T3
theorem dic0 {e : Dw} {a : Nat} {L M : Sto} {fm : Fm} : eDic (pC (eC (.int 0)) (eC (.str [])) pN) fm (W e a L M) = some (.ref (e.p L + M.length), W e a L (M ++ [.dic [(.inl 0, .str [])]])) := by
  have h1 : (W e a L (M ++ [.dic []]))[e.p L + M.length]? = some (.dic []) := by rw [W_get]; simp
  simp only [eDic, pC, eC, pN, Option.bind_some, W_push, W_len, h1, kcs, keyOf, Option.map_some]
  rw [if_pos (by decide), W_set]
  have : (M ++ [Ob.dic []]).set M.length (.dic (mrg [] [(Sum.inl 0, Va.str [])])) = M ++ [.dic [(.inl 0, .str [])]] := by
    simp; rfl
  rw [this]
theorem nin_dic {n : Nat} {ks : List (Key × Va)} {g : Int} {st : Sto} (h : st[n]? = some (.dic ks)) : gNin (.int g) (.ref n) st = some (.bl (!(dGet ks (.inl g)).isSome), st) := by
  have h1 : inS (.int g) (.ref n) st = none := by simp [inS, seqOf, itemsOf, h]
  simp only [gNin, inW, h1, dicIn, h, dicAt, keyOf, Option.map_some]
theorem ix_dic {n : Nat} {ks : List (Key × Va)} {g : Int} {w : Va} {st : Sto} (h : st[n]? = some (.dic ks)) (hg : dGet ks (.inl g) = some w) : gIx (.ref n) (.int g) st = some (w, st) := by
  simp only [gIx, h, dicAt, keyOf, Option.map_some, Option.bind_some, hg]
theorem put_dic {n : Nat} {ks : List (Key × Va)} {g : Int} {w : Va} {st : Sto} (h : st[n]? = some (.dic ks)) (hl : ks.length ≤ 1000) : setW (.ref n) (.int g) w st = some (st.set n (.dic (dPut ks (.inl g) w))) := by
  simp only [setW, h, keyOf, Option.bind_some]
  rw [if_pos (by omega)]
theorem ords_get {qu : List (Nat × List Nat)} {i : Nat} {p : Nat × List Nat} (h : qu[i]? = some p) : atI (ords qu) (i : Int) = some (.int (p.1 : Nat)) := by
  unfold ords
  rw [atI_map, atI_n, h]; rfl
theorem shortest_eq {ls : List Nat} {goals : List (List Nat)} {ends : List Bool} (h : WF ls goals ends) (hl : 1 ≤ ls.length ∧ ls.length ≤ 3) (hS : goals.length ≤ 7) (e : Dw) (a : Nat) (L : Sto) :
    Wp (m_shortest [setV ls goals ends] (W e a L [])) fun w s => Hd (s = W e a L [] ∧ ((∃ t, w = .str (txt ls t) ∧ Bfs.Least ls.length (dl goals) (acc ends) t ∧ t.length ≤ 7) ∨ (w = .non ∧ ∀ u, Bfs.Wd ls.length u → acc ends (Bfs.run (dl goals) u) = false))) := by
  unfold m_shortest
  refine wp_fn rfl ?_
  (repeat (first | with_reducible refine we_c ?_ | ((with_reducible refine we_v (w := ?_) ?_ ?_); rotate_left; · rfl) | with_reducible refine we_b ?_ | with_reducible refine we_a ?_ | with_reducible refine wa_c ?_ | with_reducible refine wa_n ?_ | with_reducible refine we_mt ?_ | with_reducible refine we_call ?_ | with_reducible refine we_tup ?_ | with_reducible refine we_lstW ?_ | with_reducible refine we_u ?_ | with_reducible refine we_not ?_ | with_reducible refine we_if ?_ | with_reducible refine we_and ?_ | with_reducible refine we_or ?_ | with_reducible refine we_cut ?_ | with_reducible refine wo_n ?_ | with_reducible refine wo_s ?_ | with_reducible refine wb_b ?_ | with_reducible refine wb_v ?_ | with_reducible refine wb_o ?_ | with_reducible refine wb_and ?_ | with_reducible refine wb_or ?_ | with_reducible refine wb_not ?_ | with_reducible refine wb_yes ?_ | with_reducible refine we_ch ?_ | with_reducible refine wx_n ?_ | with_reducible refine wx_c ?_ | with_reducible refine ss_n ?_ | with_reducible refine ss_c ?_ | with_reducible refine ss_set ?_ | with_reducible refine ss_ex ?_ | with_reducible refine ss_ret ?_ | with_reducible refine ss_retN ?_ | with_reducible refine ss_bk ?_ | with_reducible refine ss_ct ?_ | with_reducible refine ss_if ?_ | with_reducible refine ss_asg ?_ | with_reducible refine ss_put ?_ | with_reducible refine ss_for ?_ | with_reducible refine wi_a ?_ | with_reducible refine wi_r1 ?_ | with_reducible refine wi_r2 ?_ | with_reducible refine wp_ai ?_ | with_reducible refine wp_si ?_ | ((with_reducible refine wp_ml ?_ ?_); · decide) | ((with_reducible refine wp_mr ?_ ?_); · decide) | ((with_reducible refine wp_md ?_ ?_); · decide) | with_reducible refine wp_ng ?_ | with_reducible refine wp_eqi ?_ | with_reducible refine wp_eqs ?_ | with_reducible refine wp_eqb ?_ | with_reducible refine wp_nei ?_ | with_reducible refine wp_nes ?_ | with_reducible refine wp_neb ?_ | with_reducible refine wp_lt ?_ | with_reducible refine wp_le ?_ | with_reducible refine wp_gt ?_ | with_reducible refine wp_ge ?_ | with_reducible refine wp_isn ?_ | with_reducible refine wp_isnn ?_ | with_reducible refine wp_isb ?_ | with_reducible refine wp_isnb ?_ | with_reducible refine wp_int ?_ | with_reducible refine wp_min ?_ | with_reducible refine wp_max ?_ | with_reducible refine wp_lent ?_ | ((with_reducible refine wp_ixt (w := ?_) ?_ ?_); rotate_left; · rfl) | with_reducible refine wp_cutT ?_ | with_reducible refine wp_tupZ ?_ | with_reducible refine If.n ?_ | ((with_reducible refine If_tr ?_ ?_); · rfl) | ((with_reducible refine If_fa ?_ ?_); · rfl) | with_reducible refine ex_bl ?_ | with_reducible refine ex_int ?_ | with_reducible refine ex_int2 ?_ | with_reducible refine inW_mk ?_ | ((with_reducible refine ex_some (y := ?_) ?_ ?_); rotate_left; · rfl) | ((with_reducible refine and_len ?_ ?_); · rfl) | ((with_reducible refine and_hty ?_ ?_); · rfl) | ((with_reducible refine and_le ?_ ?_); · exact Nat.le_of_ble_eq_true rfl) | ((with_reducible refine and_bd ?_ ?_); · first | decide | omega)))
  refine wp_of dic0 ?_
  (repeat (first | with_reducible refine we_c ?_ | ((with_reducible refine we_v (w := ?_) ?_ ?_); rotate_left; · rfl) | with_reducible refine we_b ?_ | with_reducible refine we_a ?_ | with_reducible refine wa_c ?_ | with_reducible refine wa_n ?_ | with_reducible refine we_mt ?_ | with_reducible refine we_call ?_ | with_reducible refine we_tup ?_ | with_reducible refine we_lstW ?_ | with_reducible refine we_u ?_ | with_reducible refine we_not ?_ | with_reducible refine we_if ?_ | with_reducible refine we_and ?_ | with_reducible refine we_or ?_ | with_reducible refine we_cut ?_ | with_reducible refine wo_n ?_ | with_reducible refine wo_s ?_ | with_reducible refine wb_b ?_ | with_reducible refine wb_v ?_ | with_reducible refine wb_o ?_ | with_reducible refine wb_and ?_ | with_reducible refine wb_or ?_ | with_reducible refine wb_not ?_ | with_reducible refine wb_yes ?_ | with_reducible refine we_ch ?_ | with_reducible refine wx_n ?_ | with_reducible refine wx_c ?_ | with_reducible refine ss_n ?_ | with_reducible refine ss_c ?_ | with_reducible refine ss_set ?_ | with_reducible refine ss_ex ?_ | with_reducible refine ss_ret ?_ | with_reducible refine ss_retN ?_ | with_reducible refine ss_bk ?_ | with_reducible refine ss_ct ?_ | with_reducible refine ss_if ?_ | with_reducible refine ss_asg ?_ | with_reducible refine ss_put ?_ | with_reducible refine ss_for ?_ | with_reducible refine wi_a ?_ | with_reducible refine wi_r1 ?_ | with_reducible refine wi_r2 ?_ | with_reducible refine wp_ai ?_ | with_reducible refine wp_si ?_ | ((with_reducible refine wp_ml ?_ ?_); · decide) | ((with_reducible refine wp_mr ?_ ?_); · decide) | ((with_reducible refine wp_md ?_ ?_); · decide) | with_reducible refine wp_ng ?_ | with_reducible refine wp_eqi ?_ | with_reducible refine wp_eqs ?_ | with_reducible refine wp_eqb ?_ | with_reducible refine wp_nei ?_ | with_reducible refine wp_nes ?_ | with_reducible refine wp_neb ?_ | with_reducible refine wp_lt ?_ | with_reducible refine wp_le ?_ | with_reducible refine wp_gt ?_ | with_reducible refine wp_ge ?_ | with_reducible refine wp_isn ?_ | with_reducible refine wp_isnn ?_ | with_reducible refine wp_isb ?_ | with_reducible refine wp_isnb ?_ | with_reducible refine wp_int ?_ | with_reducible refine wp_min ?_ | with_reducible refine wp_max ?_ | with_reducible refine wp_lent ?_ | ((with_reducible refine wp_ixt (w := ?_) ?_ ?_); rotate_left; · rfl) | with_reducible refine wp_cutT ?_ | with_reducible refine wp_tupZ ?_ | with_reducible refine If.n ?_ | ((with_reducible refine If_tr ?_ ?_); · rfl) | ((with_reducible refine If_fa ?_ ?_); · rfl) | with_reducible refine ex_bl ?_ | with_reducible refine ex_int ?_ | with_reducible refine ex_int2 ?_ | with_reducible refine inW_mk ?_ | ((with_reducible refine ex_some (y := ?_) ?_ ?_); rotate_left; · rfl) | ((with_reducible refine and_len ?_ ?_); · rfl) | ((with_reducible refine and_hty ?_ ?_); · rfl) | ((with_reducible refine and_le ?_ ?_); · exact Nat.le_of_ble_eq_true rfl) | ((with_reducible refine and_bd ?_ ?_); · first | decide | omega)))
  have hsm : ∀ {qu a k}, Bfs.Q ls.length (dl goals) qu a k → qu.length ≤ goals.length := fun {qu a k} hq => by
    have := few goals.length _ hq.nodup fun x hx => by
      obtain ⟨p, hp, rfl⟩ := List.mem_map.mp hx
      obtain ⟨h1, h2⟩ := hq.word p hp
      rw [← h1]
      exact run_lt h _ _ rfl h2
    rwa [List.length_map] at this
  have hlt : ∀ {qu a k p}, Bfs.Q ls.length (dl goals) qu a k → p ∈ qu → p.1 < goals.length := fun {qu a k p} hq hp => by
    obtain ⟨h1, h2⟩ := hq.word p hp
    rw [← h1]
    exact run_lt h _ _ rfl h2
  have hen : ∀ q, q < goals.length → atI (ends.map Va.bl) (q : Int) = some (.bl (acc ends q)) := fun q hq => by
    have he := h.ends
    rw [atI_map, atI_n]
    unfold acc
    rw [List.getElem?_eq_getElem (show q < ends.length by omega)]; rfl
  refine ss_wh (fun m fm st => Hd (∃ qu at' x7 x8 x9, fm = [some (setV ls goals ends), some (.str ls), some (.tup (goals.map rowV)), some (.tup (ends.map .bl)), some (.ref (e.p L + 0)), some (.ref (e.p L + 1)), some (.int (at' : Nat)), x7, x8, x9] ∧ st = W e a L [.lst (ords qu), .dic (kvs ls qu)] ∧
    Bfs.Q ls.length (dl goals) qu at' 0 ∧ (∀ i, i < at' → ∀ q, qu[i]? = some q → acc ends q.1 = false) ∧ m + at' = goals.length ∧ ∀ p ∈ qu, p.2.length < qu.length)) goals.length (hd ⟨[(0, [])], 0, _, _, _, rfl, rfl, Bfs.Q.init _ _ hl.1, fun i hi => by omega, by omega, fun p hp => by simp at hp; subst hp; simp⟩) ?_
  rintro m fm st ⟨qu, at', x7, x8, x9, rfl, rfl, hq, hno, hm, hwl⟩
  have hqs := hsm hq
  (repeat (first | with_reducible refine we_c ?_ | ((with_reducible refine we_v (w := ?_) ?_ ?_); rotate_left; · rfl) | with_reducible refine we_b ?_ | with_reducible refine we_a ?_ | with_reducible refine wa_c ?_ | with_reducible refine wa_n ?_ | with_reducible refine we_mt ?_ | with_reducible refine we_call ?_ | with_reducible refine we_tup ?_ | with_reducible refine we_lstW ?_ | with_reducible refine we_u ?_ | with_reducible refine we_not ?_ | with_reducible refine we_if ?_ | with_reducible refine we_and ?_ | with_reducible refine we_or ?_ | with_reducible refine we_cut ?_ | with_reducible refine wo_n ?_ | with_reducible refine wo_s ?_ | with_reducible refine wb_b ?_ | with_reducible refine wb_v ?_ | with_reducible refine wb_o ?_ | with_reducible refine wb_and ?_ | with_reducible refine wb_or ?_ | with_reducible refine wb_not ?_ | with_reducible refine wb_yes ?_ | with_reducible refine we_ch ?_ | with_reducible refine wx_n ?_ | with_reducible refine wx_c ?_ | with_reducible refine ss_n ?_ | with_reducible refine ss_c ?_ | with_reducible refine ss_set ?_ | with_reducible refine ss_ex ?_ | with_reducible refine ss_ret ?_ | with_reducible refine ss_retN ?_ | with_reducible refine ss_bk ?_ | with_reducible refine ss_ct ?_ | with_reducible refine ss_if ?_ | with_reducible refine ss_asg ?_ | with_reducible refine ss_put ?_ | with_reducible refine ss_for ?_ | with_reducible refine wi_a ?_ | with_reducible refine wi_r1 ?_ | with_reducible refine wi_r2 ?_ | with_reducible refine wp_ai ?_ | with_reducible refine wp_si ?_ | ((with_reducible refine wp_ml ?_ ?_); · decide) | ((with_reducible refine wp_mr ?_ ?_); · decide) | ((with_reducible refine wp_md ?_ ?_); · decide) | with_reducible refine wp_ng ?_ | with_reducible refine wp_eqi ?_ | with_reducible refine wp_eqs ?_ | with_reducible refine wp_eqb ?_ | with_reducible refine wp_nei ?_ | with_reducible refine wp_nes ?_ | with_reducible refine wp_neb ?_ | with_reducible refine wp_lt ?_ | with_reducible refine wp_le ?_ | with_reducible refine wp_gt ?_ | with_reducible refine wp_ge ?_ | with_reducible refine wp_isn ?_ | with_reducible refine wp_isnn ?_ | with_reducible refine wp_isb ?_ | with_reducible refine wp_isnb ?_ | with_reducible refine wp_int ?_ | with_reducible refine wp_min ?_ | with_reducible refine wp_max ?_ | with_reducible refine wp_lent ?_ | ((with_reducible refine wp_ixt (w := ?_) ?_ ?_); rotate_left; · rfl) | with_reducible refine wp_cutT ?_ | with_reducible refine wp_tupZ ?_ | with_reducible refine If.n ?_ | ((with_reducible refine If_tr ?_ ?_); · rfl) | ((with_reducible refine If_fa ?_ ?_); · rfl) | with_reducible refine ex_bl ?_ | with_reducible refine ex_int ?_ | with_reducible refine ex_int2 ?_ | with_reducible refine inW_mk ?_ | ((with_reducible refine ex_some (y := ?_) ?_ ?_); rotate_left; · rfl) | ((with_reducible refine and_len ?_ ?_); · rfl) | ((with_reducible refine and_hty ?_ ?_); · rfl) | ((with_reducible refine and_le ?_ ?_); · exact Nat.le_of_ble_eq_true rfl) | ((with_reducible refine and_bd ?_ ?_); · first | decide | omega)))
  refine wp_lenW (k := 0) rfl ?_
  (repeat (first | with_reducible refine we_c ?_ | ((with_reducible refine we_v (w := ?_) ?_ ?_); rotate_left; · rfl) | with_reducible refine we_b ?_ | with_reducible refine we_a ?_ | with_reducible refine wa_c ?_ | with_reducible refine wa_n ?_ | with_reducible refine we_mt ?_ | with_reducible refine we_call ?_ | with_reducible refine we_tup ?_ | with_reducible refine we_lstW ?_ | with_reducible refine we_u ?_ | with_reducible refine we_not ?_ | with_reducible refine we_if ?_ | with_reducible refine we_and ?_ | with_reducible refine we_or ?_ | with_reducible refine we_cut ?_ | with_reducible refine wo_n ?_ | with_reducible refine wo_s ?_ | with_reducible refine wb_b ?_ | with_reducible refine wb_v ?_ | with_reducible refine wb_o ?_ | with_reducible refine wb_and ?_ | with_reducible refine wb_or ?_ | with_reducible refine wb_not ?_ | with_reducible refine wb_yes ?_ | with_reducible refine we_ch ?_ | with_reducible refine wx_n ?_ | with_reducible refine wx_c ?_ | with_reducible refine ss_n ?_ | with_reducible refine ss_c ?_ | with_reducible refine ss_set ?_ | with_reducible refine ss_ex ?_ | with_reducible refine ss_ret ?_ | with_reducible refine ss_retN ?_ | with_reducible refine ss_bk ?_ | with_reducible refine ss_ct ?_ | with_reducible refine ss_if ?_ | with_reducible refine ss_asg ?_ | with_reducible refine ss_put ?_ | with_reducible refine ss_for ?_ | with_reducible refine wi_a ?_ | with_reducible refine wi_r1 ?_ | with_reducible refine wi_r2 ?_ | with_reducible refine wp_ai ?_ | with_reducible refine wp_si ?_ | ((with_reducible refine wp_ml ?_ ?_); · decide) | ((with_reducible refine wp_mr ?_ ?_); · decide) | ((with_reducible refine wp_md ?_ ?_); · decide) | with_reducible refine wp_ng ?_ | with_reducible refine wp_eqi ?_ | with_reducible refine wp_eqs ?_ | with_reducible refine wp_eqb ?_ | with_reducible refine wp_nei ?_ | with_reducible refine wp_nes ?_ | with_reducible refine wp_neb ?_ | with_reducible refine wp_lt ?_ | with_reducible refine wp_le ?_ | with_reducible refine wp_gt ?_ | with_reducible refine wp_ge ?_ | with_reducible refine wp_isn ?_ | with_reducible refine wp_isnn ?_ | with_reducible refine wp_isb ?_ | with_reducible refine wp_isnb ?_ | with_reducible refine wp_int ?_ | with_reducible refine wp_min ?_ | with_reducible refine wp_max ?_ | with_reducible refine wp_lent ?_ | ((with_reducible refine wp_ixt (w := ?_) ?_ ?_); rotate_left; · rfl) | with_reducible refine wp_cutT ?_ | with_reducible refine wp_tupZ ?_ | with_reducible refine If.n ?_ | ((with_reducible refine If_tr ?_ ?_); · rfl) | ((with_reducible refine If_fa ?_ ?_); · rfl) | with_reducible refine ex_bl ?_ | with_reducible refine ex_int ?_ | with_reducible refine ex_int2 ?_ | with_reducible refine inW_mk ?_ | ((with_reducible refine ex_some (y := ?_) ?_ ?_); rotate_left; · rfl) | ((with_reducible refine and_len ?_ ?_); · rfl) | ((with_reducible refine and_hty ?_ ?_); · rfl) | ((with_reducible refine and_le ?_ ?_); · exact Nat.le_of_ble_eq_true rfl) | ((with_reducible refine and_bd ?_ ?_); · first | decide | omega)))
  have hol : (ords qu).length = qu.length := by simp [ords]
  refine If.d (fun hat => ?_) (fun hat => ?_)
  · have ha : at' < qu.length := by omega
    have hp : qu[at']? = some qu[at'] := List.getElem?_eq_getElem ha
    generalize qu[at'] = p at hp
    have hpl := hlt hq (List.mem_of_getElem? hp)
    (repeat (first | with_reducible refine we_c ?_ | ((with_reducible refine we_v (w := ?_) ?_ ?_); rotate_left; · rfl) | with_reducible refine we_b ?_ | with_reducible refine we_a ?_ | with_reducible refine wa_c ?_ | with_reducible refine wa_n ?_ | with_reducible refine we_mt ?_ | with_reducible refine we_call ?_ | with_reducible refine we_tup ?_ | with_reducible refine we_lstW ?_ | with_reducible refine we_u ?_ | with_reducible refine we_not ?_ | with_reducible refine we_if ?_ | with_reducible refine we_and ?_ | with_reducible refine we_or ?_ | with_reducible refine we_cut ?_ | with_reducible refine wo_n ?_ | with_reducible refine wo_s ?_ | with_reducible refine wb_b ?_ | with_reducible refine wb_v ?_ | with_reducible refine wb_o ?_ | with_reducible refine wb_and ?_ | with_reducible refine wb_or ?_ | with_reducible refine wb_not ?_ | with_reducible refine wb_yes ?_ | with_reducible refine we_ch ?_ | with_reducible refine wx_n ?_ | with_reducible refine wx_c ?_ | with_reducible refine ss_n ?_ | with_reducible refine ss_c ?_ | with_reducible refine ss_set ?_ | with_reducible refine ss_ex ?_ | with_reducible refine ss_ret ?_ | with_reducible refine ss_retN ?_ | with_reducible refine ss_bk ?_ | with_reducible refine ss_ct ?_ | with_reducible refine ss_if ?_ | with_reducible refine ss_asg ?_ | with_reducible refine ss_put ?_ | with_reducible refine ss_for ?_ | with_reducible refine wi_a ?_ | with_reducible refine wi_r1 ?_ | with_reducible refine wi_r2 ?_ | with_reducible refine wp_ai ?_ | with_reducible refine wp_si ?_ | ((with_reducible refine wp_ml ?_ ?_); · decide) | ((with_reducible refine wp_mr ?_ ?_); · decide) | ((with_reducible refine wp_md ?_ ?_); · decide) | with_reducible refine wp_ng ?_ | with_reducible refine wp_eqi ?_ | with_reducible refine wp_eqs ?_ | with_reducible refine wp_eqb ?_ | with_reducible refine wp_nei ?_ | with_reducible refine wp_nes ?_ | with_reducible refine wp_neb ?_ | with_reducible refine wp_lt ?_ | with_reducible refine wp_le ?_ | with_reducible refine wp_gt ?_ | with_reducible refine wp_ge ?_ | with_reducible refine wp_isn ?_ | with_reducible refine wp_isnn ?_ | with_reducible refine wp_isb ?_ | with_reducible refine wp_isnb ?_ | with_reducible refine wp_int ?_ | with_reducible refine wp_min ?_ | with_reducible refine wp_max ?_ | with_reducible refine wp_lent ?_ | ((with_reducible refine wp_ixt (w := ?_) ?_ ?_); rotate_left; · rfl) | with_reducible refine wp_cutT ?_ | with_reducible refine wp_tupZ ?_ | with_reducible refine If.n ?_ | ((with_reducible refine If_tr ?_ ?_); · rfl) | ((with_reducible refine If_fa ?_ ?_); · rfl) | with_reducible refine ex_bl ?_ | with_reducible refine ex_int ?_ | with_reducible refine ex_int2 ?_ | with_reducible refine inW_mk ?_ | ((with_reducible refine ex_some (y := ?_) ?_ ?_); rotate_left; · rfl) | ((with_reducible refine and_len ?_ ?_); · rfl) | ((with_reducible refine and_hty ?_ ?_); · rfl) | ((with_reducible refine and_le ?_ ?_); · exact Nat.le_of_ble_eq_true rfl) | ((with_reducible refine and_bd ?_ ?_); · first | decide | omega)))
    refine wp_ixLW (k := 0) rfl (ords_get hp) ?_
    (repeat (first | with_reducible refine we_c ?_ | ((with_reducible refine we_v (w := ?_) ?_ ?_); rotate_left; · rfl) | with_reducible refine we_b ?_ | with_reducible refine we_a ?_ | with_reducible refine wa_c ?_ | with_reducible refine wa_n ?_ | with_reducible refine we_mt ?_ | with_reducible refine we_call ?_ | with_reducible refine we_tup ?_ | with_reducible refine we_lstW ?_ | with_reducible refine we_u ?_ | with_reducible refine we_not ?_ | with_reducible refine we_if ?_ | with_reducible refine we_and ?_ | with_reducible refine we_or ?_ | with_reducible refine we_cut ?_ | with_reducible refine wo_n ?_ | with_reducible refine wo_s ?_ | with_reducible refine wb_b ?_ | with_reducible refine wb_v ?_ | with_reducible refine wb_o ?_ | with_reducible refine wb_and ?_ | with_reducible refine wb_or ?_ | with_reducible refine wb_not ?_ | with_reducible refine wb_yes ?_ | with_reducible refine we_ch ?_ | with_reducible refine wx_n ?_ | with_reducible refine wx_c ?_ | with_reducible refine ss_n ?_ | with_reducible refine ss_c ?_ | with_reducible refine ss_set ?_ | with_reducible refine ss_ex ?_ | with_reducible refine ss_ret ?_ | with_reducible refine ss_retN ?_ | with_reducible refine ss_bk ?_ | with_reducible refine ss_ct ?_ | with_reducible refine ss_if ?_ | with_reducible refine ss_asg ?_ | with_reducible refine ss_put ?_ | with_reducible refine ss_for ?_ | with_reducible refine wi_a ?_ | with_reducible refine wi_r1 ?_ | with_reducible refine wi_r2 ?_ | with_reducible refine wp_ai ?_ | with_reducible refine wp_si ?_ | ((with_reducible refine wp_ml ?_ ?_); · decide) | ((with_reducible refine wp_mr ?_ ?_); · decide) | ((with_reducible refine wp_md ?_ ?_); · decide) | with_reducible refine wp_ng ?_ | with_reducible refine wp_eqi ?_ | with_reducible refine wp_eqs ?_ | with_reducible refine wp_eqb ?_ | with_reducible refine wp_nei ?_ | with_reducible refine wp_nes ?_ | with_reducible refine wp_neb ?_ | with_reducible refine wp_lt ?_ | with_reducible refine wp_le ?_ | with_reducible refine wp_gt ?_ | with_reducible refine wp_ge ?_ | with_reducible refine wp_isn ?_ | with_reducible refine wp_isnn ?_ | with_reducible refine wp_isb ?_ | with_reducible refine wp_isnb ?_ | with_reducible refine wp_int ?_ | with_reducible refine wp_min ?_ | with_reducible refine wp_max ?_ | with_reducible refine wp_lent ?_ | ((with_reducible refine wp_ixt (w := ?_) ?_ ?_); rotate_left; · rfl) | with_reducible refine wp_cutT ?_ | with_reducible refine wp_tupZ ?_ | with_reducible refine If.n ?_ | ((with_reducible refine If_tr ?_ ?_); · rfl) | ((with_reducible refine If_fa ?_ ?_); · rfl) | with_reducible refine ex_bl ?_ | with_reducible refine ex_int ?_ | with_reducible refine ex_int2 ?_ | with_reducible refine inW_mk ?_ | ((with_reducible refine ex_some (y := ?_) ?_ ?_); rotate_left; · rfl) | ((with_reducible refine and_len ?_ ?_); · rfl) | ((with_reducible refine and_hty ?_ ?_); · rfl) | ((with_reducible refine and_le ?_ ?_); · exact Nat.le_of_ble_eq_true rfl) | ((with_reducible refine and_bd ?_ ?_); · first | decide | omega)))
    refine wp_ixt (hen p.1 hpl) ?_
    refine ex_some (y := acc ends p.1) rfl ?_
    refine ⟨fun hacc => ?_, fun hacc => ?_⟩
    · (repeat (first | with_reducible refine we_c ?_ | ((with_reducible refine we_v (w := ?_) ?_ ?_); rotate_left; · rfl) | with_reducible refine we_b ?_ | with_reducible refine we_a ?_ | with_reducible refine wa_c ?_ | with_reducible refine wa_n ?_ | with_reducible refine we_mt ?_ | with_reducible refine we_call ?_ | with_reducible refine we_tup ?_ | with_reducible refine we_lstW ?_ | with_reducible refine we_u ?_ | with_reducible refine we_not ?_ | with_reducible refine we_if ?_ | with_reducible refine we_and ?_ | with_reducible refine we_or ?_ | with_reducible refine we_cut ?_ | with_reducible refine wo_n ?_ | with_reducible refine wo_s ?_ | with_reducible refine wb_b ?_ | with_reducible refine wb_v ?_ | with_reducible refine wb_o ?_ | with_reducible refine wb_and ?_ | with_reducible refine wb_or ?_ | with_reducible refine wb_not ?_ | with_reducible refine wb_yes ?_ | with_reducible refine we_ch ?_ | with_reducible refine wx_n ?_ | with_reducible refine wx_c ?_ | with_reducible refine ss_n ?_ | with_reducible refine ss_c ?_ | with_reducible refine ss_set ?_ | with_reducible refine ss_ex ?_ | with_reducible refine ss_ret ?_ | with_reducible refine ss_retN ?_ | with_reducible refine ss_bk ?_ | with_reducible refine ss_ct ?_ | with_reducible refine ss_if ?_ | with_reducible refine ss_asg ?_ | with_reducible refine ss_put ?_ | with_reducible refine ss_for ?_ | with_reducible refine wi_a ?_ | with_reducible refine wi_r1 ?_ | with_reducible refine wi_r2 ?_ | with_reducible refine wp_ai ?_ | with_reducible refine wp_si ?_ | ((with_reducible refine wp_ml ?_ ?_); · decide) | ((with_reducible refine wp_mr ?_ ?_); · decide) | ((with_reducible refine wp_md ?_ ?_); · decide) | with_reducible refine wp_ng ?_ | with_reducible refine wp_eqi ?_ | with_reducible refine wp_eqs ?_ | with_reducible refine wp_eqb ?_ | with_reducible refine wp_nei ?_ | with_reducible refine wp_nes ?_ | with_reducible refine wp_neb ?_ | with_reducible refine wp_lt ?_ | with_reducible refine wp_le ?_ | with_reducible refine wp_gt ?_ | with_reducible refine wp_ge ?_ | with_reducible refine wp_isn ?_ | with_reducible refine wp_isnn ?_ | with_reducible refine wp_isb ?_ | with_reducible refine wp_isnb ?_ | with_reducible refine wp_int ?_ | with_reducible refine wp_min ?_ | with_reducible refine wp_max ?_ | with_reducible refine wp_lent ?_ | ((with_reducible refine wp_ixt (w := ?_) ?_ ?_); rotate_left; · rfl) | with_reducible refine wp_cutT ?_ | with_reducible refine wp_tupZ ?_ | with_reducible refine If.n ?_ | ((with_reducible refine If_tr ?_ ?_); · rfl) | ((with_reducible refine If_fa ?_ ?_); · rfl) | with_reducible refine ex_bl ?_ | with_reducible refine ex_int ?_ | with_reducible refine ex_int2 ?_ | with_reducible refine inW_mk ?_ | ((with_reducible refine ex_some (y := ?_) ?_ ?_); rotate_left; · rfl) | ((with_reducible refine and_len ?_ ?_); · rfl) | ((with_reducible refine and_hty ?_ ?_); · rfl) | ((with_reducible refine and_le ?_ ?_); · exact Nat.le_of_ble_eq_true rfl) | ((with_reducible refine and_bd ?_ ?_); · first | decide | omega)))
      refine wp_of (ix_dic (W_get 1) (kvs_get hq.nodup hp)) ?_
      (repeat (first | with_reducible refine we_c ?_ | ((with_reducible refine we_v (w := ?_) ?_ ?_); rotate_left; · rfl) | with_reducible refine we_b ?_ | with_reducible refine we_a ?_ | with_reducible refine wa_c ?_ | with_reducible refine wa_n ?_ | with_reducible refine we_mt ?_ | with_reducible refine we_call ?_ | with_reducible refine we_tup ?_ | with_reducible refine we_lstW ?_ | with_reducible refine we_u ?_ | with_reducible refine we_not ?_ | with_reducible refine we_if ?_ | with_reducible refine we_and ?_ | with_reducible refine we_or ?_ | with_reducible refine we_cut ?_ | with_reducible refine wo_n ?_ | with_reducible refine wo_s ?_ | with_reducible refine wb_b ?_ | with_reducible refine wb_v ?_ | with_reducible refine wb_o ?_ | with_reducible refine wb_and ?_ | with_reducible refine wb_or ?_ | with_reducible refine wb_not ?_ | with_reducible refine wb_yes ?_ | with_reducible refine we_ch ?_ | with_reducible refine wx_n ?_ | with_reducible refine wx_c ?_ | with_reducible refine ss_n ?_ | with_reducible refine ss_c ?_ | with_reducible refine ss_set ?_ | with_reducible refine ss_ex ?_ | with_reducible refine ss_ret ?_ | with_reducible refine ss_retN ?_ | with_reducible refine ss_bk ?_ | with_reducible refine ss_ct ?_ | with_reducible refine ss_if ?_ | with_reducible refine ss_asg ?_ | with_reducible refine ss_put ?_ | with_reducible refine ss_for ?_ | with_reducible refine wi_a ?_ | with_reducible refine wi_r1 ?_ | with_reducible refine wi_r2 ?_ | with_reducible refine wp_ai ?_ | with_reducible refine wp_si ?_ | ((with_reducible refine wp_ml ?_ ?_); · decide) | ((with_reducible refine wp_mr ?_ ?_); · decide) | ((with_reducible refine wp_md ?_ ?_); · decide) | with_reducible refine wp_ng ?_ | with_reducible refine wp_eqi ?_ | with_reducible refine wp_eqs ?_ | with_reducible refine wp_eqb ?_ | with_reducible refine wp_nei ?_ | with_reducible refine wp_nes ?_ | with_reducible refine wp_neb ?_ | with_reducible refine wp_lt ?_ | with_reducible refine wp_le ?_ | with_reducible refine wp_gt ?_ | with_reducible refine wp_ge ?_ | with_reducible refine wp_isn ?_ | with_reducible refine wp_isnn ?_ | with_reducible refine wp_isb ?_ | with_reducible refine wp_isnb ?_ | with_reducible refine wp_int ?_ | with_reducible refine wp_min ?_ | with_reducible refine wp_max ?_ | with_reducible refine wp_lent ?_ | ((with_reducible refine wp_ixt (w := ?_) ?_ ?_); rotate_left; · rfl) | with_reducible refine wp_cutT ?_ | with_reducible refine wp_tupZ ?_ | with_reducible refine If.n ?_ | ((with_reducible refine If_tr ?_ ?_); · rfl) | ((with_reducible refine If_fa ?_ ?_); · rfl) | with_reducible refine ex_bl ?_ | with_reducible refine ex_int ?_ | with_reducible refine ex_int2 ?_ | with_reducible refine inW_mk ?_ | ((with_reducible refine ex_some (y := ?_) ?_ ?_); rotate_left; · rfl) | ((with_reducible refine and_len ?_ ?_); · rfl) | ((with_reducible refine and_hty ?_ ?_); · rfl) | ((with_reducible refine and_le ?_ ?_); · exact Nat.le_of_ble_eq_true rfl) | ((with_reducible refine and_bd ?_ ?_); · first | decide | omega)))
      rw [W_fin_s]
      exact hd ⟨rfl, .inl ⟨p.2, rfl, hq.found hl.1 hp hacc hno, by have := hwl p (List.mem_of_getElem? hp); omega⟩⟩
    · (repeat (first | with_reducible refine we_c ?_ | ((with_reducible refine we_v (w := ?_) ?_ ?_); rotate_left; · rfl) | with_reducible refine we_b ?_ | with_reducible refine we_a ?_ | with_reducible refine wa_c ?_ | with_reducible refine wa_n ?_ | with_reducible refine we_mt ?_ | with_reducible refine we_call ?_ | with_reducible refine we_tup ?_ | with_reducible refine we_lstW ?_ | with_reducible refine we_u ?_ | with_reducible refine we_not ?_ | with_reducible refine we_if ?_ | with_reducible refine we_and ?_ | with_reducible refine we_or ?_ | with_reducible refine we_cut ?_ | with_reducible refine wo_n ?_ | with_reducible refine wo_s ?_ | with_reducible refine wb_b ?_ | with_reducible refine wb_v ?_ | with_reducible refine wb_o ?_ | with_reducible refine wb_and ?_ | with_reducible refine wb_or ?_ | with_reducible refine wb_not ?_ | with_reducible refine wb_yes ?_ | with_reducible refine we_ch ?_ | with_reducible refine wx_n ?_ | with_reducible refine wx_c ?_ | with_reducible refine ss_n ?_ | with_reducible refine ss_c ?_ | with_reducible refine ss_set ?_ | with_reducible refine ss_ex ?_ | with_reducible refine ss_ret ?_ | with_reducible refine ss_retN ?_ | with_reducible refine ss_bk ?_ | with_reducible refine ss_ct ?_ | with_reducible refine ss_if ?_ | with_reducible refine ss_asg ?_ | with_reducible refine ss_put ?_ | with_reducible refine ss_for ?_ | with_reducible refine wi_a ?_ | with_reducible refine wi_r1 ?_ | with_reducible refine wi_r2 ?_ | with_reducible refine wp_ai ?_ | with_reducible refine wp_si ?_ | ((with_reducible refine wp_ml ?_ ?_); · decide) | ((with_reducible refine wp_mr ?_ ?_); · decide) | ((with_reducible refine wp_md ?_ ?_); · decide) | with_reducible refine wp_ng ?_ | with_reducible refine wp_eqi ?_ | with_reducible refine wp_eqs ?_ | with_reducible refine wp_eqb ?_ | with_reducible refine wp_nei ?_ | with_reducible refine wp_nes ?_ | with_reducible refine wp_neb ?_ | with_reducible refine wp_lt ?_ | with_reducible refine wp_le ?_ | with_reducible refine wp_gt ?_ | with_reducible refine wp_ge ?_ | with_reducible refine wp_isn ?_ | with_reducible refine wp_isnn ?_ | with_reducible refine wp_isb ?_ | with_reducible refine wp_isnb ?_ | with_reducible refine wp_int ?_ | with_reducible refine wp_min ?_ | with_reducible refine wp_max ?_ | with_reducible refine wp_lent ?_ | ((with_reducible refine wp_ixt (w := ?_) ?_ ?_); rotate_left; · rfl) | with_reducible refine wp_cutT ?_ | with_reducible refine wp_tupZ ?_ | with_reducible refine If.n ?_ | ((with_reducible refine If_tr ?_ ?_); · rfl) | ((with_reducible refine If_fa ?_ ?_); · rfl) | with_reducible refine ex_bl ?_ | with_reducible refine ex_int ?_ | with_reducible refine ex_int2 ?_ | with_reducible refine inW_mk ?_ | ((with_reducible refine ex_some (y := ?_) ?_ ?_); rotate_left; · rfl) | ((with_reducible refine and_len ?_ ?_); · rfl) | ((with_reducible refine and_hty ?_ ?_); · rfl) | ((with_reducible refine and_le ?_ ?_); · exact Nat.le_of_ble_eq_true rfl) | ((with_reducible refine and_bd ?_ ?_); · first | decide | omega)))
      refine wp_lens (by omega) ?_
      (repeat (first | with_reducible refine we_c ?_ | ((with_reducible refine we_v (w := ?_) ?_ ?_); rotate_left; · rfl) | with_reducible refine we_b ?_ | with_reducible refine we_a ?_ | with_reducible refine wa_c ?_ | with_reducible refine wa_n ?_ | with_reducible refine we_mt ?_ | with_reducible refine we_call ?_ | with_reducible refine we_tup ?_ | with_reducible refine we_lstW ?_ | with_reducible refine we_u ?_ | with_reducible refine we_not ?_ | with_reducible refine we_if ?_ | with_reducible refine we_and ?_ | with_reducible refine we_or ?_ | with_reducible refine we_cut ?_ | with_reducible refine wo_n ?_ | with_reducible refine wo_s ?_ | with_reducible refine wb_b ?_ | with_reducible refine wb_v ?_ | with_reducible refine wb_o ?_ | with_reducible refine wb_and ?_ | with_reducible refine wb_or ?_ | with_reducible refine wb_not ?_ | with_reducible refine wb_yes ?_ | with_reducible refine we_ch ?_ | with_reducible refine wx_n ?_ | with_reducible refine wx_c ?_ | with_reducible refine ss_n ?_ | with_reducible refine ss_c ?_ | with_reducible refine ss_set ?_ | with_reducible refine ss_ex ?_ | with_reducible refine ss_ret ?_ | with_reducible refine ss_retN ?_ | with_reducible refine ss_bk ?_ | with_reducible refine ss_ct ?_ | with_reducible refine ss_if ?_ | with_reducible refine ss_asg ?_ | with_reducible refine ss_put ?_ | with_reducible refine ss_for ?_ | with_reducible refine wi_a ?_ | with_reducible refine wi_r1 ?_ | with_reducible refine wi_r2 ?_ | with_reducible refine wp_ai ?_ | with_reducible refine wp_si ?_ | ((with_reducible refine wp_ml ?_ ?_); · decide) | ((with_reducible refine wp_mr ?_ ?_); · decide) | ((with_reducible refine wp_md ?_ ?_); · decide) | with_reducible refine wp_ng ?_ | with_reducible refine wp_eqi ?_ | with_reducible refine wp_eqs ?_ | with_reducible refine wp_eqb ?_ | with_reducible refine wp_nei ?_ | with_reducible refine wp_nes ?_ | with_reducible refine wp_neb ?_ | with_reducible refine wp_lt ?_ | with_reducible refine wp_le ?_ | with_reducible refine wp_gt ?_ | with_reducible refine wp_ge ?_ | with_reducible refine wp_isn ?_ | with_reducible refine wp_isnn ?_ | with_reducible refine wp_isb ?_ | with_reducible refine wp_isnb ?_ | with_reducible refine wp_int ?_ | with_reducible refine wp_min ?_ | with_reducible refine wp_max ?_ | with_reducible refine wp_lent ?_ | ((with_reducible refine wp_ixt (w := ?_) ?_ ?_); rotate_left; · rfl) | with_reducible refine wp_cutT ?_ | with_reducible refine wp_tupZ ?_ | with_reducible refine If.n ?_ | ((with_reducible refine If_tr ?_ ?_); · rfl) | ((with_reducible refine If_fa ?_ ?_); · rfl) | with_reducible refine ex_bl ?_ | with_reducible refine ex_int ?_ | with_reducible refine ex_int2 ?_ | with_reducible refine inW_mk ?_ | ((with_reducible refine ex_some (y := ?_) ?_ ?_); rotate_left; · rfl) | ((with_reducible refine and_len ?_ ?_); · rfl) | ((with_reducible refine and_hty ?_ ?_); · rfl) | ((with_reducible refine and_le ?_ ?_); · exact Nat.le_of_ble_eq_true rfl) | ((with_reducible refine and_bd ?_ ?_); · first | decide | omega)))
      rw [Int.toNat_natCast]
      refine wl_inv (fun k fm st => Hd (∃ qu x8 x9, fm = [some (setV ls goals ends), some (.str ls), some (.tup (goals.map rowV)), some (.tup (ends.map .bl)), some (.ref (e.p L + 0)), some (.ref (e.p L + 1)), some (.int (at' : Nat)), some (.int (p.1 : Nat)), x8, x9] ∧ st = W e a L [.lst (ords qu), .dic (kvs ls qu)] ∧
        Bfs.Q ls.length (dl goals) qu at' k ∧ (∀ i, i < at' → ∀ q, qu[i]? = some q → acc ends q.1 = false) ∧ qu[at']? = some p ∧ ∀ p ∈ qu, p.2.length < qu.length)) (fun _ _ _ _ => trivial) (hd ⟨qu, _, _, rfl, rfl, hq, hno, hp, hwl⟩) ?_ ?_
      · rintro k w hw fm st ⟨qu, x8, x9, rfl, rfl, hq, hno, hp, hwl⟩
        obtain ⟨rfl, hk⟩ := rng_get hw
        obtain ⟨r, g1, g2, g3⟩ := goal_at h hpl hk
        have hqs := hsm hq
        refine ⟨_, rfl, ?_⟩
        (repeat (first | with_reducible refine we_c ?_ | ((with_reducible refine we_v (w := ?_) ?_ ?_); rotate_left; · rfl) | with_reducible refine we_b ?_ | with_reducible refine we_a ?_ | with_reducible refine wa_c ?_ | with_reducible refine wa_n ?_ | with_reducible refine we_mt ?_ | with_reducible refine we_call ?_ | with_reducible refine we_tup ?_ | with_reducible refine we_lstW ?_ | with_reducible refine we_u ?_ | with_reducible refine we_not ?_ | with_reducible refine we_if ?_ | with_reducible refine we_and ?_ | with_reducible refine we_or ?_ | with_reducible refine we_cut ?_ | with_reducible refine wo_n ?_ | with_reducible refine wo_s ?_ | with_reducible refine wb_b ?_ | with_reducible refine wb_v ?_ | with_reducible refine wb_o ?_ | with_reducible refine wb_and ?_ | with_reducible refine wb_or ?_ | with_reducible refine wb_not ?_ | with_reducible refine wb_yes ?_ | with_reducible refine we_ch ?_ | with_reducible refine wx_n ?_ | with_reducible refine wx_c ?_ | with_reducible refine ss_n ?_ | with_reducible refine ss_c ?_ | with_reducible refine ss_set ?_ | with_reducible refine ss_ex ?_ | with_reducible refine ss_ret ?_ | with_reducible refine ss_retN ?_ | with_reducible refine ss_bk ?_ | with_reducible refine ss_ct ?_ | with_reducible refine ss_if ?_ | with_reducible refine ss_asg ?_ | with_reducible refine ss_put ?_ | with_reducible refine ss_for ?_ | with_reducible refine wi_a ?_ | with_reducible refine wi_r1 ?_ | with_reducible refine wi_r2 ?_ | with_reducible refine wp_ai ?_ | with_reducible refine wp_si ?_ | ((with_reducible refine wp_ml ?_ ?_); · decide) | ((with_reducible refine wp_mr ?_ ?_); · decide) | ((with_reducible refine wp_md ?_ ?_); · decide) | with_reducible refine wp_ng ?_ | with_reducible refine wp_eqi ?_ | with_reducible refine wp_eqs ?_ | with_reducible refine wp_eqb ?_ | with_reducible refine wp_nei ?_ | with_reducible refine wp_nes ?_ | with_reducible refine wp_neb ?_ | with_reducible refine wp_lt ?_ | with_reducible refine wp_le ?_ | with_reducible refine wp_gt ?_ | with_reducible refine wp_ge ?_ | with_reducible refine wp_isn ?_ | with_reducible refine wp_isnn ?_ | with_reducible refine wp_isb ?_ | with_reducible refine wp_isnb ?_ | with_reducible refine wp_int ?_ | with_reducible refine wp_min ?_ | with_reducible refine wp_max ?_ | with_reducible refine wp_lent ?_ | ((with_reducible refine wp_ixt (w := ?_) ?_ ?_); rotate_left; · rfl) | with_reducible refine wp_cutT ?_ | with_reducible refine wp_tupZ ?_ | with_reducible refine If.n ?_ | ((with_reducible refine If_tr ?_ ?_); · rfl) | ((with_reducible refine If_fa ?_ ?_); · rfl) | with_reducible refine ex_bl ?_ | with_reducible refine ex_int ?_ | with_reducible refine ex_int2 ?_ | with_reducible refine inW_mk ?_ | ((with_reducible refine ex_some (y := ?_) ?_ ?_); rotate_left; · rfl) | ((with_reducible refine and_len ?_ ?_); · rfl) | ((with_reducible refine and_hty ?_ ?_); · rfl) | ((with_reducible refine and_le ?_ ?_); · exact Nat.le_of_ble_eq_true rfl) | ((with_reducible refine and_bd ?_ ?_); · first | decide | omega)))
        refine wp_ixt (w := rowV r) (by rw [atI_map, atI_n, g1]; rfl) ?_
        (repeat (first | with_reducible refine we_c ?_ | ((with_reducible refine we_v (w := ?_) ?_ ?_); rotate_left; · rfl) | with_reducible refine we_b ?_ | with_reducible refine we_a ?_ | with_reducible refine wa_c ?_ | with_reducible refine wa_n ?_ | with_reducible refine we_mt ?_ | with_reducible refine we_call ?_ | with_reducible refine we_tup ?_ | with_reducible refine we_lstW ?_ | with_reducible refine we_u ?_ | with_reducible refine we_not ?_ | with_reducible refine we_if ?_ | with_reducible refine we_and ?_ | with_reducible refine we_or ?_ | with_reducible refine we_cut ?_ | with_reducible refine wo_n ?_ | with_reducible refine wo_s ?_ | with_reducible refine wb_b ?_ | with_reducible refine wb_v ?_ | with_reducible refine wb_o ?_ | with_reducible refine wb_and ?_ | with_reducible refine wb_or ?_ | with_reducible refine wb_not ?_ | with_reducible refine wb_yes ?_ | with_reducible refine we_ch ?_ | with_reducible refine wx_n ?_ | with_reducible refine wx_c ?_ | with_reducible refine ss_n ?_ | with_reducible refine ss_c ?_ | with_reducible refine ss_set ?_ | with_reducible refine ss_ex ?_ | with_reducible refine ss_ret ?_ | with_reducible refine ss_retN ?_ | with_reducible refine ss_bk ?_ | with_reducible refine ss_ct ?_ | with_reducible refine ss_if ?_ | with_reducible refine ss_asg ?_ | with_reducible refine ss_put ?_ | with_reducible refine ss_for ?_ | with_reducible refine wi_a ?_ | with_reducible refine wi_r1 ?_ | with_reducible refine wi_r2 ?_ | with_reducible refine wp_ai ?_ | with_reducible refine wp_si ?_ | ((with_reducible refine wp_ml ?_ ?_); · decide) | ((with_reducible refine wp_mr ?_ ?_); · decide) | ((with_reducible refine wp_md ?_ ?_); · decide) | with_reducible refine wp_ng ?_ | with_reducible refine wp_eqi ?_ | with_reducible refine wp_eqs ?_ | with_reducible refine wp_eqb ?_ | with_reducible refine wp_nei ?_ | with_reducible refine wp_nes ?_ | with_reducible refine wp_neb ?_ | with_reducible refine wp_lt ?_ | with_reducible refine wp_le ?_ | with_reducible refine wp_gt ?_ | with_reducible refine wp_ge ?_ | with_reducible refine wp_isn ?_ | with_reducible refine wp_isnn ?_ | with_reducible refine wp_isb ?_ | with_reducible refine wp_isnb ?_ | with_reducible refine wp_int ?_ | with_reducible refine wp_min ?_ | with_reducible refine wp_max ?_ | with_reducible refine wp_lent ?_ | ((with_reducible refine wp_ixt (w := ?_) ?_ ?_); rotate_left; · rfl) | with_reducible refine wp_cutT ?_ | with_reducible refine wp_tupZ ?_ | with_reducible refine If.n ?_ | ((with_reducible refine If_tr ?_ ?_); · rfl) | ((with_reducible refine If_fa ?_ ?_); · rfl) | with_reducible refine ex_bl ?_ | with_reducible refine ex_int ?_ | with_reducible refine ex_int2 ?_ | with_reducible refine inW_mk ?_ | ((with_reducible refine ex_some (y := ?_) ?_ ?_); rotate_left; · rfl) | ((with_reducible refine and_len ?_ ?_); · rfl) | ((with_reducible refine and_hty ?_ ?_); · rfl) | ((with_reducible refine and_le ?_ ?_); · exact Nat.le_of_ble_eq_true rfl) | ((with_reducible refine and_bd ?_ ?_); · first | decide | omega)))
        refine wp_ixt (w := .int (dl goals p.1 k : Nat)) (by rw [Int.zero_add, atI_map, atI_n, g2]; rfl) ?_
        (repeat (first | with_reducible refine we_c ?_ | ((with_reducible refine we_v (w := ?_) ?_ ?_); rotate_left; · rfl) | with_reducible refine we_b ?_ | with_reducible refine we_a ?_ | with_reducible refine wa_c ?_ | with_reducible refine wa_n ?_ | with_reducible refine we_mt ?_ | with_reducible refine we_call ?_ | with_reducible refine we_tup ?_ | with_reducible refine we_lstW ?_ | with_reducible refine we_u ?_ | with_reducible refine we_not ?_ | with_reducible refine we_if ?_ | with_reducible refine we_and ?_ | with_reducible refine we_or ?_ | with_reducible refine we_cut ?_ | with_reducible refine wo_n ?_ | with_reducible refine wo_s ?_ | with_reducible refine wb_b ?_ | with_reducible refine wb_v ?_ | with_reducible refine wb_o ?_ | with_reducible refine wb_and ?_ | with_reducible refine wb_or ?_ | with_reducible refine wb_not ?_ | with_reducible refine wb_yes ?_ | with_reducible refine we_ch ?_ | with_reducible refine wx_n ?_ | with_reducible refine wx_c ?_ | with_reducible refine ss_n ?_ | with_reducible refine ss_c ?_ | with_reducible refine ss_set ?_ | with_reducible refine ss_ex ?_ | with_reducible refine ss_ret ?_ | with_reducible refine ss_retN ?_ | with_reducible refine ss_bk ?_ | with_reducible refine ss_ct ?_ | with_reducible refine ss_if ?_ | with_reducible refine ss_asg ?_ | with_reducible refine ss_put ?_ | with_reducible refine ss_for ?_ | with_reducible refine wi_a ?_ | with_reducible refine wi_r1 ?_ | with_reducible refine wi_r2 ?_ | with_reducible refine wp_ai ?_ | with_reducible refine wp_si ?_ | ((with_reducible refine wp_ml ?_ ?_); · decide) | ((with_reducible refine wp_mr ?_ ?_); · decide) | ((with_reducible refine wp_md ?_ ?_); · decide) | with_reducible refine wp_ng ?_ | with_reducible refine wp_eqi ?_ | with_reducible refine wp_eqs ?_ | with_reducible refine wp_eqb ?_ | with_reducible refine wp_nei ?_ | with_reducible refine wp_nes ?_ | with_reducible refine wp_neb ?_ | with_reducible refine wp_lt ?_ | with_reducible refine wp_le ?_ | with_reducible refine wp_gt ?_ | with_reducible refine wp_ge ?_ | with_reducible refine wp_isn ?_ | with_reducible refine wp_isnn ?_ | with_reducible refine wp_isb ?_ | with_reducible refine wp_isnb ?_ | with_reducible refine wp_int ?_ | with_reducible refine wp_min ?_ | with_reducible refine wp_max ?_ | with_reducible refine wp_lent ?_ | ((with_reducible refine wp_ixt (w := ?_) ?_ ?_); rotate_left; · rfl) | with_reducible refine wp_cutT ?_ | with_reducible refine wp_tupZ ?_ | with_reducible refine If.n ?_ | ((with_reducible refine If_tr ?_ ?_); · rfl) | ((with_reducible refine If_fa ?_ ?_); · rfl) | with_reducible refine ex_bl ?_ | with_reducible refine ex_int ?_ | with_reducible refine ex_int2 ?_ | with_reducible refine inW_mk ?_ | ((with_reducible refine ex_some (y := ?_) ?_ ?_); rotate_left; · rfl) | ((with_reducible refine and_len ?_ ?_); · rfl) | ((with_reducible refine and_hty ?_ ?_); · rfl) | ((with_reducible refine and_le ?_ ?_); · exact Nat.le_of_ble_eq_true rfl) | ((with_reducible refine and_bd ?_ ?_); · first | decide | omega)))
        refine wp_of (nin_dic (W_get 1)) ?_
        (repeat (first | with_reducible refine we_c ?_ | ((with_reducible refine we_v (w := ?_) ?_ ?_); rotate_left; · rfl) | with_reducible refine we_b ?_ | with_reducible refine we_a ?_ | with_reducible refine wa_c ?_ | with_reducible refine wa_n ?_ | with_reducible refine we_mt ?_ | with_reducible refine we_call ?_ | with_reducible refine we_tup ?_ | with_reducible refine we_lstW ?_ | with_reducible refine we_u ?_ | with_reducible refine we_not ?_ | with_reducible refine we_if ?_ | with_reducible refine we_and ?_ | with_reducible refine we_or ?_ | with_reducible refine we_cut ?_ | with_reducible refine wo_n ?_ | with_reducible refine wo_s ?_ | with_reducible refine wb_b ?_ | with_reducible refine wb_v ?_ | with_reducible refine wb_o ?_ | with_reducible refine wb_and ?_ | with_reducible refine wb_or ?_ | with_reducible refine wb_not ?_ | with_reducible refine wb_yes ?_ | with_reducible refine we_ch ?_ | with_reducible refine wx_n ?_ | with_reducible refine wx_c ?_ | with_reducible refine ss_n ?_ | with_reducible refine ss_c ?_ | with_reducible refine ss_set ?_ | with_reducible refine ss_ex ?_ | with_reducible refine ss_ret ?_ | with_reducible refine ss_retN ?_ | with_reducible refine ss_bk ?_ | with_reducible refine ss_ct ?_ | with_reducible refine ss_if ?_ | with_reducible refine ss_asg ?_ | with_reducible refine ss_put ?_ | with_reducible refine ss_for ?_ | with_reducible refine wi_a ?_ | with_reducible refine wi_r1 ?_ | with_reducible refine wi_r2 ?_ | with_reducible refine wp_ai ?_ | with_reducible refine wp_si ?_ | ((with_reducible refine wp_ml ?_ ?_); · decide) | ((with_reducible refine wp_mr ?_ ?_); · decide) | ((with_reducible refine wp_md ?_ ?_); · decide) | with_reducible refine wp_ng ?_ | with_reducible refine wp_eqi ?_ | with_reducible refine wp_eqs ?_ | with_reducible refine wp_eqb ?_ | with_reducible refine wp_nei ?_ | with_reducible refine wp_nes ?_ | with_reducible refine wp_neb ?_ | with_reducible refine wp_lt ?_ | with_reducible refine wp_le ?_ | with_reducible refine wp_gt ?_ | with_reducible refine wp_ge ?_ | with_reducible refine wp_isn ?_ | with_reducible refine wp_isnn ?_ | with_reducible refine wp_isb ?_ | with_reducible refine wp_isnb ?_ | with_reducible refine wp_int ?_ | with_reducible refine wp_min ?_ | with_reducible refine wp_max ?_ | with_reducible refine wp_lent ?_ | ((with_reducible refine wp_ixt (w := ?_) ?_ ?_); rotate_left; · rfl) | with_reducible refine wp_cutT ?_ | with_reducible refine wp_tupZ ?_ | with_reducible refine If.n ?_ | ((with_reducible refine If_tr ?_ ?_); · rfl) | ((with_reducible refine If_fa ?_ ?_); · rfl) | with_reducible refine ex_bl ?_ | with_reducible refine ex_int ?_ | with_reducible refine ex_int2 ?_ | with_reducible refine inW_mk ?_ | ((with_reducible refine ex_some (y := ?_) ?_ ?_); rotate_left; · rfl) | ((with_reducible refine and_len ?_ ?_); · rfl) | ((with_reducible refine and_hty ?_ ?_); · rfl) | ((with_reducible refine and_le ?_ ?_); · exact Nat.le_of_ble_eq_true rfl) | ((with_reducible refine and_bd ?_ ?_); · first | decide | omega)))
        by_cases hmet : dl goals p.1 k ∈ qu.map (·.1)
        · obtain ⟨i, q, hi, hq1⟩ := Bfs.idx_of hmet
          have := kvs_get (ls := ls) hq.nodup hi
          rw [hq1] at this
          rw [this]
          refine If.t ?_
          (repeat (first | with_reducible refine we_c ?_ | ((with_reducible refine we_v (w := ?_) ?_ ?_); rotate_left; · rfl) | with_reducible refine we_b ?_ | with_reducible refine we_a ?_ | with_reducible refine wa_c ?_ | with_reducible refine wa_n ?_ | with_reducible refine we_mt ?_ | with_reducible refine we_call ?_ | with_reducible refine we_tup ?_ | with_reducible refine we_lstW ?_ | with_reducible refine we_u ?_ | with_reducible refine we_not ?_ | with_reducible refine we_if ?_ | with_reducible refine we_and ?_ | with_reducible refine we_or ?_ | with_reducible refine we_cut ?_ | with_reducible refine wo_n ?_ | with_reducible refine wo_s ?_ | with_reducible refine wb_b ?_ | with_reducible refine wb_v ?_ | with_reducible refine wb_o ?_ | with_reducible refine wb_and ?_ | with_reducible refine wb_or ?_ | with_reducible refine wb_not ?_ | with_reducible refine wb_yes ?_ | with_reducible refine we_ch ?_ | with_reducible refine wx_n ?_ | with_reducible refine wx_c ?_ | with_reducible refine ss_n ?_ | with_reducible refine ss_c ?_ | with_reducible refine ss_set ?_ | with_reducible refine ss_ex ?_ | with_reducible refine ss_ret ?_ | with_reducible refine ss_retN ?_ | with_reducible refine ss_bk ?_ | with_reducible refine ss_ct ?_ | with_reducible refine ss_if ?_ | with_reducible refine ss_asg ?_ | with_reducible refine ss_put ?_ | with_reducible refine ss_for ?_ | with_reducible refine wi_a ?_ | with_reducible refine wi_r1 ?_ | with_reducible refine wi_r2 ?_ | with_reducible refine wp_ai ?_ | with_reducible refine wp_si ?_ | ((with_reducible refine wp_ml ?_ ?_); · decide) | ((with_reducible refine wp_mr ?_ ?_); · decide) | ((with_reducible refine wp_md ?_ ?_); · decide) | with_reducible refine wp_ng ?_ | with_reducible refine wp_eqi ?_ | with_reducible refine wp_eqs ?_ | with_reducible refine wp_eqb ?_ | with_reducible refine wp_nei ?_ | with_reducible refine wp_nes ?_ | with_reducible refine wp_neb ?_ | with_reducible refine wp_lt ?_ | with_reducible refine wp_le ?_ | with_reducible refine wp_gt ?_ | with_reducible refine wp_ge ?_ | with_reducible refine wp_isn ?_ | with_reducible refine wp_isnn ?_ | with_reducible refine wp_isb ?_ | with_reducible refine wp_isnb ?_ | with_reducible refine wp_int ?_ | with_reducible refine wp_min ?_ | with_reducible refine wp_max ?_ | with_reducible refine wp_lent ?_ | ((with_reducible refine wp_ixt (w := ?_) ?_ ?_); rotate_left; · rfl) | with_reducible refine wp_cutT ?_ | with_reducible refine wp_tupZ ?_ | with_reducible refine If.n ?_ | ((with_reducible refine If_tr ?_ ?_); · rfl) | ((with_reducible refine If_fa ?_ ?_); · rfl) | with_reducible refine ex_bl ?_ | with_reducible refine ex_int ?_ | with_reducible refine ex_int2 ?_ | with_reducible refine inW_mk ?_ | ((with_reducible refine ex_some (y := ?_) ?_ ?_); rotate_left; · rfl) | ((with_reducible refine and_len ?_ ?_); · rfl) | ((with_reducible refine and_hty ?_ ?_); · rfl) | ((with_reducible refine and_le ?_ ?_); · exact Nat.le_of_ble_eq_true rfl) | ((with_reducible refine and_bd ?_ ?_); · first | decide | omega)))
          exact hd ⟨qu, _, _, rfl, rfl, hq.old hp hk hmet, hno, hp, hwl⟩
        · rw [kvs_none hmet]
          refine If.f ?_
          have hc : ls[k]? = some ls[k] := List.getElem?_eq_getElem hk
          (repeat (first | with_reducible refine we_c ?_ | ((with_reducible refine we_v (w := ?_) ?_ ?_); rotate_left; · rfl) | with_reducible refine we_b ?_ | with_reducible refine we_a ?_ | with_reducible refine wa_c ?_ | with_reducible refine wa_n ?_ | with_reducible refine we_mt ?_ | with_reducible refine we_call ?_ | with_reducible refine we_tup ?_ | with_reducible refine we_lstW ?_ | with_reducible refine we_u ?_ | with_reducible refine we_not ?_ | with_reducible refine we_if ?_ | with_reducible refine we_and ?_ | with_reducible refine we_or ?_ | with_reducible refine we_cut ?_ | with_reducible refine wo_n ?_ | with_reducible refine wo_s ?_ | with_reducible refine wb_b ?_ | with_reducible refine wb_v ?_ | with_reducible refine wb_o ?_ | with_reducible refine wb_and ?_ | with_reducible refine wb_or ?_ | with_reducible refine wb_not ?_ | with_reducible refine wb_yes ?_ | with_reducible refine we_ch ?_ | with_reducible refine wx_n ?_ | with_reducible refine wx_c ?_ | with_reducible refine ss_n ?_ | with_reducible refine ss_c ?_ | with_reducible refine ss_set ?_ | with_reducible refine ss_ex ?_ | with_reducible refine ss_ret ?_ | with_reducible refine ss_retN ?_ | with_reducible refine ss_bk ?_ | with_reducible refine ss_ct ?_ | with_reducible refine ss_if ?_ | with_reducible refine ss_asg ?_ | with_reducible refine ss_put ?_ | with_reducible refine ss_for ?_ | with_reducible refine wi_a ?_ | with_reducible refine wi_r1 ?_ | with_reducible refine wi_r2 ?_ | with_reducible refine wp_ai ?_ | with_reducible refine wp_si ?_ | ((with_reducible refine wp_ml ?_ ?_); · decide) | ((with_reducible refine wp_mr ?_ ?_); · decide) | ((with_reducible refine wp_md ?_ ?_); · decide) | with_reducible refine wp_ng ?_ | with_reducible refine wp_eqi ?_ | with_reducible refine wp_eqs ?_ | with_reducible refine wp_eqb ?_ | with_reducible refine wp_nei ?_ | with_reducible refine wp_nes ?_ | with_reducible refine wp_neb ?_ | with_reducible refine wp_lt ?_ | with_reducible refine wp_le ?_ | with_reducible refine wp_gt ?_ | with_reducible refine wp_ge ?_ | with_reducible refine wp_isn ?_ | with_reducible refine wp_isnn ?_ | with_reducible refine wp_isb ?_ | with_reducible refine wp_isnb ?_ | with_reducible refine wp_int ?_ | with_reducible refine wp_min ?_ | with_reducible refine wp_max ?_ | with_reducible refine wp_lent ?_ | ((with_reducible refine wp_ixt (w := ?_) ?_ ?_); rotate_left; · rfl) | with_reducible refine wp_cutT ?_ | with_reducible refine wp_tupZ ?_ | with_reducible refine If.n ?_ | ((with_reducible refine If_tr ?_ ?_); · rfl) | ((with_reducible refine If_fa ?_ ?_); · rfl) | with_reducible refine ex_bl ?_ | with_reducible refine ex_int ?_ | with_reducible refine ex_int2 ?_ | with_reducible refine inW_mk ?_ | ((with_reducible refine ex_some (y := ?_) ?_ ?_); rotate_left; · rfl) | ((with_reducible refine and_len ?_ ?_); · rfl) | ((with_reducible refine and_hty ?_ ?_); · rfl) | ((with_reducible refine and_le ?_ ?_); · exact Nat.le_of_ble_eq_true rfl) | ((with_reducible refine and_bd ?_ ?_); · first | decide | omega)))
          refine wp_of (ix_dic (W_get 1) (kvs_get hq.nodup hp)) ?_
          (repeat (first | with_reducible refine we_c ?_ | ((with_reducible refine we_v (w := ?_) ?_ ?_); rotate_left; · rfl) | with_reducible refine we_b ?_ | with_reducible refine we_a ?_ | with_reducible refine wa_c ?_ | with_reducible refine wa_n ?_ | with_reducible refine we_mt ?_ | with_reducible refine we_call ?_ | with_reducible refine we_tup ?_ | with_reducible refine we_lstW ?_ | with_reducible refine we_u ?_ | with_reducible refine we_not ?_ | with_reducible refine we_if ?_ | with_reducible refine we_and ?_ | with_reducible refine we_or ?_ | with_reducible refine we_cut ?_ | with_reducible refine wo_n ?_ | with_reducible refine wo_s ?_ | with_reducible refine wb_b ?_ | with_reducible refine wb_v ?_ | with_reducible refine wb_o ?_ | with_reducible refine wb_and ?_ | with_reducible refine wb_or ?_ | with_reducible refine wb_not ?_ | with_reducible refine wb_yes ?_ | with_reducible refine we_ch ?_ | with_reducible refine wx_n ?_ | with_reducible refine wx_c ?_ | with_reducible refine ss_n ?_ | with_reducible refine ss_c ?_ | with_reducible refine ss_set ?_ | with_reducible refine ss_ex ?_ | with_reducible refine ss_ret ?_ | with_reducible refine ss_retN ?_ | with_reducible refine ss_bk ?_ | with_reducible refine ss_ct ?_ | with_reducible refine ss_if ?_ | with_reducible refine ss_asg ?_ | with_reducible refine ss_put ?_ | with_reducible refine ss_for ?_ | with_reducible refine wi_a ?_ | with_reducible refine wi_r1 ?_ | with_reducible refine wi_r2 ?_ | with_reducible refine wp_ai ?_ | with_reducible refine wp_si ?_ | ((with_reducible refine wp_ml ?_ ?_); · decide) | ((with_reducible refine wp_mr ?_ ?_); · decide) | ((with_reducible refine wp_md ?_ ?_); · decide) | with_reducible refine wp_ng ?_ | with_reducible refine wp_eqi ?_ | with_reducible refine wp_eqs ?_ | with_reducible refine wp_eqb ?_ | with_reducible refine wp_nei ?_ | with_reducible refine wp_nes ?_ | with_reducible refine wp_neb ?_ | with_reducible refine wp_lt ?_ | with_reducible refine wp_le ?_ | with_reducible refine wp_gt ?_ | with_reducible refine wp_ge ?_ | with_reducible refine wp_isn ?_ | with_reducible refine wp_isnn ?_ | with_reducible refine wp_isb ?_ | with_reducible refine wp_isnb ?_ | with_reducible refine wp_int ?_ | with_reducible refine wp_min ?_ | with_reducible refine wp_max ?_ | with_reducible refine wp_lent ?_ | ((with_reducible refine wp_ixt (w := ?_) ?_ ?_); rotate_left; · rfl) | with_reducible refine wp_cutT ?_ | with_reducible refine wp_tupZ ?_ | with_reducible refine If.n ?_ | ((with_reducible refine If_tr ?_ ?_); · rfl) | ((with_reducible refine If_fa ?_ ?_); · rfl) | with_reducible refine ex_bl ?_ | with_reducible refine ex_int ?_ | with_reducible refine ex_int2 ?_ | with_reducible refine inW_mk ?_ | ((with_reducible refine ex_some (y := ?_) ?_ ?_); rotate_left; · rfl) | ((with_reducible refine and_len ?_ ?_); · rfl) | ((with_reducible refine and_hty ?_ ?_); · rfl) | ((with_reducible refine and_le ?_ ?_); · exact Nat.le_of_ble_eq_true rfl) | ((with_reducible refine and_bd ?_ ?_); · first | decide | omega)))
          refine wp_ixs (by omega) (c := ls[k]) (by rw [Int.zero_add, atI_n]; exact hc) ?_
          refine wp_as ?_ ?_
          · have := hwl p (List.mem_of_getElem? hp)
            simp [txt]; omega
          rw [← txt_snoc hc]
          (repeat (first | with_reducible refine we_c ?_ | ((with_reducible refine we_v (w := ?_) ?_ ?_); rotate_left; · rfl) | with_reducible refine we_b ?_ | with_reducible refine we_a ?_ | with_reducible refine wa_c ?_ | with_reducible refine wa_n ?_ | with_reducible refine we_mt ?_ | with_reducible refine we_call ?_ | with_reducible refine we_tup ?_ | with_reducible refine we_lstW ?_ | with_reducible refine we_u ?_ | with_reducible refine we_not ?_ | with_reducible refine we_if ?_ | with_reducible refine we_and ?_ | with_reducible refine we_or ?_ | with_reducible refine we_cut ?_ | with_reducible refine wo_n ?_ | with_reducible refine wo_s ?_ | with_reducible refine wb_b ?_ | with_reducible refine wb_v ?_ | with_reducible refine wb_o ?_ | with_reducible refine wb_and ?_ | with_reducible refine wb_or ?_ | with_reducible refine wb_not ?_ | with_reducible refine wb_yes ?_ | with_reducible refine we_ch ?_ | with_reducible refine wx_n ?_ | with_reducible refine wx_c ?_ | with_reducible refine ss_n ?_ | with_reducible refine ss_c ?_ | with_reducible refine ss_set ?_ | with_reducible refine ss_ex ?_ | with_reducible refine ss_ret ?_ | with_reducible refine ss_retN ?_ | with_reducible refine ss_bk ?_ | with_reducible refine ss_ct ?_ | with_reducible refine ss_if ?_ | with_reducible refine ss_asg ?_ | with_reducible refine ss_put ?_ | with_reducible refine ss_for ?_ | with_reducible refine wi_a ?_ | with_reducible refine wi_r1 ?_ | with_reducible refine wi_r2 ?_ | with_reducible refine wp_ai ?_ | with_reducible refine wp_si ?_ | ((with_reducible refine wp_ml ?_ ?_); · decide) | ((with_reducible refine wp_mr ?_ ?_); · decide) | ((with_reducible refine wp_md ?_ ?_); · decide) | with_reducible refine wp_ng ?_ | with_reducible refine wp_eqi ?_ | with_reducible refine wp_eqs ?_ | with_reducible refine wp_eqb ?_ | with_reducible refine wp_nei ?_ | with_reducible refine wp_nes ?_ | with_reducible refine wp_neb ?_ | with_reducible refine wp_lt ?_ | with_reducible refine wp_le ?_ | with_reducible refine wp_gt ?_ | with_reducible refine wp_ge ?_ | with_reducible refine wp_isn ?_ | with_reducible refine wp_isnn ?_ | with_reducible refine wp_isb ?_ | with_reducible refine wp_isnb ?_ | with_reducible refine wp_int ?_ | with_reducible refine wp_min ?_ | with_reducible refine wp_max ?_ | with_reducible refine wp_lent ?_ | ((with_reducible refine wp_ixt (w := ?_) ?_ ?_); rotate_left; · rfl) | with_reducible refine wp_cutT ?_ | with_reducible refine wp_tupZ ?_ | with_reducible refine If.n ?_ | ((with_reducible refine If_tr ?_ ?_); · rfl) | ((with_reducible refine If_fa ?_ ?_); · rfl) | with_reducible refine ex_bl ?_ | with_reducible refine ex_int ?_ | with_reducible refine ex_int2 ?_ | with_reducible refine inW_mk ?_ | ((with_reducible refine ex_some (y := ?_) ?_ ?_); rotate_left; · rfl) | ((with_reducible refine and_len ?_ ?_); · rfl) | ((with_reducible refine and_hty ?_ ?_); · rfl) | ((with_reducible refine and_le ?_ ?_); · exact Nat.le_of_ble_eq_true rfl) | ((with_reducible refine and_bd ?_ ?_); · first | decide | omega)))
          refine ⟨_, put_dic (W_get 1) (by simp [kvs]; omega), ?_⟩
          rw [W_set, kvs_put hmet]
          (repeat (first | with_reducible refine we_c ?_ | ((with_reducible refine we_v (w := ?_) ?_ ?_); rotate_left; · rfl) | with_reducible refine we_b ?_ | with_reducible refine we_a ?_ | with_reducible refine wa_c ?_ | with_reducible refine wa_n ?_ | with_reducible refine we_mt ?_ | with_reducible refine we_call ?_ | with_reducible refine we_tup ?_ | with_reducible refine we_lstW ?_ | with_reducible refine we_u ?_ | with_reducible refine we_not ?_ | with_reducible refine we_if ?_ | with_reducible refine we_and ?_ | with_reducible refine we_or ?_ | with_reducible refine we_cut ?_ | with_reducible refine wo_n ?_ | with_reducible refine wo_s ?_ | with_reducible refine wb_b ?_ | with_reducible refine wb_v ?_ | with_reducible refine wb_o ?_ | with_reducible refine wb_and ?_ | with_reducible refine wb_or ?_ | with_reducible refine wb_not ?_ | with_reducible refine wb_yes ?_ | with_reducible refine we_ch ?_ | with_reducible refine wx_n ?_ | with_reducible refine wx_c ?_ | with_reducible refine ss_n ?_ | with_reducible refine ss_c ?_ | with_reducible refine ss_set ?_ | with_reducible refine ss_ex ?_ | with_reducible refine ss_ret ?_ | with_reducible refine ss_retN ?_ | with_reducible refine ss_bk ?_ | with_reducible refine ss_ct ?_ | with_reducible refine ss_if ?_ | with_reducible refine ss_asg ?_ | with_reducible refine ss_put ?_ | with_reducible refine ss_for ?_ | with_reducible refine wi_a ?_ | with_reducible refine wi_r1 ?_ | with_reducible refine wi_r2 ?_ | with_reducible refine wp_ai ?_ | with_reducible refine wp_si ?_ | ((with_reducible refine wp_ml ?_ ?_); · decide) | ((with_reducible refine wp_mr ?_ ?_); · decide) | ((with_reducible refine wp_md ?_ ?_); · decide) | with_reducible refine wp_ng ?_ | with_reducible refine wp_eqi ?_ | with_reducible refine wp_eqs ?_ | with_reducible refine wp_eqb ?_ | with_reducible refine wp_nei ?_ | with_reducible refine wp_nes ?_ | with_reducible refine wp_neb ?_ | with_reducible refine wp_lt ?_ | with_reducible refine wp_le ?_ | with_reducible refine wp_gt ?_ | with_reducible refine wp_ge ?_ | with_reducible refine wp_isn ?_ | with_reducible refine wp_isnn ?_ | with_reducible refine wp_isb ?_ | with_reducible refine wp_isnb ?_ | with_reducible refine wp_int ?_ | with_reducible refine wp_min ?_ | with_reducible refine wp_max ?_ | with_reducible refine wp_lent ?_ | ((with_reducible refine wp_ixt (w := ?_) ?_ ?_); rotate_left; · rfl) | with_reducible refine wp_cutT ?_ | with_reducible refine wp_tupZ ?_ | with_reducible refine If.n ?_ | ((with_reducible refine If_tr ?_ ?_); · rfl) | ((with_reducible refine If_fa ?_ ?_); · rfl) | with_reducible refine ex_bl ?_ | with_reducible refine ex_int ?_ | with_reducible refine ex_int2 ?_ | with_reducible refine inW_mk ?_ | ((with_reducible refine ex_some (y := ?_) ?_ ?_); rotate_left; · rfl) | ((with_reducible refine and_len ?_ ?_); · rfl) | ((with_reducible refine and_hty ?_ ?_); · rfl) | ((with_reducible refine and_le ?_ ?_); · exact Nat.le_of_ble_eq_true rfl) | ((with_reducible refine and_bd ?_ ?_); · first | decide | omega)))
          refine and_hty (hty_W (k := 0) rfl) ?_
          (repeat (first | with_reducible refine we_c ?_ | ((with_reducible refine we_v (w := ?_) ?_ ?_); rotate_left; · rfl) | with_reducible refine we_b ?_ | with_reducible refine we_a ?_ | with_reducible refine wa_c ?_ | with_reducible refine wa_n ?_ | with_reducible refine we_mt ?_ | with_reducible refine we_call ?_ | with_reducible refine we_tup ?_ | with_reducible refine we_lstW ?_ | with_reducible refine we_u ?_ | with_reducible refine we_not ?_ | with_reducible refine we_if ?_ | with_reducible refine we_and ?_ | with_reducible refine we_or ?_ | with_reducible refine we_cut ?_ | with_reducible refine wo_n ?_ | with_reducible refine wo_s ?_ | with_reducible refine wb_b ?_ | with_reducible refine wb_v ?_ | with_reducible refine wb_o ?_ | with_reducible refine wb_and ?_ | with_reducible refine wb_or ?_ | with_reducible refine wb_not ?_ | with_reducible refine wb_yes ?_ | with_reducible refine we_ch ?_ | with_reducible refine wx_n ?_ | with_reducible refine wx_c ?_ | with_reducible refine ss_n ?_ | with_reducible refine ss_c ?_ | with_reducible refine ss_set ?_ | with_reducible refine ss_ex ?_ | with_reducible refine ss_ret ?_ | with_reducible refine ss_retN ?_ | with_reducible refine ss_bk ?_ | with_reducible refine ss_ct ?_ | with_reducible refine ss_if ?_ | with_reducible refine ss_asg ?_ | with_reducible refine ss_put ?_ | with_reducible refine ss_for ?_ | with_reducible refine wi_a ?_ | with_reducible refine wi_r1 ?_ | with_reducible refine wi_r2 ?_ | with_reducible refine wp_ai ?_ | with_reducible refine wp_si ?_ | ((with_reducible refine wp_ml ?_ ?_); · decide) | ((with_reducible refine wp_mr ?_ ?_); · decide) | ((with_reducible refine wp_md ?_ ?_); · decide) | with_reducible refine wp_ng ?_ | with_reducible refine wp_eqi ?_ | with_reducible refine wp_eqs ?_ | with_reducible refine wp_eqb ?_ | with_reducible refine wp_nei ?_ | with_reducible refine wp_nes ?_ | with_reducible refine wp_neb ?_ | with_reducible refine wp_lt ?_ | with_reducible refine wp_le ?_ | with_reducible refine wp_gt ?_ | with_reducible refine wp_ge ?_ | with_reducible refine wp_isn ?_ | with_reducible refine wp_isnn ?_ | with_reducible refine wp_isb ?_ | with_reducible refine wp_isnb ?_ | with_reducible refine wp_int ?_ | with_reducible refine wp_min ?_ | with_reducible refine wp_max ?_ | with_reducible refine wp_lent ?_ | ((with_reducible refine wp_ixt (w := ?_) ?_ ?_); rotate_left; · rfl) | with_reducible refine wp_cutT ?_ | with_reducible refine wp_tupZ ?_ | with_reducible refine If.n ?_ | ((with_reducible refine If_tr ?_ ?_); · rfl) | ((with_reducible refine If_fa ?_ ?_); · rfl) | with_reducible refine ex_bl ?_ | with_reducible refine ex_int ?_ | with_reducible refine ex_int2 ?_ | with_reducible refine inW_mk ?_ | ((with_reducible refine ex_some (y := ?_) ?_ ?_); rotate_left; · rfl) | ((with_reducible refine and_len ?_ ?_); · rfl) | ((with_reducible refine and_hty ?_ ?_); · rfl) | ((with_reducible refine and_le ?_ ?_); · exact Nat.le_of_ble_eq_true rfl) | ((with_reducible refine and_bd ?_ ?_); · first | decide | omega)))
          refine wp_appW (k := 0) rfl (by rw [show (ords qu).length = qu.length by simp [ords]]; omega) ?_
          (repeat (first | with_reducible refine we_c ?_ | ((with_reducible refine we_v (w := ?_) ?_ ?_); rotate_left; · rfl) | with_reducible refine we_b ?_ | with_reducible refine we_a ?_ | with_reducible refine wa_c ?_ | with_reducible refine wa_n ?_ | with_reducible refine we_mt ?_ | with_reducible refine we_call ?_ | with_reducible refine we_tup ?_ | with_reducible refine we_lstW ?_ | with_reducible refine we_u ?_ | with_reducible refine we_not ?_ | with_reducible refine we_if ?_ | with_reducible refine we_and ?_ | with_reducible refine we_or ?_ | with_reducible refine we_cut ?_ | with_reducible refine wo_n ?_ | with_reducible refine wo_s ?_ | with_reducible refine wb_b ?_ | with_reducible refine wb_v ?_ | with_reducible refine wb_o ?_ | with_reducible refine wb_and ?_ | with_reducible refine wb_or ?_ | with_reducible refine wb_not ?_ | with_reducible refine wb_yes ?_ | with_reducible refine we_ch ?_ | with_reducible refine wx_n ?_ | with_reducible refine wx_c ?_ | with_reducible refine ss_n ?_ | with_reducible refine ss_c ?_ | with_reducible refine ss_set ?_ | with_reducible refine ss_ex ?_ | with_reducible refine ss_ret ?_ | with_reducible refine ss_retN ?_ | with_reducible refine ss_bk ?_ | with_reducible refine ss_ct ?_ | with_reducible refine ss_if ?_ | with_reducible refine ss_asg ?_ | with_reducible refine ss_put ?_ | with_reducible refine ss_for ?_ | with_reducible refine wi_a ?_ | with_reducible refine wi_r1 ?_ | with_reducible refine wi_r2 ?_ | with_reducible refine wp_ai ?_ | with_reducible refine wp_si ?_ | ((with_reducible refine wp_ml ?_ ?_); · decide) | ((with_reducible refine wp_mr ?_ ?_); · decide) | ((with_reducible refine wp_md ?_ ?_); · decide) | with_reducible refine wp_ng ?_ | with_reducible refine wp_eqi ?_ | with_reducible refine wp_eqs ?_ | with_reducible refine wp_eqb ?_ | with_reducible refine wp_nei ?_ | with_reducible refine wp_nes ?_ | with_reducible refine wp_neb ?_ | with_reducible refine wp_lt ?_ | with_reducible refine wp_le ?_ | with_reducible refine wp_gt ?_ | with_reducible refine wp_ge ?_ | with_reducible refine wp_isn ?_ | with_reducible refine wp_isnn ?_ | with_reducible refine wp_isb ?_ | with_reducible refine wp_isnb ?_ | with_reducible refine wp_int ?_ | with_reducible refine wp_min ?_ | with_reducible refine wp_max ?_ | with_reducible refine wp_lent ?_ | ((with_reducible refine wp_ixt (w := ?_) ?_ ?_); rotate_left; · rfl) | with_reducible refine wp_cutT ?_ | with_reducible refine wp_tupZ ?_ | with_reducible refine If.n ?_ | ((with_reducible refine If_tr ?_ ?_); · rfl) | ((with_reducible refine If_fa ?_ ?_); · rfl) | with_reducible refine ex_bl ?_ | with_reducible refine ex_int ?_ | with_reducible refine ex_int2 ?_ | with_reducible refine inW_mk ?_ | ((with_reducible refine ex_some (y := ?_) ?_ ?_); rotate_left; · rfl) | ((with_reducible refine and_len ?_ ?_); · rfl) | ((with_reducible refine and_hty ?_ ?_); · rfl) | ((with_reducible refine and_le ?_ ?_); · exact Nat.le_of_ble_eq_true rfl) | ((with_reducible refine and_bd ?_ ?_); · first | decide | omega)))
          have hp' : (qu ++ [(dl goals p.1 k, p.2 ++ [k])])[at']? = some p := by rw [List.getElem?_append_left (List.getElem?_eq_some_iff.mp hp).1]; exact hp
          refine hd ⟨qu ++ [(dl goals p.1 k, p.2 ++ [k])], _, _, rfl, by simp [ords], hq.new hp hk hmet, fun i hi q hqi => ?_, hp', fun q hqm => ?_⟩
          rotate_left
          · rw [List.length_append, List.length_singleton]
            rcases List.mem_append.mp hqm with hqm | hqm
            · have := hwl q hqm; omega
            · simp at hqm; subst hqm
              have := hwl p (List.mem_of_getElem? hp)
              simp; omega
          rw [List.getElem?_append_left (by have := (List.getElem?_eq_some_iff.mp hp).1; omega)] at hqi
          exact hno i hi q hqi
      · rintro fm st ⟨qu, x8, x9, rfl, rfl, hq, hno, hp, hwl⟩
        rw [rng_len] at hq
        have hal := (List.getElem?_eq_some_iff.mp hp).1
        have hqs := hsm hq
        (repeat (first | with_reducible refine we_c ?_ | ((with_reducible refine we_v (w := ?_) ?_ ?_); rotate_left; · rfl) | with_reducible refine we_b ?_ | with_reducible refine we_a ?_ | with_reducible refine wa_c ?_ | with_reducible refine wa_n ?_ | with_reducible refine we_mt ?_ | with_reducible refine we_call ?_ | with_reducible refine we_tup ?_ | with_reducible refine we_lstW ?_ | with_reducible refine we_u ?_ | with_reducible refine we_not ?_ | with_reducible refine we_if ?_ | with_reducible refine we_and ?_ | with_reducible refine we_or ?_ | with_reducible refine we_cut ?_ | with_reducible refine wo_n ?_ | with_reducible refine wo_s ?_ | with_reducible refine wb_b ?_ | with_reducible refine wb_v ?_ | with_reducible refine wb_o ?_ | with_reducible refine wb_and ?_ | with_reducible refine wb_or ?_ | with_reducible refine wb_not ?_ | with_reducible refine wb_yes ?_ | with_reducible refine we_ch ?_ | with_reducible refine wx_n ?_ | with_reducible refine wx_c ?_ | with_reducible refine ss_n ?_ | with_reducible refine ss_c ?_ | with_reducible refine ss_set ?_ | with_reducible refine ss_ex ?_ | with_reducible refine ss_ret ?_ | with_reducible refine ss_retN ?_ | with_reducible refine ss_bk ?_ | with_reducible refine ss_ct ?_ | with_reducible refine ss_if ?_ | with_reducible refine ss_asg ?_ | with_reducible refine ss_put ?_ | with_reducible refine ss_for ?_ | with_reducible refine wi_a ?_ | with_reducible refine wi_r1 ?_ | with_reducible refine wi_r2 ?_ | with_reducible refine wp_ai ?_ | with_reducible refine wp_si ?_ | ((with_reducible refine wp_ml ?_ ?_); · decide) | ((with_reducible refine wp_mr ?_ ?_); · decide) | ((with_reducible refine wp_md ?_ ?_); · decide) | with_reducible refine wp_ng ?_ | with_reducible refine wp_eqi ?_ | with_reducible refine wp_eqs ?_ | with_reducible refine wp_eqb ?_ | with_reducible refine wp_nei ?_ | with_reducible refine wp_nes ?_ | with_reducible refine wp_neb ?_ | with_reducible refine wp_lt ?_ | with_reducible refine wp_le ?_ | with_reducible refine wp_gt ?_ | with_reducible refine wp_ge ?_ | with_reducible refine wp_isn ?_ | with_reducible refine wp_isnn ?_ | with_reducible refine wp_isb ?_ | with_reducible refine wp_isnb ?_ | with_reducible refine wp_int ?_ | with_reducible refine wp_min ?_ | with_reducible refine wp_max ?_ | with_reducible refine wp_lent ?_ | ((with_reducible refine wp_ixt (w := ?_) ?_ ?_); rotate_left; · rfl) | with_reducible refine wp_cutT ?_ | with_reducible refine wp_tupZ ?_ | with_reducible refine If.n ?_ | ((with_reducible refine If_tr ?_ ?_); · rfl) | ((with_reducible refine If_fa ?_ ?_); · rfl) | with_reducible refine ex_bl ?_ | with_reducible refine ex_int ?_ | with_reducible refine ex_int2 ?_ | with_reducible refine inW_mk ?_ | ((with_reducible refine ex_some (y := ?_) ?_ ?_); rotate_left; · rfl) | ((with_reducible refine and_len ?_ ?_); · rfl) | ((with_reducible refine and_hty ?_ ?_); · rfl) | ((with_reducible refine and_le ?_ ?_); · exact Nat.le_of_ble_eq_true rfl) | ((with_reducible refine and_bd ?_ ?_); · first | decide | omega)))
        refine ⟨m - 1, by omega, hd ⟨qu, at' + 1, _, _, _, rfl, rfl, hq.next hal, fun i hi q hqi => ?_, by omega, hwl⟩⟩
        by_cases hia : i = at'
        · subst hia
          rw [hp] at hqi
          cases hqi
          exact hacc
        · exact hno i (by omega) q hqi
  · have ha : at' = qu.length := by have := hq.le; omega
    subst ha
    (repeat (first | with_reducible refine we_c ?_ | ((with_reducible refine we_v (w := ?_) ?_ ?_); rotate_left; · rfl) | with_reducible refine we_b ?_ | with_reducible refine we_a ?_ | with_reducible refine wa_c ?_ | with_reducible refine wa_n ?_ | with_reducible refine we_mt ?_ | with_reducible refine we_call ?_ | with_reducible refine we_tup ?_ | with_reducible refine we_lstW ?_ | with_reducible refine we_u ?_ | with_reducible refine we_not ?_ | with_reducible refine we_if ?_ | with_reducible refine we_and ?_ | with_reducible refine we_or ?_ | with_reducible refine we_cut ?_ | with_reducible refine wo_n ?_ | with_reducible refine wo_s ?_ | with_reducible refine wb_b ?_ | with_reducible refine wb_v ?_ | with_reducible refine wb_o ?_ | with_reducible refine wb_and ?_ | with_reducible refine wb_or ?_ | with_reducible refine wb_not ?_ | with_reducible refine wb_yes ?_ | with_reducible refine we_ch ?_ | with_reducible refine wx_n ?_ | with_reducible refine wx_c ?_ | with_reducible refine ss_n ?_ | with_reducible refine ss_c ?_ | with_reducible refine ss_set ?_ | with_reducible refine ss_ex ?_ | with_reducible refine ss_ret ?_ | with_reducible refine ss_retN ?_ | with_reducible refine ss_bk ?_ | with_reducible refine ss_ct ?_ | with_reducible refine ss_if ?_ | with_reducible refine ss_asg ?_ | with_reducible refine ss_put ?_ | with_reducible refine ss_for ?_ | with_reducible refine wi_a ?_ | with_reducible refine wi_r1 ?_ | with_reducible refine wi_r2 ?_ | with_reducible refine wp_ai ?_ | with_reducible refine wp_si ?_ | ((with_reducible refine wp_ml ?_ ?_); · decide) | ((with_reducible refine wp_mr ?_ ?_); · decide) | ((with_reducible refine wp_md ?_ ?_); · decide) | with_reducible refine wp_ng ?_ | with_reducible refine wp_eqi ?_ | with_reducible refine wp_eqs ?_ | with_reducible refine wp_eqb ?_ | with_reducible refine wp_nei ?_ | with_reducible refine wp_nes ?_ | with_reducible refine wp_neb ?_ | with_reducible refine wp_lt ?_ | with_reducible refine wp_le ?_ | with_reducible refine wp_gt ?_ | with_reducible refine wp_ge ?_ | with_reducible refine wp_isn ?_ | with_reducible refine wp_isnn ?_ | with_reducible refine wp_isb ?_ | with_reducible refine wp_isnb ?_ | with_reducible refine wp_int ?_ | with_reducible refine wp_min ?_ | with_reducible refine wp_max ?_ | with_reducible refine wp_lent ?_ | ((with_reducible refine wp_ixt (w := ?_) ?_ ?_); rotate_left; · rfl) | with_reducible refine wp_cutT ?_ | with_reducible refine wp_tupZ ?_ | with_reducible refine If.n ?_ | ((with_reducible refine If_tr ?_ ?_); · rfl) | ((with_reducible refine If_fa ?_ ?_); · rfl) | with_reducible refine ex_bl ?_ | with_reducible refine ex_int ?_ | with_reducible refine ex_int2 ?_ | with_reducible refine inW_mk ?_ | ((with_reducible refine ex_some (y := ?_) ?_ ?_); rotate_left; · rfl) | ((with_reducible refine and_len ?_ ?_); · rfl) | ((with_reducible refine and_hty ?_ ?_); · rfl) | ((with_reducible refine and_le ?_ ?_); · exact Nat.le_of_ble_eq_true rfl) | ((with_reducible refine and_bd ?_ ?_); · first | decide | omega)))
    rw [W_fin_n]
    refine hd ⟨rfl, .inr ⟨rfl, hq.none fun q hqm => ?_⟩⟩
    obtain ⟨i, hi⟩ := List.getElem?_of_mem hqm
    exact hno i (List.getElem?_eq_some_iff.mp hi).1 q hi
end L_k05
set_option maxHeartbeats 4000000
namespace L_k05
open PySem PySem.Spec PyProof.Rows L2 T3
theorem nin_ords {n : Nat} {qu : List (Nat × List Nat)} {g : Nat} {st : Sto} (h : st[n]? = some (.lst (ords qu))) : gNin (.int (g : Nat)) (.ref n) st = some (.bl (!decide (g ∈ qu.map (·.1))), st) := by
  have key : ∀ qu : List (Nat × List Nat), ∃ vs, atomsV (ords qu) = some vs ∧ inV (.int (g : Nat)) vs = decide (g ∈ qu.map (·.1)) := by
    intro qu
    induction qu with
    | nil => exact ⟨[], rfl, rfl⟩
    | cons p qu ih =>
      obtain ⟨vs, e1, e2⟩ := ih
      refine ⟨.int (p.1 : Nat) :: vs, ?_, ?_⟩
      · unfold ords at e1 ⊢
        rw [List.map_cons, atomsV, e1]; rfl
      · unfold inV at e2 ⊢
        rw [List.any_cons, e2]
        have : eqV (.int (p.1 : Nat)) (.int (g : Nat)) = decide (p.1 = g) := by
          unfold eqV
          by_cases e : p.1 = g
          · subst e; simp
          · simp [e]; omega
        rw [this]
        by_cases e : g = p.1
        · subst e; simp
        · have e' : ¬ p.1 = g := fun z => e z.symm
          simp [e, e']
  obtain ⟨vs, e1, e2⟩ := key qu
  have h1 : inS (.int (g : Nat)) (.ref n) st = some (decide (g ∈ qu.map (·.1))) := by
    simp only [inS, seqOf, itemsOf, h, Option.bind_some, inSeq, atomV, e1, e2]
  simp only [gNin, inW, h1, Option.map_some]
/-- the items of a level -/
def rowW (ls : List Nat) (qu : List (Nat × List Nat)) : List Va := qu.map fun p => .tup [.str (txt ls p.2), .int (p.1 : Nat)]
theorem row_get {ls : List Nat} {qu : List (Nat × List Nat)} {a j : Nat} {w : Va} (h : (rowW ls (qu.drop a))[j]? = some w) : ∃ p, qu[a + j]? = some p ∧ w = .tup [.str (txt ls p.2), .int (p.1 : Nat)] := by
  unfold rowW at h
  rw [List.getElem?_map, List.getElem?_drop] at h
  obtain ⟨p, hp, rfl⟩ := Option.map_eq_some_iff.mp h
  exact ⟨p, hp, rfl⟩
theorem first_eq {ls : List Nat} {goals : List (List Nat)} {ends : List Bool} (h : WF ls goals ends) (hl : 1 ≤ ls.length ∧ ls.length ≤ 3) (hS : goals.length ≤ 7) (e : Dw) (a : Nat) (L : Sto) :
    Wp (m__law_first [setV ls goals ends] (W e a L [])) fun w s => Hd (s = W e a L [] ∧ ((∃ t, w = .str (txt ls t) ∧ Bfs.Least ls.length (dl goals) (acc ends) t) ∨ (w = .non ∧ ∀ u, Bfs.Wd ls.length u → acc ends (Bfs.run (dl goals) u) = false))) := by
  unfold m__law_first
  refine wp_fn rfl ?_
  have hsm : ∀ {qu a k}, Bfs.Q ls.length (dl goals) qu a k → qu.length ≤ goals.length := fun {qu a k} hq => by
    have := few goals.length _ hq.nodup fun x hx => by
      obtain ⟨p, hp, rfl⟩ := List.mem_map.mp hx
      obtain ⟨h1, h2⟩ := hq.word p hp
      rw [← h1]
      exact run_lt h _ _ rfl h2
    rwa [List.length_map] at this
  have hlt : ∀ {qu a k p}, Bfs.Q ls.length (dl goals) qu a k → p ∈ qu → p.1 < goals.length := fun {qu a k p} hq hp => by
    obtain ⟨h1, h2⟩ := hq.word p hp
    rw [← h1]
    exact run_lt h _ _ rfl h2
  have hen : ∀ q, q < goals.length → atI (ends.map Va.bl) (q : Int) = some (.bl (acc ends q)) := fun q hq => by
    have he := h.ends
    rw [atI_map, atI_n]
    unfold acc
    rw [List.getElem?_eq_getElem (show q < ends.length by omega)]; rfl
  (repeat (first | with_reducible refine we_c ?_ | ((with_reducible refine we_v (w := ?_) ?_ ?_); rotate_left; · rfl) | with_reducible refine we_b ?_ | with_reducible refine we_a ?_ | with_reducible refine wa_c ?_ | with_reducible refine wa_n ?_ | with_reducible refine we_mt ?_ | with_reducible refine we_call ?_ | with_reducible refine we_tup ?_ | with_reducible refine we_lstW ?_ | with_reducible refine we_u ?_ | with_reducible refine we_not ?_ | with_reducible refine we_if ?_ | with_reducible refine we_and ?_ | with_reducible refine we_or ?_ | with_reducible refine we_cut ?_ | with_reducible refine wo_n ?_ | with_reducible refine wo_s ?_ | with_reducible refine wb_b ?_ | with_reducible refine wb_v ?_ | with_reducible refine wb_o ?_ | with_reducible refine wb_and ?_ | with_reducible refine wb_or ?_ | with_reducible refine wb_not ?_ | with_reducible refine wb_yes ?_ | with_reducible refine we_ch ?_ | with_reducible refine wx_n ?_ | with_reducible refine wx_c ?_ | with_reducible refine ss_n ?_ | with_reducible refine ss_c ?_ | with_reducible refine ss_set ?_ | with_reducible refine ss_ex ?_ | with_reducible refine ss_ret ?_ | with_reducible refine ss_retN ?_ | with_reducible refine ss_bk ?_ | with_reducible refine ss_ct ?_ | with_reducible refine ss_if ?_ | with_reducible refine ss_asg ?_ | with_reducible refine ss_put ?_ | with_reducible refine ss_for ?_ | with_reducible refine wi_a ?_ | with_reducible refine wi_r1 ?_ | with_reducible refine wi_r2 ?_ | with_reducible refine wp_ai ?_ | with_reducible refine wp_si ?_ | ((with_reducible refine wp_ml ?_ ?_); · decide) | ((with_reducible refine wp_mr ?_ ?_); · decide) | ((with_reducible refine wp_md ?_ ?_); · decide) | with_reducible refine wp_ng ?_ | with_reducible refine wp_eqi ?_ | with_reducible refine wp_eqs ?_ | with_reducible refine wp_eqb ?_ | with_reducible refine wp_nei ?_ | with_reducible refine wp_nes ?_ | with_reducible refine wp_neb ?_ | with_reducible refine wp_lt ?_ | with_reducible refine wp_le ?_ | with_reducible refine wp_gt ?_ | with_reducible refine wp_ge ?_ | with_reducible refine wp_isn ?_ | with_reducible refine wp_isnn ?_ | with_reducible refine wp_isb ?_ | with_reducible refine wp_isnb ?_ | with_reducible refine wp_int ?_ | with_reducible refine wp_min ?_ | with_reducible refine wp_max ?_ | with_reducible refine wp_lent ?_ | ((with_reducible refine wp_ixt (w := ?_) ?_ ?_); rotate_left; · rfl) | with_reducible refine wp_cutT ?_ | with_reducible refine wp_tupZ ?_ | with_reducible refine If.n ?_ | ((with_reducible refine If_tr ?_ ?_); · rfl) | ((with_reducible refine If_fa ?_ ?_); · rfl) | with_reducible refine ex_bl ?_ | with_reducible refine ex_int ?_ | with_reducible refine ex_int2 ?_ | with_reducible refine inW_mk ?_ | ((with_reducible refine ex_some (y := ?_) ?_ ?_); rotate_left; · rfl) | ((with_reducible refine and_len ?_ ?_); · rfl) | ((with_reducible refine and_hty ?_ ?_); · rfl) | ((with_reducible refine and_le ?_ ?_); · exact Nat.le_of_ble_eq_true rfl) | ((with_reducible refine and_bd ?_ ?_); · first | decide | omega)))
  refine and_bd ⟨by omega, by simp; omega⟩ ?_
  refine wl_inv (fun i fm st => Hd (∃ qu a' k M x3 x4 x5 x6 x7 x8, fm = [some (setV ls goals ends), some (.ref (e.p L + k)), some (.ref (e.p L + 1)), x3, x4, x5, x6, x7, x8] ∧ st = W e a L M ∧ M[k]? = some (.lst (rowW ls (qu.drop a'))) ∧ M[1]? = some (.lst (ords qu)) ∧ k ≠ 1 ∧
    Bfs.Q ls.length (dl goals) qu a' 0 ∧ (∀ i, i < a' → ∀ q, qu[i]? = some q → acc ends q.1 = false) ∧ (i ≤ a' ∨ a' = qu.length) ∧ ∀ p ∈ qu, p.2.length < qu.length)) (fun _ _ _ _ => trivial) (hd ⟨[(0, [])], 0, 0, _, _, _, _, _, _, _, rfl, rfl, rfl, rfl, by decide, Bfs.Q.init _ _ hl.1, fun i hi => by omega, .inl (Nat.le_refl _), fun p hp => by simp at hp; subst hp; simp⟩) ?_ ?_
  · rintro i w hw fm st ⟨qu, a', k, M, x3, x4, x5, x6, x7, x8, rfl, rfl, hk, h1, hk1, hq, hno, hia, hwl⟩
    refine ⟨_, rfl, ?_⟩
    refine ss_c (ss_set ?_)
    (repeat (first | with_reducible refine we_c ?_ | ((with_reducible refine we_v (w := ?_) ?_ ?_); rotate_left; · rfl) | with_reducible refine we_b ?_ | with_reducible refine we_a ?_ | with_reducible refine wa_c ?_ | with_reducible refine wa_n ?_ | with_reducible refine we_mt ?_ | with_reducible refine we_call ?_ | with_reducible refine we_tup ?_ | with_reducible refine we_lstW ?_ | with_reducible refine we_u ?_ | with_reducible refine we_not ?_ | with_reducible refine we_if ?_ | with_reducible refine we_and ?_ | with_reducible refine we_or ?_ | with_reducible refine we_cut ?_ | with_reducible refine wo_n ?_ | with_reducible refine wo_s ?_ | with_reducible refine wb_b ?_ | with_reducible refine wb_v ?_ | with_reducible refine wb_o ?_ | with_reducible refine wb_and ?_ | with_reducible refine wb_or ?_ | with_reducible refine wb_not ?_ | with_reducible refine wb_yes ?_ | with_reducible refine we_ch ?_ | with_reducible refine wx_n ?_ | with_reducible refine wx_c ?_ | with_reducible refine ss_n ?_ | with_reducible refine ss_c ?_ | with_reducible refine ss_set ?_ | with_reducible refine ss_ex ?_ | with_reducible refine ss_ret ?_ | with_reducible refine ss_retN ?_ | with_reducible refine ss_bk ?_ | with_reducible refine ss_ct ?_ | with_reducible refine ss_if ?_ | with_reducible refine ss_asg ?_ | with_reducible refine ss_put ?_ | with_reducible refine ss_for ?_ | with_reducible refine wi_a ?_ | with_reducible refine wi_r1 ?_ | with_reducible refine wi_r2 ?_ | with_reducible refine wp_ai ?_ | with_reducible refine wp_si ?_ | ((with_reducible refine wp_ml ?_ ?_); · decide) | ((with_reducible refine wp_mr ?_ ?_); · decide) | ((with_reducible refine wp_md ?_ ?_); · decide) | with_reducible refine wp_ng ?_ | with_reducible refine wp_eqi ?_ | with_reducible refine wp_eqs ?_ | with_reducible refine wp_eqb ?_ | with_reducible refine wp_nei ?_ | with_reducible refine wp_nes ?_ | with_reducible refine wp_neb ?_ | with_reducible refine wp_lt ?_ | with_reducible refine wp_le ?_ | with_reducible refine wp_gt ?_ | with_reducible refine wp_ge ?_ | with_reducible refine wp_isn ?_ | with_reducible refine wp_isnn ?_ | with_reducible refine wp_isb ?_ | with_reducible refine wp_isnb ?_ | with_reducible refine wp_int ?_ | with_reducible refine wp_min ?_ | with_reducible refine wp_max ?_ | with_reducible refine wp_lent ?_ | ((with_reducible refine wp_ixt (w := ?_) ?_ ?_); rotate_left; · rfl) | with_reducible refine wp_cutT ?_ | with_reducible refine wp_tupZ ?_ | with_reducible refine If.n ?_ | ((with_reducible refine If_tr ?_ ?_); · rfl) | ((with_reducible refine If_fa ?_ ?_); · rfl) | with_reducible refine ex_bl ?_ | with_reducible refine ex_int ?_ | with_reducible refine ex_int2 ?_ | with_reducible refine inW_mk ?_ | ((with_reducible refine ex_some (y := ?_) ?_ ?_); rotate_left; · rfl) | ((with_reducible refine and_len ?_ ?_); · rfl) | ((with_reducible refine and_hty ?_ ?_); · rfl) | ((with_reducible refine and_le ?_ ?_); · exact Nat.le_of_ble_eq_true rfl) | ((with_reducible refine and_bd ?_ ?_); · first | decide | omega)))
    have hj : (M ++ [Ob.lst []] : Sto)[M.length]? = some (.lst []) := at_last
    have hk' : (M ++ [Ob.lst []] : Sto)[k]? = some (.lst (rowW ls (qu.drop a'))) := at_push hk
    have h1' : (M ++ [Ob.lst []] : Sto)[1]? = some (.lst (ords qu)) := at_push h1
    have hjk : M.length ≠ k := by have := at_lt hk; omega
    have hj1 : M.length ≠ 1 := by have := at_lt h1; omega
    generalize M.length = j at hj hjk hj1 ⊢
    generalize (M ++ [Ob.lst []] : Sto) = M' at hj hk' h1' ⊢
    refine ex_some (y := ⟨rowW ls (qu.drop a'), fun st => st[e.p L + k]? = some (.lst (rowW ls (qu.drop a')))⟩) (by simp only [srcOf, W_get, hk']) ?_
    have hrl : (rowW ls (qu.drop a')).length = qu.length - a' := by simp [rowW]
    have hle := hq.le
    refine wl_inv (fun t fm st => Hd (∃ qu' M x5 x6 x7 x8, fm = [some (setV ls goals ends), some (.ref (e.p L + k)), some (.ref (e.p L + 1)), some w, some (.ref (e.p L + j)), x5, x6, x7, x8] ∧ st = W e a L M ∧ M[k]? = some (.lst (rowW ls (qu.drop a'))) ∧ M[1]? = some (.lst (ords qu')) ∧ M[j]? = some (.lst (rowW ls (qu'.drop qu.length))) ∧
      qu <+: qu' ∧ Bfs.Q ls.length (dl goals) qu' (a' + t) 0 ∧ (∀ i, i < a' + t → ∀ q, qu'[i]? = some q → acc ends q.1 = false) ∧ (t = 0 → qu' = qu) ∧ ∀ p ∈ qu', p.2.length < qu'.length)) (by
        rintro t fm st ⟨qu', M, x5, x6, x7, x8, rfl, rfl, hk, _⟩
        exact (W_get k).trans hk) (hd ⟨qu, _, _, _, _, _, rfl, rfl, hk', h1', by rw [List.drop_length]; exact hj, List.prefix_refl _, hq, hno, fun _ => rfl, hwl⟩) ?_ ?_
    · rintro t y hy fm st ⟨qu', M, x5, x6, x7, x8, rfl, rfl, hk, h1, hj, hpre, hq, hno, hz, hwl⟩
      obtain ⟨p, hp0, rfl⟩ := row_get hy
      have hp : qu'[a' + t]? = some p := by
        obtain ⟨z, rfl⟩ := hpre
        rw [List.getElem?_append_left (List.getElem?_eq_some_iff.mp hp0).1]; exact hp0
      have hpl := hlt hq (List.mem_of_getElem? hp)
      refine ⟨_, rfl, ?_⟩
      (repeat (first | with_reducible refine we_c ?_ | ((with_reducible refine we_v (w := ?_) ?_ ?_); rotate_left; · rfl) | with_reducible refine we_b ?_ | with_reducible refine we_a ?_ | with_reducible refine wa_c ?_ | with_reducible refine wa_n ?_ | with_reducible refine we_mt ?_ | with_reducible refine we_call ?_ | with_reducible refine we_tup ?_ | with_reducible refine we_lstW ?_ | with_reducible refine we_u ?_ | with_reducible refine we_not ?_ | with_reducible refine we_if ?_ | with_reducible refine we_and ?_ | with_reducible refine we_or ?_ | with_reducible refine we_cut ?_ | with_reducible refine wo_n ?_ | with_reducible refine wo_s ?_ | with_reducible refine wb_b ?_ | with_reducible refine wb_v ?_ | with_reducible refine wb_o ?_ | with_reducible refine wb_and ?_ | with_reducible refine wb_or ?_ | with_reducible refine wb_not ?_ | with_reducible refine wb_yes ?_ | with_reducible refine we_ch ?_ | with_reducible refine wx_n ?_ | with_reducible refine wx_c ?_ | with_reducible refine ss_n ?_ | with_reducible refine ss_c ?_ | with_reducible refine ss_set ?_ | with_reducible refine ss_ex ?_ | with_reducible refine ss_ret ?_ | with_reducible refine ss_retN ?_ | with_reducible refine ss_bk ?_ | with_reducible refine ss_ct ?_ | with_reducible refine ss_if ?_ | with_reducible refine ss_asg ?_ | with_reducible refine ss_put ?_ | with_reducible refine ss_for ?_ | with_reducible refine wi_a ?_ | with_reducible refine wi_r1 ?_ | with_reducible refine wi_r2 ?_ | with_reducible refine wp_ai ?_ | with_reducible refine wp_si ?_ | ((with_reducible refine wp_ml ?_ ?_); · decide) | ((with_reducible refine wp_mr ?_ ?_); · decide) | ((with_reducible refine wp_md ?_ ?_); · decide) | with_reducible refine wp_ng ?_ | with_reducible refine wp_eqi ?_ | with_reducible refine wp_eqs ?_ | with_reducible refine wp_eqb ?_ | with_reducible refine wp_nei ?_ | with_reducible refine wp_nes ?_ | with_reducible refine wp_neb ?_ | with_reducible refine wp_lt ?_ | with_reducible refine wp_le ?_ | with_reducible refine wp_gt ?_ | with_reducible refine wp_ge ?_ | with_reducible refine wp_isn ?_ | with_reducible refine wp_isnn ?_ | with_reducible refine wp_isb ?_ | with_reducible refine wp_isnb ?_ | with_reducible refine wp_int ?_ | with_reducible refine wp_min ?_ | with_reducible refine wp_max ?_ | with_reducible refine wp_lent ?_ | ((with_reducible refine wp_ixt (w := ?_) ?_ ?_); rotate_left; · rfl) | with_reducible refine wp_cutT ?_ | with_reducible refine wp_tupZ ?_ | with_reducible refine If.n ?_ | ((with_reducible refine If_tr ?_ ?_); · rfl) | ((with_reducible refine If_fa ?_ ?_); · rfl) | with_reducible refine ex_bl ?_ | with_reducible refine ex_int ?_ | with_reducible refine ex_int2 ?_ | with_reducible refine inW_mk ?_ | ((with_reducible refine ex_some (y := ?_) ?_ ?_); rotate_left; · rfl) | ((with_reducible refine and_len ?_ ?_); · rfl) | ((with_reducible refine and_hty ?_ ?_); · rfl) | ((with_reducible refine and_le ?_ ?_); · exact Nat.le_of_ble_eq_true rfl) | ((with_reducible refine and_bd ?_ ?_); · first | decide | omega)))
      refine wp_ixt (hen p.1 hpl) ?_
      refine ex_some (y := acc ends p.1) rfl ?_
      refine ⟨fun hacc => ?_, fun hacc => ?_⟩
      · (repeat (first | with_reducible refine we_c ?_ | ((with_reducible refine we_v (w := ?_) ?_ ?_); rotate_left; · rfl) | with_reducible refine we_b ?_ | with_reducible refine we_a ?_ | with_reducible refine wa_c ?_ | with_reducible refine wa_n ?_ | with_reducible refine we_mt ?_ | with_reducible refine we_call ?_ | with_reducible refine we_tup ?_ | with_reducible refine we_lstW ?_ | with_reducible refine we_u ?_ | with_reducible refine we_not ?_ | with_reducible refine we_if ?_ | with_reducible refine we_and ?_ | with_reducible refine we_or ?_ | with_reducible refine we_cut ?_ | with_reducible refine wo_n ?_ | with_reducible refine wo_s ?_ | with_reducible refine wb_b ?_ | with_reducible refine wb_v ?_ | with_reducible refine wb_o ?_ | with_reducible refine wb_and ?_ | with_reducible refine wb_or ?_ | with_reducible refine wb_not ?_ | with_reducible refine wb_yes ?_ | with_reducible refine we_ch ?_ | with_reducible refine wx_n ?_ | with_reducible refine wx_c ?_ | with_reducible refine ss_n ?_ | with_reducible refine ss_c ?_ | with_reducible refine ss_set ?_ | with_reducible refine ss_ex ?_ | with_reducible refine ss_ret ?_ | with_reducible refine ss_retN ?_ | with_reducible refine ss_bk ?_ | with_reducible refine ss_ct ?_ | with_reducible refine ss_if ?_ | with_reducible refine ss_asg ?_ | with_reducible refine ss_put ?_ | with_reducible refine ss_for ?_ | with_reducible refine wi_a ?_ | with_reducible refine wi_r1 ?_ | with_reducible refine wi_r2 ?_ | with_reducible refine wp_ai ?_ | with_reducible refine wp_si ?_ | ((with_reducible refine wp_ml ?_ ?_); · decide) | ((with_reducible refine wp_mr ?_ ?_); · decide) | ((with_reducible refine wp_md ?_ ?_); · decide) | with_reducible refine wp_ng ?_ | with_reducible refine wp_eqi ?_ | with_reducible refine wp_eqs ?_ | with_reducible refine wp_eqb ?_ | with_reducible refine wp_nei ?_ | with_reducible refine wp_nes ?_ | with_reducible refine wp_neb ?_ | with_reducible refine wp_lt ?_ | with_reducible refine wp_le ?_ | with_reducible refine wp_gt ?_ | with_reducible refine wp_ge ?_ | with_reducible refine wp_isn ?_ | with_reducible refine wp_isnn ?_ | with_reducible refine wp_isb ?_ | with_reducible refine wp_isnb ?_ | with_reducible refine wp_int ?_ | with_reducible refine wp_min ?_ | with_reducible refine wp_max ?_ | with_reducible refine wp_lent ?_ | ((with_reducible refine wp_ixt (w := ?_) ?_ ?_); rotate_left; · rfl) | with_reducible refine wp_cutT ?_ | with_reducible refine wp_tupZ ?_ | with_reducible refine If.n ?_ | ((with_reducible refine If_tr ?_ ?_); · rfl) | ((with_reducible refine If_fa ?_ ?_); · rfl) | with_reducible refine ex_bl ?_ | with_reducible refine ex_int ?_ | with_reducible refine ex_int2 ?_ | with_reducible refine inW_mk ?_ | ((with_reducible refine ex_some (y := ?_) ?_ ?_); rotate_left; · rfl) | ((with_reducible refine and_len ?_ ?_); · rfl) | ((with_reducible refine and_hty ?_ ?_); · rfl) | ((with_reducible refine and_le ?_ ?_); · exact Nat.le_of_ble_eq_true rfl) | ((with_reducible refine and_bd ?_ ?_); · first | decide | omega)))
        rw [W_fin_s]
        exact hd ⟨rfl, .inl ⟨p.2, rfl, hq.found hl.1 hp hacc hno⟩⟩
      · (repeat (first | with_reducible refine we_c ?_ | ((with_reducible refine we_v (w := ?_) ?_ ?_); rotate_left; · rfl) | with_reducible refine we_b ?_ | with_reducible refine we_a ?_ | with_reducible refine wa_c ?_ | with_reducible refine wa_n ?_ | with_reducible refine we_mt ?_ | with_reducible refine we_call ?_ | with_reducible refine we_tup ?_ | with_reducible refine we_lstW ?_ | with_reducible refine we_u ?_ | with_reducible refine we_not ?_ | with_reducible refine we_if ?_ | with_reducible refine we_and ?_ | with_reducible refine we_or ?_ | with_reducible refine we_cut ?_ | with_reducible refine wo_n ?_ | with_reducible refine wo_s ?_ | with_reducible refine wb_b ?_ | with_reducible refine wb_v ?_ | with_reducible refine wb_o ?_ | with_reducible refine wb_and ?_ | with_reducible refine wb_or ?_ | with_reducible refine wb_not ?_ | with_reducible refine wb_yes ?_ | with_reducible refine we_ch ?_ | with_reducible refine wx_n ?_ | with_reducible refine wx_c ?_ | with_reducible refine ss_n ?_ | with_reducible refine ss_c ?_ | with_reducible refine ss_set ?_ | with_reducible refine ss_ex ?_ | with_reducible refine ss_ret ?_ | with_reducible refine ss_retN ?_ | with_reducible refine ss_bk ?_ | with_reducible refine ss_ct ?_ | with_reducible refine ss_if ?_ | with_reducible refine ss_asg ?_ | with_reducible refine ss_put ?_ | with_reducible refine ss_for ?_ | with_reducible refine wi_a ?_ | with_reducible refine wi_r1 ?_ | with_reducible refine wi_r2 ?_ | with_reducible refine wp_ai ?_ | with_reducible refine wp_si ?_ | ((with_reducible refine wp_ml ?_ ?_); · decide) | ((with_reducible refine wp_mr ?_ ?_); · decide) | ((with_reducible refine wp_md ?_ ?_); · decide) | with_reducible refine wp_ng ?_ | with_reducible refine wp_eqi ?_ | with_reducible refine wp_eqs ?_ | with_reducible refine wp_eqb ?_ | with_reducible refine wp_nei ?_ | with_reducible refine wp_nes ?_ | with_reducible refine wp_neb ?_ | with_reducible refine wp_lt ?_ | with_reducible refine wp_le ?_ | with_reducible refine wp_gt ?_ | with_reducible refine wp_ge ?_ | with_reducible refine wp_isn ?_ | with_reducible refine wp_isnn ?_ | with_reducible refine wp_isb ?_ | with_reducible refine wp_isnb ?_ | with_reducible refine wp_int ?_ | with_reducible refine wp_min ?_ | with_reducible refine wp_max ?_ | with_reducible refine wp_lent ?_ | ((with_reducible refine wp_ixt (w := ?_) ?_ ?_); rotate_left; · rfl) | with_reducible refine wp_cutT ?_ | with_reducible refine wp_tupZ ?_ | with_reducible refine If.n ?_ | ((with_reducible refine If_tr ?_ ?_); · rfl) | ((with_reducible refine If_fa ?_ ?_); · rfl) | with_reducible refine ex_bl ?_ | with_reducible refine ex_int ?_ | with_reducible refine ex_int2 ?_ | with_reducible refine inW_mk ?_ | ((with_reducible refine ex_some (y := ?_) ?_ ?_); rotate_left; · rfl) | ((with_reducible refine and_len ?_ ?_); · rfl) | ((with_reducible refine and_hty ?_ ?_); · rfl) | ((with_reducible refine and_le ?_ ?_); · exact Nat.le_of_ble_eq_true rfl) | ((with_reducible refine and_bd ?_ ?_); · first | decide | omega)))
        refine wp_lens (by omega) ?_
        (repeat (first | with_reducible refine we_c ?_ | ((with_reducible refine we_v (w := ?_) ?_ ?_); rotate_left; · rfl) | with_reducible refine we_b ?_ | with_reducible refine we_a ?_ | with_reducible refine wa_c ?_ | with_reducible refine wa_n ?_ | with_reducible refine we_mt ?_ | with_reducible refine we_call ?_ | with_reducible refine we_tup ?_ | with_reducible refine we_lstW ?_ | with_reducible refine we_u ?_ | with_reducible refine we_not ?_ | with_reducible refine we_if ?_ | with_reducible refine we_and ?_ | with_reducible refine we_or ?_ | with_reducible refine we_cut ?_ | with_reducible refine wo_n ?_ | with_reducible refine wo_s ?_ | with_reducible refine wb_b ?_ | with_reducible refine wb_v ?_ | with_reducible refine wb_o ?_ | with_reducible refine wb_and ?_ | with_reducible refine wb_or ?_ | with_reducible refine wb_not ?_ | with_reducible refine wb_yes ?_ | with_reducible refine we_ch ?_ | with_reducible refine wx_n ?_ | with_reducible refine wx_c ?_ | with_reducible refine ss_n ?_ | with_reducible refine ss_c ?_ | with_reducible refine ss_set ?_ | with_reducible refine ss_ex ?_ | with_reducible refine ss_ret ?_ | with_reducible refine ss_retN ?_ | with_reducible refine ss_bk ?_ | with_reducible refine ss_ct ?_ | with_reducible refine ss_if ?_ | with_reducible refine ss_asg ?_ | with_reducible refine ss_put ?_ | with_reducible refine ss_for ?_ | with_reducible refine wi_a ?_ | with_reducible refine wi_r1 ?_ | with_reducible refine wi_r2 ?_ | with_reducible refine wp_ai ?_ | with_reducible refine wp_si ?_ | ((with_reducible refine wp_ml ?_ ?_); · decide) | ((with_reducible refine wp_mr ?_ ?_); · decide) | ((with_reducible refine wp_md ?_ ?_); · decide) | with_reducible refine wp_ng ?_ | with_reducible refine wp_eqi ?_ | with_reducible refine wp_eqs ?_ | with_reducible refine wp_eqb ?_ | with_reducible refine wp_nei ?_ | with_reducible refine wp_nes ?_ | with_reducible refine wp_neb ?_ | with_reducible refine wp_lt ?_ | with_reducible refine wp_le ?_ | with_reducible refine wp_gt ?_ | with_reducible refine wp_ge ?_ | with_reducible refine wp_isn ?_ | with_reducible refine wp_isnn ?_ | with_reducible refine wp_isb ?_ | with_reducible refine wp_isnb ?_ | with_reducible refine wp_int ?_ | with_reducible refine wp_min ?_ | with_reducible refine wp_max ?_ | with_reducible refine wp_lent ?_ | ((with_reducible refine wp_ixt (w := ?_) ?_ ?_); rotate_left; · rfl) | with_reducible refine wp_cutT ?_ | with_reducible refine wp_tupZ ?_ | with_reducible refine If.n ?_ | ((with_reducible refine If_tr ?_ ?_); · rfl) | ((with_reducible refine If_fa ?_ ?_); · rfl) | with_reducible refine ex_bl ?_ | with_reducible refine ex_int ?_ | with_reducible refine ex_int2 ?_ | with_reducible refine inW_mk ?_ | ((with_reducible refine ex_some (y := ?_) ?_ ?_); rotate_left; · rfl) | ((with_reducible refine and_len ?_ ?_); · rfl) | ((with_reducible refine and_hty ?_ ?_); · rfl) | ((with_reducible refine and_le ?_ ?_); · exact Nat.le_of_ble_eq_true rfl) | ((with_reducible refine and_bd ?_ ?_); · first | decide | omega)))
        rw [Int.toNat_natCast]
        refine wl_inv (fun kk fm st => Hd (∃ qu' M x7 x8, fm = [some (setV ls goals ends), some (.ref (e.p L + k)), some (.ref (e.p L + 1)), some w, some (.ref (e.p L + j)), some (.str (txt ls p.2)), some (.int (p.1 : Nat)), x7, x8] ∧ st = W e a L M ∧ M[k]? = some (.lst (rowW ls (qu.drop a'))) ∧ M[1]? = some (.lst (ords qu')) ∧ M[j]? = some (.lst (rowW ls (qu'.drop qu.length))) ∧
          qu <+: qu' ∧ Bfs.Q ls.length (dl goals) qu' (a' + t) kk ∧ (∀ i, i < a' + t → ∀ q, qu'[i]? = some q → acc ends q.1 = false) ∧ qu'[a' + t]? = some p ∧ ∀ p ∈ qu', p.2.length < qu'.length)) (fun _ _ _ _ => trivial) (hd ⟨qu', M, _, _, rfl, rfl, hk, h1, hj, hpre, hq, hno, hp, hwl⟩) ?_ ?_
        · rintro kk w' hw' fm st ⟨qu', M, x7, x8, rfl, rfl, hk, h1, hj, hpre, hq, hno, hp, hwl⟩
          obtain ⟨rfl, hkk⟩ := rng_get hw'
          obtain ⟨r, g1, g2, g3⟩ := goal_at h hpl hkk
          have hqs := hsm hq
          refine ⟨_, rfl, ?_⟩
          (repeat (first | with_reducible refine we_c ?_ | ((with_reducible refine we_v (w := ?_) ?_ ?_); rotate_left; · rfl) | with_reducible refine we_b ?_ | with_reducible refine we_a ?_ | with_reducible refine wa_c ?_ | with_reducible refine wa_n ?_ | with_reducible refine we_mt ?_ | with_reducible refine we_call ?_ | with_reducible refine we_tup ?_ | with_reducible refine we_lstW ?_ | with_reducible refine we_u ?_ | with_reducible refine we_not ?_ | with_reducible refine we_if ?_ | with_reducible refine we_and ?_ | with_reducible refine we_or ?_ | with_reducible refine we_cut ?_ | with_reducible refine wo_n ?_ | with_reducible refine wo_s ?_ | with_reducible refine wb_b ?_ | with_reducible refine wb_v ?_ | with_reducible refine wb_o ?_ | with_reducible refine wb_and ?_ | with_reducible refine wb_or ?_ | with_reducible refine wb_not ?_ | with_reducible refine wb_yes ?_ | with_reducible refine we_ch ?_ | with_reducible refine wx_n ?_ | with_reducible refine wx_c ?_ | with_reducible refine ss_n ?_ | with_reducible refine ss_c ?_ | with_reducible refine ss_set ?_ | with_reducible refine ss_ex ?_ | with_reducible refine ss_ret ?_ | with_reducible refine ss_retN ?_ | with_reducible refine ss_bk ?_ | with_reducible refine ss_ct ?_ | with_reducible refine ss_if ?_ | with_reducible refine ss_asg ?_ | with_reducible refine ss_put ?_ | with_reducible refine ss_for ?_ | with_reducible refine wi_a ?_ | with_reducible refine wi_r1 ?_ | with_reducible refine wi_r2 ?_ | with_reducible refine wp_ai ?_ | with_reducible refine wp_si ?_ | ((with_reducible refine wp_ml ?_ ?_); · decide) | ((with_reducible refine wp_mr ?_ ?_); · decide) | ((with_reducible refine wp_md ?_ ?_); · decide) | with_reducible refine wp_ng ?_ | with_reducible refine wp_eqi ?_ | with_reducible refine wp_eqs ?_ | with_reducible refine wp_eqb ?_ | with_reducible refine wp_nei ?_ | with_reducible refine wp_nes ?_ | with_reducible refine wp_neb ?_ | with_reducible refine wp_lt ?_ | with_reducible refine wp_le ?_ | with_reducible refine wp_gt ?_ | with_reducible refine wp_ge ?_ | with_reducible refine wp_isn ?_ | with_reducible refine wp_isnn ?_ | with_reducible refine wp_isb ?_ | with_reducible refine wp_isnb ?_ | with_reducible refine wp_int ?_ | with_reducible refine wp_min ?_ | with_reducible refine wp_max ?_ | with_reducible refine wp_lent ?_ | ((with_reducible refine wp_ixt (w := ?_) ?_ ?_); rotate_left; · rfl) | with_reducible refine wp_cutT ?_ | with_reducible refine wp_tupZ ?_ | with_reducible refine If.n ?_ | ((with_reducible refine If_tr ?_ ?_); · rfl) | ((with_reducible refine If_fa ?_ ?_); · rfl) | with_reducible refine ex_bl ?_ | with_reducible refine ex_int ?_ | with_reducible refine ex_int2 ?_ | with_reducible refine inW_mk ?_ | ((with_reducible refine ex_some (y := ?_) ?_ ?_); rotate_left; · rfl) | ((with_reducible refine and_len ?_ ?_); · rfl) | ((with_reducible refine and_hty ?_ ?_); · rfl) | ((with_reducible refine and_le ?_ ?_); · exact Nat.le_of_ble_eq_true rfl) | ((with_reducible refine and_bd ?_ ?_); · first | decide | omega)))
          refine wp_ixt (w := rowV r) (by rw [atI_map, atI_n, g1]; rfl) ?_
          (repeat (first | with_reducible refine we_c ?_ | ((with_reducible refine we_v (w := ?_) ?_ ?_); rotate_left; · rfl) | with_reducible refine we_b ?_ | with_reducible refine we_a ?_ | with_reducible refine wa_c ?_ | with_reducible refine wa_n ?_ | with_reducible refine we_mt ?_ | with_reducible refine we_call ?_ | with_reducible refine we_tup ?_ | with_reducible refine we_lstW ?_ | with_reducible refine we_u ?_ | with_reducible refine we_not ?_ | with_reducible refine we_if ?_ | with_reducible refine we_and ?_ | with_reducible refine we_or ?_ | with_reducible refine we_cut ?_ | with_reducible refine wo_n ?_ | with_reducible refine wo_s ?_ | with_reducible refine wb_b ?_ | with_reducible refine wb_v ?_ | with_reducible refine wb_o ?_ | with_reducible refine wb_and ?_ | with_reducible refine wb_or ?_ | with_reducible refine wb_not ?_ | with_reducible refine wb_yes ?_ | with_reducible refine we_ch ?_ | with_reducible refine wx_n ?_ | with_reducible refine wx_c ?_ | with_reducible refine ss_n ?_ | with_reducible refine ss_c ?_ | with_reducible refine ss_set ?_ | with_reducible refine ss_ex ?_ | with_reducible refine ss_ret ?_ | with_reducible refine ss_retN ?_ | with_reducible refine ss_bk ?_ | with_reducible refine ss_ct ?_ | with_reducible refine ss_if ?_ | with_reducible refine ss_asg ?_ | with_reducible refine ss_put ?_ | with_reducible refine ss_for ?_ | with_reducible refine wi_a ?_ | with_reducible refine wi_r1 ?_ | with_reducible refine wi_r2 ?_ | with_reducible refine wp_ai ?_ | with_reducible refine wp_si ?_ | ((with_reducible refine wp_ml ?_ ?_); · decide) | ((with_reducible refine wp_mr ?_ ?_); · decide) | ((with_reducible refine wp_md ?_ ?_); · decide) | with_reducible refine wp_ng ?_ | with_reducible refine wp_eqi ?_ | with_reducible refine wp_eqs ?_ | with_reducible refine wp_eqb ?_ | with_reducible refine wp_nei ?_ | with_reducible refine wp_nes ?_ | with_reducible refine wp_neb ?_ | with_reducible refine wp_lt ?_ | with_reducible refine wp_le ?_ | with_reducible refine wp_gt ?_ | with_reducible refine wp_ge ?_ | with_reducible refine wp_isn ?_ | with_reducible refine wp_isnn ?_ | with_reducible refine wp_isb ?_ | with_reducible refine wp_isnb ?_ | with_reducible refine wp_int ?_ | with_reducible refine wp_min ?_ | with_reducible refine wp_max ?_ | with_reducible refine wp_lent ?_ | ((with_reducible refine wp_ixt (w := ?_) ?_ ?_); rotate_left; · rfl) | with_reducible refine wp_cutT ?_ | with_reducible refine wp_tupZ ?_ | with_reducible refine If.n ?_ | ((with_reducible refine If_tr ?_ ?_); · rfl) | ((with_reducible refine If_fa ?_ ?_); · rfl) | with_reducible refine ex_bl ?_ | with_reducible refine ex_int ?_ | with_reducible refine ex_int2 ?_ | with_reducible refine inW_mk ?_ | ((with_reducible refine ex_some (y := ?_) ?_ ?_); rotate_left; · rfl) | ((with_reducible refine and_len ?_ ?_); · rfl) | ((with_reducible refine and_hty ?_ ?_); · rfl) | ((with_reducible refine and_le ?_ ?_); · exact Nat.le_of_ble_eq_true rfl) | ((with_reducible refine and_bd ?_ ?_); · first | decide | omega)))
          refine wp_ixt (w := .int (dl goals p.1 kk : Nat)) (by rw [Int.zero_add, atI_map, atI_n, g2]; rfl) ?_
          (repeat (first | with_reducible refine we_c ?_ | ((with_reducible refine we_v (w := ?_) ?_ ?_); rotate_left; · rfl) | with_reducible refine we_b ?_ | with_reducible refine we_a ?_ | with_reducible refine wa_c ?_ | with_reducible refine wa_n ?_ | with_reducible refine we_mt ?_ | with_reducible refine we_call ?_ | with_reducible refine we_tup ?_ | with_reducible refine we_lstW ?_ | with_reducible refine we_u ?_ | with_reducible refine we_not ?_ | with_reducible refine we_if ?_ | with_reducible refine we_and ?_ | with_reducible refine we_or ?_ | with_reducible refine we_cut ?_ | with_reducible refine wo_n ?_ | with_reducible refine wo_s ?_ | with_reducible refine wb_b ?_ | with_reducible refine wb_v ?_ | with_reducible refine wb_o ?_ | with_reducible refine wb_and ?_ | with_reducible refine wb_or ?_ | with_reducible refine wb_not ?_ | with_reducible refine wb_yes ?_ | with_reducible refine we_ch ?_ | with_reducible refine wx_n ?_ | with_reducible refine wx_c ?_ | with_reducible refine ss_n ?_ | with_reducible refine ss_c ?_ | with_reducible refine ss_set ?_ | with_reducible refine ss_ex ?_ | with_reducible refine ss_ret ?_ | with_reducible refine ss_retN ?_ | with_reducible refine ss_bk ?_ | with_reducible refine ss_ct ?_ | with_reducible refine ss_if ?_ | with_reducible refine ss_asg ?_ | with_reducible refine ss_put ?_ | with_reducible refine ss_for ?_ | with_reducible refine wi_a ?_ | with_reducible refine wi_r1 ?_ | with_reducible refine wi_r2 ?_ | with_reducible refine wp_ai ?_ | with_reducible refine wp_si ?_ | ((with_reducible refine wp_ml ?_ ?_); · decide) | ((with_reducible refine wp_mr ?_ ?_); · decide) | ((with_reducible refine wp_md ?_ ?_); · decide) | with_reducible refine wp_ng ?_ | with_reducible refine wp_eqi ?_ | with_reducible refine wp_eqs ?_ | with_reducible refine wp_eqb ?_ | with_reducible refine wp_nei ?_ | with_reducible refine wp_nes ?_ | with_reducible refine wp_neb ?_ | with_reducible refine wp_lt ?_ | with_reducible refine wp_le ?_ | with_reducible refine wp_gt ?_ | with_reducible refine wp_ge ?_ | with_reducible refine wp_isn ?_ | with_reducible refine wp_isnn ?_ | with_reducible refine wp_isb ?_ | with_reducible refine wp_isnb ?_ | with_reducible refine wp_int ?_ | with_reducible refine wp_min ?_ | with_reducible refine wp_max ?_ | with_reducible refine wp_lent ?_ | ((with_reducible refine wp_ixt (w := ?_) ?_ ?_); rotate_left; · rfl) | with_reducible refine wp_cutT ?_ | with_reducible refine wp_tupZ ?_ | with_reducible refine If.n ?_ | ((with_reducible refine If_tr ?_ ?_); · rfl) | ((with_reducible refine If_fa ?_ ?_); · rfl) | with_reducible refine ex_bl ?_ | with_reducible refine ex_int ?_ | with_reducible refine ex_int2 ?_ | with_reducible refine inW_mk ?_ | ((with_reducible refine ex_some (y := ?_) ?_ ?_); rotate_left; · rfl) | ((with_reducible refine and_len ?_ ?_); · rfl) | ((with_reducible refine and_hty ?_ ?_); · rfl) | ((with_reducible refine and_le ?_ ?_); · exact Nat.le_of_ble_eq_true rfl) | ((with_reducible refine and_bd ?_ ?_); · first | decide | omega)))
          refine wp_of (nin_ords ((W_get 1).trans h1)) ?_
          (repeat (first | with_reducible refine we_c ?_ | ((with_reducible refine we_v (w := ?_) ?_ ?_); rotate_left; · rfl) | with_reducible refine we_b ?_ | with_reducible refine we_a ?_ | with_reducible refine wa_c ?_ | with_reducible refine wa_n ?_ | with_reducible refine we_mt ?_ | with_reducible refine we_call ?_ | with_reducible refine we_tup ?_ | with_reducible refine we_lstW ?_ | with_reducible refine we_u ?_ | with_reducible refine we_not ?_ | with_reducible refine we_if ?_ | with_reducible refine we_and ?_ | with_reducible refine we_or ?_ | with_reducible refine we_cut ?_ | with_reducible refine wo_n ?_ | with_reducible refine wo_s ?_ | with_reducible refine wb_b ?_ | with_reducible refine wb_v ?_ | with_reducible refine wb_o ?_ | with_reducible refine wb_and ?_ | with_reducible refine wb_or ?_ | with_reducible refine wb_not ?_ | with_reducible refine wb_yes ?_ | with_reducible refine we_ch ?_ | with_reducible refine wx_n ?_ | with_reducible refine wx_c ?_ | with_reducible refine ss_n ?_ | with_reducible refine ss_c ?_ | with_reducible refine ss_set ?_ | with_reducible refine ss_ex ?_ | with_reducible refine ss_ret ?_ | with_reducible refine ss_retN ?_ | with_reducible refine ss_bk ?_ | with_reducible refine ss_ct ?_ | with_reducible refine ss_if ?_ | with_reducible refine ss_asg ?_ | with_reducible refine ss_put ?_ | with_reducible refine ss_for ?_ | with_reducible refine wi_a ?_ | with_reducible refine wi_r1 ?_ | with_reducible refine wi_r2 ?_ | with_reducible refine wp_ai ?_ | with_reducible refine wp_si ?_ | ((with_reducible refine wp_ml ?_ ?_); · decide) | ((with_reducible refine wp_mr ?_ ?_); · decide) | ((with_reducible refine wp_md ?_ ?_); · decide) | with_reducible refine wp_ng ?_ | with_reducible refine wp_eqi ?_ | with_reducible refine wp_eqs ?_ | with_reducible refine wp_eqb ?_ | with_reducible refine wp_nei ?_ | with_reducible refine wp_nes ?_ | with_reducible refine wp_neb ?_ | with_reducible refine wp_lt ?_ | with_reducible refine wp_le ?_ | with_reducible refine wp_gt ?_ | with_reducible refine wp_ge ?_ | with_reducible refine wp_isn ?_ | with_reducible refine wp_isnn ?_ | with_reducible refine wp_isb ?_ | with_reducible refine wp_isnb ?_ | with_reducible refine wp_int ?_ | with_reducible refine wp_min ?_ | with_reducible refine wp_max ?_ | with_reducible refine wp_lent ?_ | ((with_reducible refine wp_ixt (w := ?_) ?_ ?_); rotate_left; · rfl) | with_reducible refine wp_cutT ?_ | with_reducible refine wp_tupZ ?_ | with_reducible refine If.n ?_ | ((with_reducible refine If_tr ?_ ?_); · rfl) | ((with_reducible refine If_fa ?_ ?_); · rfl) | with_reducible refine ex_bl ?_ | with_reducible refine ex_int ?_ | with_reducible refine ex_int2 ?_ | with_reducible refine inW_mk ?_ | ((with_reducible refine ex_some (y := ?_) ?_ ?_); rotate_left; · rfl) | ((with_reducible refine and_len ?_ ?_); · rfl) | ((with_reducible refine and_hty ?_ ?_); · rfl) | ((with_reducible refine and_le ?_ ?_); · exact Nat.le_of_ble_eq_true rfl) | ((with_reducible refine and_bd ?_ ?_); · first | decide | omega)))
          refine If.d (fun hmet => ?_) (fun hmet => ?_)
          · (repeat (first | with_reducible refine we_c ?_ | ((with_reducible refine we_v (w := ?_) ?_ ?_); rotate_left; · rfl) | with_reducible refine we_b ?_ | with_reducible refine we_a ?_ | with_reducible refine wa_c ?_ | with_reducible refine wa_n ?_ | with_reducible refine we_mt ?_ | with_reducible refine we_call ?_ | with_reducible refine we_tup ?_ | with_reducible refine we_lstW ?_ | with_reducible refine we_u ?_ | with_reducible refine we_not ?_ | with_reducible refine we_if ?_ | with_reducible refine we_and ?_ | with_reducible refine we_or ?_ | with_reducible refine we_cut ?_ | with_reducible refine wo_n ?_ | with_reducible refine wo_s ?_ | with_reducible refine wb_b ?_ | with_reducible refine wb_v ?_ | with_reducible refine wb_o ?_ | with_reducible refine wb_and ?_ | with_reducible refine wb_or ?_ | with_reducible refine wb_not ?_ | with_reducible refine wb_yes ?_ | with_reducible refine we_ch ?_ | with_reducible refine wx_n ?_ | with_reducible refine wx_c ?_ | with_reducible refine ss_n ?_ | with_reducible refine ss_c ?_ | with_reducible refine ss_set ?_ | with_reducible refine ss_ex ?_ | with_reducible refine ss_ret ?_ | with_reducible refine ss_retN ?_ | with_reducible refine ss_bk ?_ | with_reducible refine ss_ct ?_ | with_reducible refine ss_if ?_ | with_reducible refine ss_asg ?_ | with_reducible refine ss_put ?_ | with_reducible refine ss_for ?_ | with_reducible refine wi_a ?_ | with_reducible refine wi_r1 ?_ | with_reducible refine wi_r2 ?_ | with_reducible refine wp_ai ?_ | with_reducible refine wp_si ?_ | ((with_reducible refine wp_ml ?_ ?_); · decide) | ((with_reducible refine wp_mr ?_ ?_); · decide) | ((with_reducible refine wp_md ?_ ?_); · decide) | with_reducible refine wp_ng ?_ | with_reducible refine wp_eqi ?_ | with_reducible refine wp_eqs ?_ | with_reducible refine wp_eqb ?_ | with_reducible refine wp_nei ?_ | with_reducible refine wp_nes ?_ | with_reducible refine wp_neb ?_ | with_reducible refine wp_lt ?_ | with_reducible refine wp_le ?_ | with_reducible refine wp_gt ?_ | with_reducible refine wp_ge ?_ | with_reducible refine wp_isn ?_ | with_reducible refine wp_isnn ?_ | with_reducible refine wp_isb ?_ | with_reducible refine wp_isnb ?_ | with_reducible refine wp_int ?_ | with_reducible refine wp_min ?_ | with_reducible refine wp_max ?_ | with_reducible refine wp_lent ?_ | ((with_reducible refine wp_ixt (w := ?_) ?_ ?_); rotate_left; · rfl) | with_reducible refine wp_cutT ?_ | with_reducible refine wp_tupZ ?_ | with_reducible refine If.n ?_ | ((with_reducible refine If_tr ?_ ?_); · rfl) | ((with_reducible refine If_fa ?_ ?_); · rfl) | with_reducible refine ex_bl ?_ | with_reducible refine ex_int ?_ | with_reducible refine ex_int2 ?_ | with_reducible refine inW_mk ?_ | ((with_reducible refine ex_some (y := ?_) ?_ ?_); rotate_left; · rfl) | ((with_reducible refine and_len ?_ ?_); · rfl) | ((with_reducible refine and_hty ?_ ?_); · rfl) | ((with_reducible refine and_le ?_ ?_); · exact Nat.le_of_ble_eq_true rfl) | ((with_reducible refine and_bd ?_ ?_); · first | decide | omega)))
            exact hd ⟨qu', M, _, _, rfl, rfl, hk, h1, hj, hpre, hq.old hp hkk hmet, hno, hp, hwl⟩
          · have hc : ls[kk]? = some ls[kk] := List.getElem?_eq_getElem hkk
            (repeat (first | with_reducible refine we_c ?_ | ((with_reducible refine we_v (w := ?_) ?_ ?_); rotate_left; · rfl) | with_reducible refine we_b ?_ | with_reducible refine we_a ?_ | with_reducible refine wa_c ?_ | with_reducible refine wa_n ?_ | with_reducible refine we_mt ?_ | with_reducible refine we_call ?_ | with_reducible refine we_tup ?_ | with_reducible refine we_lstW ?_ | with_reducible refine we_u ?_ | with_reducible refine we_not ?_ | with_reducible refine we_if ?_ | with_reducible refine we_and ?_ | with_reducible refine we_or ?_ | with_reducible refine we_cut ?_ | with_reducible refine wo_n ?_ | with_reducible refine wo_s ?_ | with_reducible refine wb_b ?_ | with_reducible refine wb_v ?_ | with_reducible refine wb_o ?_ | with_reducible refine wb_and ?_ | with_reducible refine wb_or ?_ | with_reducible refine wb_not ?_ | with_reducible refine wb_yes ?_ | with_reducible refine we_ch ?_ | with_reducible refine wx_n ?_ | with_reducible refine wx_c ?_ | with_reducible refine ss_n ?_ | with_reducible refine ss_c ?_ | with_reducible refine ss_set ?_ | with_reducible refine ss_ex ?_ | with_reducible refine ss_ret ?_ | with_reducible refine ss_retN ?_ | with_reducible refine ss_bk ?_ | with_reducible refine ss_ct ?_ | with_reducible refine ss_if ?_ | with_reducible refine ss_asg ?_ | with_reducible refine ss_put ?_ | with_reducible refine ss_for ?_ | with_reducible refine wi_a ?_ | with_reducible refine wi_r1 ?_ | with_reducible refine wi_r2 ?_ | with_reducible refine wp_ai ?_ | with_reducible refine wp_si ?_ | ((with_reducible refine wp_ml ?_ ?_); · decide) | ((with_reducible refine wp_mr ?_ ?_); · decide) | ((with_reducible refine wp_md ?_ ?_); · decide) | with_reducible refine wp_ng ?_ | with_reducible refine wp_eqi ?_ | with_reducible refine wp_eqs ?_ | with_reducible refine wp_eqb ?_ | with_reducible refine wp_nei ?_ | with_reducible refine wp_nes ?_ | with_reducible refine wp_neb ?_ | with_reducible refine wp_lt ?_ | with_reducible refine wp_le ?_ | with_reducible refine wp_gt ?_ | with_reducible refine wp_ge ?_ | with_reducible refine wp_isn ?_ | with_reducible refine wp_isnn ?_ | with_reducible refine wp_isb ?_ | with_reducible refine wp_isnb ?_ | with_reducible refine wp_int ?_ | with_reducible refine wp_min ?_ | with_reducible refine wp_max ?_ | with_reducible refine wp_lent ?_ | ((with_reducible refine wp_ixt (w := ?_) ?_ ?_); rotate_left; · rfl) | with_reducible refine wp_cutT ?_ | with_reducible refine wp_tupZ ?_ | with_reducible refine If.n ?_ | ((with_reducible refine If_tr ?_ ?_); · rfl) | ((with_reducible refine If_fa ?_ ?_); · rfl) | with_reducible refine ex_bl ?_ | with_reducible refine ex_int ?_ | with_reducible refine ex_int2 ?_ | with_reducible refine inW_mk ?_ | ((with_reducible refine ex_some (y := ?_) ?_ ?_); rotate_left; · rfl) | ((with_reducible refine and_len ?_ ?_); · rfl) | ((with_reducible refine and_hty ?_ ?_); · rfl) | ((with_reducible refine and_le ?_ ?_); · exact Nat.le_of_ble_eq_true rfl) | ((with_reducible refine and_bd ?_ ?_); · first | decide | omega)))
            refine and_hty (hty_W h1) ?_
            (repeat (first | with_reducible refine we_c ?_ | ((with_reducible refine we_v (w := ?_) ?_ ?_); rotate_left; · rfl) | with_reducible refine we_b ?_ | with_reducible refine we_a ?_ | with_reducible refine wa_c ?_ | with_reducible refine wa_n ?_ | with_reducible refine we_mt ?_ | with_reducible refine we_call ?_ | with_reducible refine we_tup ?_ | with_reducible refine we_lstW ?_ | with_reducible refine we_u ?_ | with_reducible refine we_not ?_ | with_reducible refine we_if ?_ | with_reducible refine we_and ?_ | with_reducible refine we_or ?_ | with_reducible refine we_cut ?_ | with_reducible refine wo_n ?_ | with_reducible refine wo_s ?_ | with_reducible refine wb_b ?_ | with_reducible refine wb_v ?_ | with_reducible refine wb_o ?_ | with_reducible refine wb_and ?_ | with_reducible refine wb_or ?_ | with_reducible refine wb_not ?_ | with_reducible refine wb_yes ?_ | with_reducible refine we_ch ?_ | with_reducible refine wx_n ?_ | with_reducible refine wx_c ?_ | with_reducible refine ss_n ?_ | with_reducible refine ss_c ?_ | with_reducible refine ss_set ?_ | with_reducible refine ss_ex ?_ | with_reducible refine ss_ret ?_ | with_reducible refine ss_retN ?_ | with_reducible refine ss_bk ?_ | with_reducible refine ss_ct ?_ | with_reducible refine ss_if ?_ | with_reducible refine ss_asg ?_ | with_reducible refine ss_put ?_ | with_reducible refine ss_for ?_ | with_reducible refine wi_a ?_ | with_reducible refine wi_r1 ?_ | with_reducible refine wi_r2 ?_ | with_reducible refine wp_ai ?_ | with_reducible refine wp_si ?_ | ((with_reducible refine wp_ml ?_ ?_); · decide) | ((with_reducible refine wp_mr ?_ ?_); · decide) | ((with_reducible refine wp_md ?_ ?_); · decide) | with_reducible refine wp_ng ?_ | with_reducible refine wp_eqi ?_ | with_reducible refine wp_eqs ?_ | with_reducible refine wp_eqb ?_ | with_reducible refine wp_nei ?_ | with_reducible refine wp_nes ?_ | with_reducible refine wp_neb ?_ | with_reducible refine wp_lt ?_ | with_reducible refine wp_le ?_ | with_reducible refine wp_gt ?_ | with_reducible refine wp_ge ?_ | with_reducible refine wp_isn ?_ | with_reducible refine wp_isnn ?_ | with_reducible refine wp_isb ?_ | with_reducible refine wp_isnb ?_ | with_reducible refine wp_int ?_ | with_reducible refine wp_min ?_ | with_reducible refine wp_max ?_ | with_reducible refine wp_lent ?_ | ((with_reducible refine wp_ixt (w := ?_) ?_ ?_); rotate_left; · rfl) | with_reducible refine wp_cutT ?_ | with_reducible refine wp_tupZ ?_ | with_reducible refine If.n ?_ | ((with_reducible refine If_tr ?_ ?_); · rfl) | ((with_reducible refine If_fa ?_ ?_); · rfl) | with_reducible refine ex_bl ?_ | with_reducible refine ex_int ?_ | with_reducible refine ex_int2 ?_ | with_reducible refine inW_mk ?_ | ((with_reducible refine ex_some (y := ?_) ?_ ?_); rotate_left; · rfl) | ((with_reducible refine and_len ?_ ?_); · rfl) | ((with_reducible refine and_hty ?_ ?_); · rfl) | ((with_reducible refine and_le ?_ ?_); · exact Nat.le_of_ble_eq_true rfl) | ((with_reducible refine and_bd ?_ ?_); · first | decide | omega)))
            refine wp_appW h1 (by rw [show (ords qu').length = qu'.length by simp [ords]]; omega) ?_
            (repeat (first | with_reducible refine we_c ?_ | ((with_reducible refine we_v (w := ?_) ?_ ?_); rotate_left; · rfl) | with_reducible refine we_b ?_ | with_reducible refine we_a ?_ | with_reducible refine wa_c ?_ | with_reducible refine wa_n ?_ | with_reducible refine we_mt ?_ | with_reducible refine we_call ?_ | with_reducible refine we_tup ?_ | with_reducible refine we_lstW ?_ | with_reducible refine we_u ?_ | with_reducible refine we_not ?_ | with_reducible refine we_if ?_ | with_reducible refine we_and ?_ | with_reducible refine we_or ?_ | with_reducible refine we_cut ?_ | with_reducible refine wo_n ?_ | with_reducible refine wo_s ?_ | with_reducible refine wb_b ?_ | with_reducible refine wb_v ?_ | with_reducible refine wb_o ?_ | with_reducible refine wb_and ?_ | with_reducible refine wb_or ?_ | with_reducible refine wb_not ?_ | with_reducible refine wb_yes ?_ | with_reducible refine we_ch ?_ | with_reducible refine wx_n ?_ | with_reducible refine wx_c ?_ | with_reducible refine ss_n ?_ | with_reducible refine ss_c ?_ | with_reducible refine ss_set ?_ | with_reducible refine ss_ex ?_ | with_reducible refine ss_ret ?_ | with_reducible refine ss_retN ?_ | with_reducible refine ss_bk ?_ | with_reducible refine ss_ct ?_ | with_reducible refine ss_if ?_ | with_reducible refine ss_asg ?_ | with_reducible refine ss_put ?_ | with_reducible refine ss_for ?_ | with_reducible refine wi_a ?_ | with_reducible refine wi_r1 ?_ | with_reducible refine wi_r2 ?_ | with_reducible refine wp_ai ?_ | with_reducible refine wp_si ?_ | ((with_reducible refine wp_ml ?_ ?_); · decide) | ((with_reducible refine wp_mr ?_ ?_); · decide) | ((with_reducible refine wp_md ?_ ?_); · decide) | with_reducible refine wp_ng ?_ | with_reducible refine wp_eqi ?_ | with_reducible refine wp_eqs ?_ | with_reducible refine wp_eqb ?_ | with_reducible refine wp_nei ?_ | with_reducible refine wp_nes ?_ | with_reducible refine wp_neb ?_ | with_reducible refine wp_lt ?_ | with_reducible refine wp_le ?_ | with_reducible refine wp_gt ?_ | with_reducible refine wp_ge ?_ | with_reducible refine wp_isn ?_ | with_reducible refine wp_isnn ?_ | with_reducible refine wp_isb ?_ | with_reducible refine wp_isnb ?_ | with_reducible refine wp_int ?_ | with_reducible refine wp_min ?_ | with_reducible refine wp_max ?_ | with_reducible refine wp_lent ?_ | ((with_reducible refine wp_ixt (w := ?_) ?_ ?_); rotate_left; · rfl) | with_reducible refine wp_cutT ?_ | with_reducible refine wp_tupZ ?_ | with_reducible refine If.n ?_ | ((with_reducible refine If_tr ?_ ?_); · rfl) | ((with_reducible refine If_fa ?_ ?_); · rfl) | with_reducible refine ex_bl ?_ | with_reducible refine ex_int ?_ | with_reducible refine ex_int2 ?_ | with_reducible refine inW_mk ?_ | ((with_reducible refine ex_some (y := ?_) ?_ ?_); rotate_left; · rfl) | ((with_reducible refine and_len ?_ ?_); · rfl) | ((with_reducible refine and_hty ?_ ?_); · rfl) | ((with_reducible refine and_le ?_ ?_); · exact Nat.le_of_ble_eq_true rfl) | ((with_reducible refine and_bd ?_ ?_); · first | decide | omega)))
            refine and_hty (hty_W (at_set2 hj (Ne.symm hj1))) ?_
            (repeat (first | with_reducible refine we_c ?_ | ((with_reducible refine we_v (w := ?_) ?_ ?_); rotate_left; · rfl) | with_reducible refine we_b ?_ | with_reducible refine we_a ?_ | with_reducible refine wa_c ?_ | with_reducible refine wa_n ?_ | with_reducible refine we_mt ?_ | with_reducible refine we_call ?_ | with_reducible refine we_tup ?_ | with_reducible refine we_lstW ?_ | with_reducible refine we_u ?_ | with_reducible refine we_not ?_ | with_reducible refine we_if ?_ | with_reducible refine we_and ?_ | with_reducible refine we_or ?_ | with_reducible refine we_cut ?_ | with_reducible refine wo_n ?_ | with_reducible refine wo_s ?_ | with_reducible refine wb_b ?_ | with_reducible refine wb_v ?_ | with_reducible refine wb_o ?_ | with_reducible refine wb_and ?_ | with_reducible refine wb_or ?_ | with_reducible refine wb_not ?_ | with_reducible refine wb_yes ?_ | with_reducible refine we_ch ?_ | with_reducible refine wx_n ?_ | with_reducible refine wx_c ?_ | with_reducible refine ss_n ?_ | with_reducible refine ss_c ?_ | with_reducible refine ss_set ?_ | with_reducible refine ss_ex ?_ | with_reducible refine ss_ret ?_ | with_reducible refine ss_retN ?_ | with_reducible refine ss_bk ?_ | with_reducible refine ss_ct ?_ | with_reducible refine ss_if ?_ | with_reducible refine ss_asg ?_ | with_reducible refine ss_put ?_ | with_reducible refine ss_for ?_ | with_reducible refine wi_a ?_ | with_reducible refine wi_r1 ?_ | with_reducible refine wi_r2 ?_ | with_reducible refine wp_ai ?_ | with_reducible refine wp_si ?_ | ((with_reducible refine wp_ml ?_ ?_); · decide) | ((with_reducible refine wp_mr ?_ ?_); · decide) | ((with_reducible refine wp_md ?_ ?_); · decide) | with_reducible refine wp_ng ?_ | with_reducible refine wp_eqi ?_ | with_reducible refine wp_eqs ?_ | with_reducible refine wp_eqb ?_ | with_reducible refine wp_nei ?_ | with_reducible refine wp_nes ?_ | with_reducible refine wp_neb ?_ | with_reducible refine wp_lt ?_ | with_reducible refine wp_le ?_ | with_reducible refine wp_gt ?_ | with_reducible refine wp_ge ?_ | with_reducible refine wp_isn ?_ | with_reducible refine wp_isnn ?_ | with_reducible refine wp_isb ?_ | with_reducible refine wp_isnb ?_ | with_reducible refine wp_int ?_ | with_reducible refine wp_min ?_ | with_reducible refine wp_max ?_ | with_reducible refine wp_lent ?_ | ((with_reducible refine wp_ixt (w := ?_) ?_ ?_); rotate_left; · rfl) | with_reducible refine wp_cutT ?_ | with_reducible refine wp_tupZ ?_ | with_reducible refine If.n ?_ | ((with_reducible refine If_tr ?_ ?_); · rfl) | ((with_reducible refine If_fa ?_ ?_); · rfl) | with_reducible refine ex_bl ?_ | with_reducible refine ex_int ?_ | with_reducible refine ex_int2 ?_ | with_reducible refine inW_mk ?_ | ((with_reducible refine ex_some (y := ?_) ?_ ?_); rotate_left; · rfl) | ((with_reducible refine and_len ?_ ?_); · rfl) | ((with_reducible refine and_hty ?_ ?_); · rfl) | ((with_reducible refine and_le ?_ ?_); · exact Nat.le_of_ble_eq_true rfl) | ((with_reducible refine and_bd ?_ ?_); · first | decide | omega)))
            refine wp_ixs (by omega) (c := ls[kk]) (by rw [Int.zero_add, atI_n]; exact hc) ?_
            refine wp_as ?_ ?_
            · have := hwl p (List.mem_of_getElem? hp)
              simp [txt]; omega
            rw [← txt_snoc hc]
            (repeat (first | with_reducible refine we_c ?_ | ((with_reducible refine we_v (w := ?_) ?_ ?_); rotate_left; · rfl) | with_reducible refine we_b ?_ | with_reducible refine we_a ?_ | with_reducible refine wa_c ?_ | with_reducible refine wa_n ?_ | with_reducible refine we_mt ?_ | with_reducible refine we_call ?_ | with_reducible refine we_tup ?_ | with_reducible refine we_lstW ?_ | with_reducible refine we_u ?_ | with_reducible refine we_not ?_ | with_reducible refine we_if ?_ | with_reducible refine we_and ?_ | with_reducible refine we_or ?_ | with_reducible refine we_cut ?_ | with_reducible refine wo_n ?_ | with_reducible refine wo_s ?_ | with_reducible refine wb_b ?_ | with_reducible refine wb_v ?_ | with_reducible refine wb_o ?_ | with_reducible refine wb_and ?_ | with_reducible refine wb_or ?_ | with_reducible refine wb_not ?_ | with_reducible refine wb_yes ?_ | with_reducible refine we_ch ?_ | with_reducible refine wx_n ?_ | with_reducible refine wx_c ?_ | with_reducible refine ss_n ?_ | with_reducible refine ss_c ?_ | with_reducible refine ss_set ?_ | with_reducible refine ss_ex ?_ | with_reducible refine ss_ret ?_ | with_reducible refine ss_retN ?_ | with_reducible refine ss_bk ?_ | with_reducible refine ss_ct ?_ | with_reducible refine ss_if ?_ | with_reducible refine ss_asg ?_ | with_reducible refine ss_put ?_ | with_reducible refine ss_for ?_ | with_reducible refine wi_a ?_ | with_reducible refine wi_r1 ?_ | with_reducible refine wi_r2 ?_ | with_reducible refine wp_ai ?_ | with_reducible refine wp_si ?_ | ((with_reducible refine wp_ml ?_ ?_); · decide) | ((with_reducible refine wp_mr ?_ ?_); · decide) | ((with_reducible refine wp_md ?_ ?_); · decide) | with_reducible refine wp_ng ?_ | with_reducible refine wp_eqi ?_ | with_reducible refine wp_eqs ?_ | with_reducible refine wp_eqb ?_ | with_reducible refine wp_nei ?_ | with_reducible refine wp_nes ?_ | with_reducible refine wp_neb ?_ | with_reducible refine wp_lt ?_ | with_reducible refine wp_le ?_ | with_reducible refine wp_gt ?_ | with_reducible refine wp_ge ?_ | with_reducible refine wp_isn ?_ | with_reducible refine wp_isnn ?_ | with_reducible refine wp_isb ?_ | with_reducible refine wp_isnb ?_ | with_reducible refine wp_int ?_ | with_reducible refine wp_min ?_ | with_reducible refine wp_max ?_ | with_reducible refine wp_lent ?_ | ((with_reducible refine wp_ixt (w := ?_) ?_ ?_); rotate_left; · rfl) | with_reducible refine wp_cutT ?_ | with_reducible refine wp_tupZ ?_ | with_reducible refine If.n ?_ | ((with_reducible refine If_tr ?_ ?_); · rfl) | ((with_reducible refine If_fa ?_ ?_); · rfl) | with_reducible refine ex_bl ?_ | with_reducible refine ex_int ?_ | with_reducible refine ex_int2 ?_ | with_reducible refine inW_mk ?_ | ((with_reducible refine ex_some (y := ?_) ?_ ?_); rotate_left; · rfl) | ((with_reducible refine and_len ?_ ?_); · rfl) | ((with_reducible refine and_hty ?_ ?_); · rfl) | ((with_reducible refine and_le ?_ ?_); · exact Nat.le_of_ble_eq_true rfl) | ((with_reducible refine and_bd ?_ ?_); · first | decide | omega)))
            refine wp_appW (at_set2 hj (Ne.symm hj1)) (by rw [show (rowW ls (qu'.drop qu.length)).length = qu'.length - qu.length by simp [rowW]]; omega) ?_
            (repeat (first | with_reducible refine we_c ?_ | ((with_reducible refine we_v (w := ?_) ?_ ?_); rotate_left; · rfl) | with_reducible refine we_b ?_ | with_reducible refine we_a ?_ | with_reducible refine wa_c ?_ | with_reducible refine wa_n ?_ | with_reducible refine we_mt ?_ | with_reducible refine we_call ?_ | with_reducible refine we_tup ?_ | with_reducible refine we_lstW ?_ | with_reducible refine we_u ?_ | with_reducible refine we_not ?_ | with_reducible refine we_if ?_ | with_reducible refine we_and ?_ | with_reducible refine we_or ?_ | with_reducible refine we_cut ?_ | with_reducible refine wo_n ?_ | with_reducible refine wo_s ?_ | with_reducible refine wb_b ?_ | with_reducible refine wb_v ?_ | with_reducible refine wb_o ?_ | with_reducible refine wb_and ?_ | with_reducible refine wb_or ?_ | with_reducible refine wb_not ?_ | with_reducible refine wb_yes ?_ | with_reducible refine we_ch ?_ | with_reducible refine wx_n ?_ | with_reducible refine wx_c ?_ | with_reducible refine ss_n ?_ | with_reducible refine ss_c ?_ | with_reducible refine ss_set ?_ | with_reducible refine ss_ex ?_ | with_reducible refine ss_ret ?_ | with_reducible refine ss_retN ?_ | with_reducible refine ss_bk ?_ | with_reducible refine ss_ct ?_ | with_reducible refine ss_if ?_ | with_reducible refine ss_asg ?_ | with_reducible refine ss_put ?_ | with_reducible refine ss_for ?_ | with_reducible refine wi_a ?_ | with_reducible refine wi_r1 ?_ | with_reducible refine wi_r2 ?_ | with_reducible refine wp_ai ?_ | with_reducible refine wp_si ?_ | ((with_reducible refine wp_ml ?_ ?_); · decide) | ((with_reducible refine wp_mr ?_ ?_); · decide) | ((with_reducible refine wp_md ?_ ?_); · decide) | with_reducible refine wp_ng ?_ | with_reducible refine wp_eqi ?_ | with_reducible refine wp_eqs ?_ | with_reducible refine wp_eqb ?_ | with_reducible refine wp_nei ?_ | with_reducible refine wp_nes ?_ | with_reducible refine wp_neb ?_ | with_reducible refine wp_lt ?_ | with_reducible refine wp_le ?_ | with_reducible refine wp_gt ?_ | with_reducible refine wp_ge ?_ | with_reducible refine wp_isn ?_ | with_reducible refine wp_isnn ?_ | with_reducible refine wp_isb ?_ | with_reducible refine wp_isnb ?_ | with_reducible refine wp_int ?_ | with_reducible refine wp_min ?_ | with_reducible refine wp_max ?_ | with_reducible refine wp_lent ?_ | ((with_reducible refine wp_ixt (w := ?_) ?_ ?_); rotate_left; · rfl) | with_reducible refine wp_cutT ?_ | with_reducible refine wp_tupZ ?_ | with_reducible refine If.n ?_ | ((with_reducible refine If_tr ?_ ?_); · rfl) | ((with_reducible refine If_fa ?_ ?_); · rfl) | with_reducible refine ex_bl ?_ | with_reducible refine ex_int ?_ | with_reducible refine ex_int2 ?_ | with_reducible refine inW_mk ?_ | ((with_reducible refine ex_some (y := ?_) ?_ ?_); rotate_left; · rfl) | ((with_reducible refine and_len ?_ ?_); · rfl) | ((with_reducible refine and_hty ?_ ?_); · rfl) | ((with_reducible refine and_le ?_ ?_); · exact Nat.le_of_ble_eq_true rfl) | ((with_reducible refine and_bd ?_ ?_); · first | decide | omega)))
            have hp' : (qu' ++ [(dl goals p.1 kk, p.2 ++ [kk])])[a' + t]? = some p := by rw [List.getElem?_append_left (List.getElem?_eq_some_iff.mp hp).1]; exact hp
            refine hd ⟨qu' ++ [(dl goals p.1 kk, p.2 ++ [kk])], _, _, _, rfl, rfl, at_set2 (at_set2 hk (Ne.symm hk1)) hjk, ?_, ?_, List.IsPrefix.trans hpre (List.prefix_append _ _), hq.new hp hkk hmet, fun i hi q hqi => ?_, hp', fun q hqm => ?_⟩
            · rw [at_set2 (at_set h1) hj1]; simp [ords]
            · rw [at_set (at_set2 hj (Ne.symm hj1)), List.drop_append_of_le_length hpre.length_le]; simp [rowW]
            · rw [List.getElem?_append_left (by have := (List.getElem?_eq_some_iff.mp hp).1; omega)] at hqi
              exact hno i hi q hqi
            · rw [List.length_append, List.length_singleton]
              rcases List.mem_append.mp hqm with hqm | hqm
              · have := hwl q hqm; omega
              · simp at hqm; subst hqm
                have := hwl p (List.mem_of_getElem? hp)
                simp; omega
        · rintro fm st ⟨qu', M, x7, x8, rfl, rfl, hk, h1, hj, hpre, hq, hno, hp, hwl⟩
          dsimp only at hq
          rw [rng_len] at hq
          have hal := (List.getElem?_eq_some_iff.mp hp).1
          (repeat (first | with_reducible refine we_c ?_ | ((with_reducible refine we_v (w := ?_) ?_ ?_); rotate_left; · rfl) | with_reducible refine we_b ?_ | with_reducible refine we_a ?_ | with_reducible refine wa_c ?_ | with_reducible refine wa_n ?_ | with_reducible refine we_mt ?_ | with_reducible refine we_call ?_ | with_reducible refine we_tup ?_ | with_reducible refine we_lstW ?_ | with_reducible refine we_u ?_ | with_reducible refine we_not ?_ | with_reducible refine we_if ?_ | with_reducible refine we_and ?_ | with_reducible refine we_or ?_ | with_reducible refine we_cut ?_ | with_reducible refine wo_n ?_ | with_reducible refine wo_s ?_ | with_reducible refine wb_b ?_ | with_reducible refine wb_v ?_ | with_reducible refine wb_o ?_ | with_reducible refine wb_and ?_ | with_reducible refine wb_or ?_ | with_reducible refine wb_not ?_ | with_reducible refine wb_yes ?_ | with_reducible refine we_ch ?_ | with_reducible refine wx_n ?_ | with_reducible refine wx_c ?_ | with_reducible refine ss_n ?_ | with_reducible refine ss_c ?_ | with_reducible refine ss_set ?_ | with_reducible refine ss_ex ?_ | with_reducible refine ss_ret ?_ | with_reducible refine ss_retN ?_ | with_reducible refine ss_bk ?_ | with_reducible refine ss_ct ?_ | with_reducible refine ss_if ?_ | with_reducible refine ss_asg ?_ | with_reducible refine ss_put ?_ | with_reducible refine ss_for ?_ | with_reducible refine wi_a ?_ | with_reducible refine wi_r1 ?_ | with_reducible refine wi_r2 ?_ | with_reducible refine wp_ai ?_ | with_reducible refine wp_si ?_ | ((with_reducible refine wp_ml ?_ ?_); · decide) | ((with_reducible refine wp_mr ?_ ?_); · decide) | ((with_reducible refine wp_md ?_ ?_); · decide) | with_reducible refine wp_ng ?_ | with_reducible refine wp_eqi ?_ | with_reducible refine wp_eqs ?_ | with_reducible refine wp_eqb ?_ | with_reducible refine wp_nei ?_ | with_reducible refine wp_nes ?_ | with_reducible refine wp_neb ?_ | with_reducible refine wp_lt ?_ | with_reducible refine wp_le ?_ | with_reducible refine wp_gt ?_ | with_reducible refine wp_ge ?_ | with_reducible refine wp_isn ?_ | with_reducible refine wp_isnn ?_ | with_reducible refine wp_isb ?_ | with_reducible refine wp_isnb ?_ | with_reducible refine wp_int ?_ | with_reducible refine wp_min ?_ | with_reducible refine wp_max ?_ | with_reducible refine wp_lent ?_ | ((with_reducible refine wp_ixt (w := ?_) ?_ ?_); rotate_left; · rfl) | with_reducible refine wp_cutT ?_ | with_reducible refine wp_tupZ ?_ | with_reducible refine If.n ?_ | ((with_reducible refine If_tr ?_ ?_); · rfl) | ((with_reducible refine If_fa ?_ ?_); · rfl) | with_reducible refine ex_bl ?_ | with_reducible refine ex_int ?_ | with_reducible refine ex_int2 ?_ | with_reducible refine inW_mk ?_ | ((with_reducible refine ex_some (y := ?_) ?_ ?_); rotate_left; · rfl) | ((with_reducible refine and_len ?_ ?_); · rfl) | ((with_reducible refine and_hty ?_ ?_); · rfl) | ((with_reducible refine and_le ?_ ?_); · exact Nat.le_of_ble_eq_true rfl) | ((with_reducible refine and_bd ?_ ?_); · first | decide | omega)))
          refine hd ⟨qu', M, _, _, _, _, rfl, rfl, hk, h1, hj, hpre, hq.next hal, fun i hi q hqi => ?_, fun z => by omega, hwl⟩
          by_cases hia : i = a' + t
          · subst hia
            rw [hp] at hqi
            cases hqi
            exact hacc
          · exact hno i (by omega) q hqi
    · rintro fm st ⟨qu', M, x5, x6, x7, x8, rfl, rfl, hk, h1, hj, hpre, hq, hno, hz, hwl⟩
      dsimp only at hq hno hz
      rw [hrl, show a' + (qu.length - a') = qu.length by omega] at hq hno
      (repeat (first | with_reducible refine we_c ?_ | ((with_reducible refine we_v (w := ?_) ?_ ?_); rotate_left; · rfl) | with_reducible refine we_b ?_ | with_reducible refine we_a ?_ | with_reducible refine wa_c ?_ | with_reducible refine wa_n ?_ | with_reducible refine we_mt ?_ | with_reducible refine we_call ?_ | with_reducible refine we_tup ?_ | with_reducible refine we_lstW ?_ | with_reducible refine we_u ?_ | with_reducible refine we_not ?_ | with_reducible refine we_if ?_ | with_reducible refine we_and ?_ | with_reducible refine we_or ?_ | with_reducible refine we_cut ?_ | with_reducible refine wo_n ?_ | with_reducible refine wo_s ?_ | with_reducible refine wb_b ?_ | with_reducible refine wb_v ?_ | with_reducible refine wb_o ?_ | with_reducible refine wb_and ?_ | with_reducible refine wb_or ?_ | with_reducible refine wb_not ?_ | with_reducible refine wb_yes ?_ | with_reducible refine we_ch ?_ | with_reducible refine wx_n ?_ | with_reducible refine wx_c ?_ | with_reducible refine ss_n ?_ | with_reducible refine ss_c ?_ | with_reducible refine ss_set ?_ | with_reducible refine ss_ex ?_ | with_reducible refine ss_ret ?_ | with_reducible refine ss_retN ?_ | with_reducible refine ss_bk ?_ | with_reducible refine ss_ct ?_ | with_reducible refine ss_if ?_ | with_reducible refine ss_asg ?_ | with_reducible refine ss_put ?_ | with_reducible refine ss_for ?_ | with_reducible refine wi_a ?_ | with_reducible refine wi_r1 ?_ | with_reducible refine wi_r2 ?_ | with_reducible refine wp_ai ?_ | with_reducible refine wp_si ?_ | ((with_reducible refine wp_ml ?_ ?_); · decide) | ((with_reducible refine wp_mr ?_ ?_); · decide) | ((with_reducible refine wp_md ?_ ?_); · decide) | with_reducible refine wp_ng ?_ | with_reducible refine wp_eqi ?_ | with_reducible refine wp_eqs ?_ | with_reducible refine wp_eqb ?_ | with_reducible refine wp_nei ?_ | with_reducible refine wp_nes ?_ | with_reducible refine wp_neb ?_ | with_reducible refine wp_lt ?_ | with_reducible refine wp_le ?_ | with_reducible refine wp_gt ?_ | with_reducible refine wp_ge ?_ | with_reducible refine wp_isn ?_ | with_reducible refine wp_isnn ?_ | with_reducible refine wp_isb ?_ | with_reducible refine wp_isnb ?_ | with_reducible refine wp_int ?_ | with_reducible refine wp_min ?_ | with_reducible refine wp_max ?_ | with_reducible refine wp_lent ?_ | ((with_reducible refine wp_ixt (w := ?_) ?_ ?_); rotate_left; · rfl) | with_reducible refine wp_cutT ?_ | with_reducible refine wp_tupZ ?_ | with_reducible refine If.n ?_ | ((with_reducible refine If_tr ?_ ?_); · rfl) | ((with_reducible refine If_fa ?_ ?_); · rfl) | with_reducible refine ex_bl ?_ | with_reducible refine ex_int ?_ | with_reducible refine ex_int2 ?_ | with_reducible refine inW_mk ?_ | ((with_reducible refine ex_some (y := ?_) ?_ ?_); rotate_left; · rfl) | ((with_reducible refine and_len ?_ ?_); · rfl) | ((with_reducible refine and_hty ?_ ?_); · rfl) | ((with_reducible refine and_le ?_ ?_); · exact Nat.le_of_ble_eq_true rfl) | ((with_reducible refine and_bd ?_ ?_); · first | decide | omega)))
      refine hd ⟨qu', qu.length, j, M, _, _, _, _, _, _, rfl, rfl, hj, h1, hj1, hq, hno, ?_, hwl⟩
      by_cases he : a' = qu.length
      · have := hz (by rw [hrl]; omega)
        rw [this]; exact .inr rfl
      · exact .inl (by omega)
  · rintro fm st ⟨qu, a', k, M, x3, x4, x5, x6, x7, x8, rfl, rfl, hk, h1, hk1, hq, hno, hia, hwl⟩
    dsimp only at hia
    rw [rng_len, List.length_map, Int.toNat_natCast] at hia
    have hqs := hsm hq
    have ha : a' = qu.length := by have := hq.le; omega
    subst ha
    (repeat (first | with_reducible refine we_c ?_ | ((with_reducible refine we_v (w := ?_) ?_ ?_); rotate_left; · rfl) | with_reducible refine we_b ?_ | with_reducible refine we_a ?_ | with_reducible refine wa_c ?_ | with_reducible refine wa_n ?_ | with_reducible refine we_mt ?_ | with_reducible refine we_call ?_ | with_reducible refine we_tup ?_ | with_reducible refine we_lstW ?_ | with_reducible refine we_u ?_ | with_reducible refine we_not ?_ | with_reducible refine we_if ?_ | with_reducible refine we_and ?_ | with_reducible refine we_or ?_ | with_reducible refine we_cut ?_ | with_reducible refine wo_n ?_ | with_reducible refine wo_s ?_ | with_reducible refine wb_b ?_ | with_reducible refine wb_v ?_ | with_reducible refine wb_o ?_ | with_reducible refine wb_and ?_ | with_reducible refine wb_or ?_ | with_reducible refine wb_not ?_ | with_reducible refine wb_yes ?_ | with_reducible refine we_ch ?_ | with_reducible refine wx_n ?_ | with_reducible refine wx_c ?_ | with_reducible refine ss_n ?_ | with_reducible refine ss_c ?_ | with_reducible refine ss_set ?_ | with_reducible refine ss_ex ?_ | with_reducible refine ss_ret ?_ | with_reducible refine ss_retN ?_ | with_reducible refine ss_bk ?_ | with_reducible refine ss_ct ?_ | with_reducible refine ss_if ?_ | with_reducible refine ss_asg ?_ | with_reducible refine ss_put ?_ | with_reducible refine ss_for ?_ | with_reducible refine wi_a ?_ | with_reducible refine wi_r1 ?_ | with_reducible refine wi_r2 ?_ | with_reducible refine wp_ai ?_ | with_reducible refine wp_si ?_ | ((with_reducible refine wp_ml ?_ ?_); · decide) | ((with_reducible refine wp_mr ?_ ?_); · decide) | ((with_reducible refine wp_md ?_ ?_); · decide) | with_reducible refine wp_ng ?_ | with_reducible refine wp_eqi ?_ | with_reducible refine wp_eqs ?_ | with_reducible refine wp_eqb ?_ | with_reducible refine wp_nei ?_ | with_reducible refine wp_nes ?_ | with_reducible refine wp_neb ?_ | with_reducible refine wp_lt ?_ | with_reducible refine wp_le ?_ | with_reducible refine wp_gt ?_ | with_reducible refine wp_ge ?_ | with_reducible refine wp_isn ?_ | with_reducible refine wp_isnn ?_ | with_reducible refine wp_isb ?_ | with_reducible refine wp_isnb ?_ | with_reducible refine wp_int ?_ | with_reducible refine wp_min ?_ | with_reducible refine wp_max ?_ | with_reducible refine wp_lent ?_ | ((with_reducible refine wp_ixt (w := ?_) ?_ ?_); rotate_left; · rfl) | with_reducible refine wp_cutT ?_ | with_reducible refine wp_tupZ ?_ | with_reducible refine If.n ?_ | ((with_reducible refine If_tr ?_ ?_); · rfl) | ((with_reducible refine If_fa ?_ ?_); · rfl) | with_reducible refine ex_bl ?_ | with_reducible refine ex_int ?_ | with_reducible refine ex_int2 ?_ | with_reducible refine inW_mk ?_ | ((with_reducible refine ex_some (y := ?_) ?_ ?_); rotate_left; · rfl) | ((with_reducible refine and_len ?_ ?_); · rfl) | ((with_reducible refine and_hty ?_ ?_); · rfl) | ((with_reducible refine and_le ?_ ?_); · exact Nat.le_of_ble_eq_true rfl) | ((with_reducible refine and_bd ?_ ?_); · first | decide | omega)))
    rw [W_fin_n]
    refine hd ⟨rfl, .inr ⟨rfl, hq.none fun q hqm => ?_⟩⟩
    obtain ⟨i, hi⟩ := List.getElem?_of_mem hqm
    exact hno i (List.getElem?_eq_some_iff.mp hi).1 q hi
end L_k05
set_option maxHeartbeats 4000000
namespace Bfs
/-- all words of a length, in order -/
def lvl (n : Nat) : Nat → List (List Nat)
  | 0 => [[]]
  | m + 1 => (lvl n m).flatMap fun w => (List.range n).map fun k => w ++ [k]
theorem mem_lvl {n : Nat} : ∀ (m : Nat) (w : List Nat), w ∈ lvl n m ↔ w.length = m ∧ Wd n w := by
  intro m
  induction m with
  | zero =>
    intro w
    simp only [lvl, List.mem_singleton]
    constructor
    · rintro rfl
      exact ⟨rfl, fun _ h => (List.not_mem_nil h).elim⟩
    · rintro ⟨h, _⟩
      exact List.length_eq_zero_iff.mp h
  | succ m ih =>
    intro w
    simp only [lvl, List.mem_flatMap, List.mem_map, List.mem_range]
    constructor
    · rintro ⟨v, hv, k, hk, rfl⟩
      obtain ⟨h1, h2⟩ := (ih v).mp hv
      exact ⟨by simp [h1], h2.snoc hk⟩
    · rintro ⟨h1, h2⟩
      rcases snoc_cases w with rfl | ⟨v, k, rfl⟩
      · simp at h1
      · exact ⟨v, (ih v).mpr ⟨by simpa using h1, h2.init.1⟩, k, h2.init.2, rfl⟩
theorem lvl_sort {n : Nat} : ∀ m : Nat, (lvl n m).Pairwise fun u v => V n u < V n v := by
  intro m
  induction m with
  | zero => simp [lvl]
  | succ m ih =>
    simp only [lvl]
    have key : ∀ l : List (List Nat), l.Pairwise (fun u v => V n u < V n v) → (l.flatMap fun w => (List.range n).map fun k => w ++ [k]).Pairwise fun u v => V n u < V n v := by
      intro l
      induction l with
      | nil => intro _; simp
      | cons w l ih =>
        intro hp
        rw [List.pairwise_cons] at hp
        rw [List.flatMap_cons, List.pairwise_append]
        refine ⟨?_, ih hp.2, ?_⟩
        · rw [List.pairwise_map]
          refine List.Pairwise.imp ?_ List.pairwise_lt_range
          intro i j hij
          rw [V_snoc, V_snoc]; omega
        · intro u hu v hv
          obtain ⟨k, hk, rfl⟩ := List.mem_map.mp hu
          obtain ⟨x, hx, hv⟩ := List.mem_flatMap.mp hv
          obtain ⟨j, hj, rfl⟩ := List.mem_map.mp hv
          rw [V_snoc, V_snoc]
          have h1 := hp.1 x hx
          rw [List.mem_range] at hk
          have h2 : n * (V n w + 1) ≤ n * V n x := Nat.mul_le_mul_left n (by omega)
          rw [Nat.mul_add] at h2
          omega
    exact key _ ih
theorem V_len {n : Nat} : ∀ (m : Nat) (w u : List Nat), w.length = m → Wd n w → Wd n u → w.length < u.length → V n w < V n u := by
  intro m
  induction m with
  | zero =>
    intro w u hw _ _ hl
    have : w = [] := List.length_eq_zero_iff.mp hw
    subst this
    rcases snoc_cases u with rfl | ⟨x, j, rfl⟩
    · simp at hl
    · rw [V_snoc]
      have : V n [] = 0 := rfl
      omega
  | succ m ih =>
    intro w u hw ww wu hl
    rcases snoc_cases w with rfl | ⟨v, k, rfl⟩
    · simp at hw
    · rcases snoc_cases u with rfl | ⟨x, j, rfl⟩
      · simp at hl
      · rw [V_snoc, V_snoc]
        have h1 := ih v x (by simpa using hw) ww.init.1 wu.init.1 (by simpa using hl)
        have hk := ww.init.2
        have h2 : n * (V n v + 1) ≤ n * V n x := Nat.mul_le_mul_left n (by omega)
        rw [Nat.mul_add] at h2
        omega
/-- the first one of a level, where no shorter word is taken -/
theorem lvl_first {n : Nat} {d : Nat → Nat → Nat} {acc : Nat → Bool} {m i : Nat} {w : List Nat} (hw : (lvl n m)[i]? = some w) (ha : acc (run d w) = true) (hb : ∀ j, j < i → ∀ u, (lvl n m)[j]? = some u → acc (run d u) = false) (hs : ∀ u, Wd n u → u.length < m → acc (run d u) = false) : Least n d acc w := by
  obtain ⟨hl, ww⟩ := (mem_lvl m w).mp (List.mem_of_getElem? hw)
  refine ⟨ww, ha, fun u wu hu => ?_⟩
  rcases Nat.lt_trichotomy u.length m with h | h | h
  · rw [hs u wu h] at hu; cases hu
  · obtain ⟨j, hj⟩ := List.getElem?_of_mem ((mem_lvl m u).mpr ⟨h, wu⟩)
    rcases Nat.lt_trichotomy i j with hij | hij | hij
    · obtain ⟨hi', e1⟩ := List.getElem?_eq_some_iff.mp hw
      obtain ⟨hj', e2⟩ := List.getElem?_eq_some_iff.mp hj
      have := List.pairwise_iff_getElem.mp (lvl_sort (n := n) m) i j hi' hj' hij
      rw [e1, e2] at this
      omega
    · subst hij; rw [hw] at hj; cases hj; exact Nat.le_refl _
    · rw [hb j hij u hj] at hu; cases hu
  · exact Nat.le_of_lt (V_len w.length w u rfl ww wu (by omega))
end Bfs
set_option maxHeartbeats 4000000
namespace L_k05
open PySem PySem.Spec PyProof.Rows L2 T3
/-- words with their states, as the law keeps them -/
def prs (goals : List (List Nat)) (l : List (List Nat)) : List (Nat × List Nat) := l.map fun w => (Bfs.run (dl goals) w, w)
def ext (n : Nat) (w : List Nat) : List (List Nat) := (List.range n).map fun k => w ++ [k]
theorem lvl_len {n : Nat} : ∀ m : Nat, (Bfs.lvl n m).length = n ^ m
  | 0 => rfl
  | m + 1 => by
    simp only [Bfs.lvl]
    have key : ∀ l : List (List Nat), (l.flatMap fun w => (List.range n).map fun k => w ++ [k]).length = l.length * n := by
      intro l
      induction l with
      | nil => simp
      | cons w l ih => rw [List.flatMap_cons, List.length_append, ih, List.length_cons, Nat.add_mul]; simp; omega
    rw [key, lvl_len m, Nat.pow_succ]
theorem ext_len {n : Nat} (l : List (List Nat)) : (l.flatMap (ext n)).length = l.length * n := by
  induction l with
  | nil => simp
  | cons w l ih => rw [List.flatMap_cons, List.length_append, ih, List.length_cons, Nat.add_mul]; simp [ext]; omega
def fT (ls : List Nat) (goals : List (List Nat)) (v : List Nat) (y : Va) : Va := match y with
  | .int k => .tup [.str (txt ls (v ++ [k.toNat])), .int (dl goals (Bfs.run (dl goals) v) k.toNat : Nat)]
  | _ => .non
theorem comp_eq (ls : List Nat) (goals : List (List Nat)) (v : List Nat) (n : Nat) : ((rngW 0 n).filter (fun _ => true)).map (fT ls goals v) = rowW ls (prs goals (ext n v)) := by
  rw [List.filter_eq_self.mpr (fun _ _ => rfl)]
  unfold rngW rowW prs ext
  rw [List.map_map, List.map_map, List.map_map]
  apply List.map_congr_left
  intro k _
  simp only [Function.comp, fT, Bfs.run_snoc]
  rw [show ((0 : Int) + (k : Int)).toNat = k by omega]
theorem tried_eq {ls : List Nat} {goals : List (List Nat)} {ends : List Bool} (h : WF ls goals ends) (hl : 1 ≤ ls.length ∧ ls.length ≤ 3) (hS : goals.length ≤ 7) (e : Dw) (a : Nat) (L : Sto) :
    Wp (m__law_tried [setV ls goals ends, .int 4] (W e a L [])) fun w s => Hd (s = W e a L [] ∧ ((∃ t, w = .str (txt ls t) ∧ Bfs.Least ls.length (dl goals) (acc ends) t) ∨ (w = .non ∧ ∀ u, Bfs.Wd ls.length u → u.length < 5 → acc ends (Bfs.run (dl goals) u) = false))) := by
  unfold m__law_tried
  refine wp_fn rfl ?_
  have hen : ∀ q, q < goals.length → atI (ends.map Va.bl) (q : Int) = some (.bl (acc ends q)) := fun q hq => by
    have he := h.ends
    rw [atI_map, atI_n]
    unfold acc
    rw [List.getElem?_eq_getElem (show q < ends.length by omega)]; rfl
  have hlv : ∀ i, i ≤ 5 → (Bfs.lvl ls.length i).length ≤ 243 := fun i hi => by
    rw [lvl_len]
    have h1 : ls.length ^ i ≤ 3 ^ i := Nat.pow_le_pow_left hl.2 i
    have h2 : 3 ^ i ≤ 3 ^ 5 := Nat.pow_le_pow_right (by decide) hi
    have : 3 ^ 5 = 243 := by decide
    omega
  have hrw : ∀ l : List (List Nat), (rowW ls (prs goals l)).length = l.length := fun l => by simp [rowW, prs]
  have hget : ∀ {l : List (List Nat)} {j : Nat} {y : Va}, (rowW ls (prs goals l))[j]? = some y → ∃ w, l[j]? = some w ∧ y = .tup [.str (txt ls w), .int (Bfs.run (dl goals) w : Nat)] := fun {l j y} hy => by
    unfold rowW prs at hy
    rw [List.map_map, List.getElem?_map] at hy
    obtain ⟨w, hw, rfl⟩ := Option.map_eq_some_iff.mp hy
    exact ⟨w, hw, rfl⟩
  (repeat (first | with_reducible refine we_c ?_ | ((with_reducible refine we_v (w := ?_) ?_ ?_); rotate_left; · rfl) | with_reducible refine we_b ?_ | with_reducible refine we_a ?_ | with_reducible refine wa_c ?_ | with_reducible refine wa_n ?_ | with_reducible refine we_mt ?_ | with_reducible refine we_call ?_ | with_reducible refine we_tup ?_ | with_reducible refine we_lstW ?_ | with_reducible refine we_u ?_ | with_reducible refine we_not ?_ | with_reducible refine we_if ?_ | with_reducible refine we_and ?_ | with_reducible refine we_or ?_ | with_reducible refine we_cut ?_ | with_reducible refine wo_n ?_ | with_reducible refine wo_s ?_ | with_reducible refine wb_b ?_ | with_reducible refine wb_v ?_ | with_reducible refine wb_o ?_ | with_reducible refine wb_and ?_ | with_reducible refine wb_or ?_ | with_reducible refine wb_not ?_ | with_reducible refine wb_yes ?_ | with_reducible refine we_ch ?_ | with_reducible refine wx_n ?_ | with_reducible refine wx_c ?_ | with_reducible refine ss_n ?_ | with_reducible refine ss_c ?_ | with_reducible refine ss_set ?_ | with_reducible refine ss_ex ?_ | with_reducible refine ss_ret ?_ | with_reducible refine ss_retN ?_ | with_reducible refine ss_bk ?_ | with_reducible refine ss_ct ?_ | with_reducible refine ss_if ?_ | with_reducible refine ss_asg ?_ | with_reducible refine ss_put ?_ | with_reducible refine ss_for ?_ | with_reducible refine wi_a ?_ | with_reducible refine wi_r1 ?_ | with_reducible refine wi_r2 ?_ | with_reducible refine wp_ai ?_ | with_reducible refine wp_si ?_ | ((with_reducible refine wp_ml ?_ ?_); · decide) | ((with_reducible refine wp_mr ?_ ?_); · decide) | ((with_reducible refine wp_md ?_ ?_); · decide) | with_reducible refine wp_ng ?_ | with_reducible refine wp_eqi ?_ | with_reducible refine wp_eqs ?_ | with_reducible refine wp_eqb ?_ | with_reducible refine wp_nei ?_ | with_reducible refine wp_nes ?_ | with_reducible refine wp_neb ?_ | with_reducible refine wp_lt ?_ | with_reducible refine wp_le ?_ | with_reducible refine wp_gt ?_ | with_reducible refine wp_ge ?_ | with_reducible refine wp_isn ?_ | with_reducible refine wp_isnn ?_ | with_reducible refine wp_isb ?_ | with_reducible refine wp_isnb ?_ | with_reducible refine wp_int ?_ | with_reducible refine wp_min ?_ | with_reducible refine wp_max ?_ | with_reducible refine wp_lent ?_ | ((with_reducible refine wp_ixt (w := ?_) ?_ ?_); rotate_left; · rfl) | with_reducible refine wp_cutT ?_ | with_reducible refine wp_tupZ ?_ | with_reducible refine If.n ?_ | ((with_reducible refine If_tr ?_ ?_); · rfl) | ((with_reducible refine If_fa ?_ ?_); · rfl) | with_reducible refine ex_bl ?_ | with_reducible refine ex_int ?_ | with_reducible refine ex_int2 ?_ | with_reducible refine inW_mk ?_ | ((with_reducible refine ex_some (y := ?_) ?_ ?_); rotate_left; · rfl) | ((with_reducible refine and_len ?_ ?_); · rfl) | ((with_reducible refine and_hty ?_ ?_); · rfl) | ((with_reducible refine and_le ?_ ?_); · exact Nat.le_of_ble_eq_true rfl) | ((with_reducible refine and_bd ?_ ?_); · first | decide | omega)))
  refine wl_inv (fun i fm st => Hd (∃ k M x3 x4 x5 x6 x7, fm = [some (setV ls goals ends), some (.int 4), some (.ref (e.p L + k)), x3, x4, x5, x6, x7] ∧ st = W e a L M ∧ M[k]? = some (.lst (rowW ls (prs goals (Bfs.lvl ls.length i)))) ∧ ∀ u, Bfs.Wd ls.length u → u.length < i → acc ends (Bfs.run (dl goals) u) = false)) (fun _ _ _ _ => trivial) (hd ⟨0, _, _, _, _, _, _, rfl, rfl, rfl, fun u _ hu => by omega⟩) ?_ ?_
  · rintro i w hw fm st ⟨k, M, x3, x4, x5, x6, x7, rfl, rfl, hk, hno⟩
    obtain ⟨rfl, hi⟩ := rng_get hw
    have hi5 : i < 5 := hi
    have hli := hlv i (by omega)
    refine ⟨_, rfl, ?_⟩
    (repeat (first | with_reducible refine we_c ?_ | ((with_reducible refine we_v (w := ?_) ?_ ?_); rotate_left; · rfl) | with_reducible refine we_b ?_ | with_reducible refine we_a ?_ | with_reducible refine wa_c ?_ | with_reducible refine wa_n ?_ | with_reducible refine we_mt ?_ | with_reducible refine we_call ?_ | with_reducible refine we_tup ?_ | with_reducible refine we_lstW ?_ | with_reducible refine we_u ?_ | with_reducible refine we_not ?_ | with_reducible refine we_if ?_ | with_reducible refine we_and ?_ | with_reducible refine we_or ?_ | with_reducible refine we_cut ?_ | with_reducible refine wo_n ?_ | with_reducible refine wo_s ?_ | with_reducible refine wb_b ?_ | with_reducible refine wb_v ?_ | with_reducible refine wb_o ?_ | with_reducible refine wb_and ?_ | with_reducible refine wb_or ?_ | with_reducible refine wb_not ?_ | with_reducible refine wb_yes ?_ | with_reducible refine we_ch ?_ | with_reducible refine wx_n ?_ | with_reducible refine wx_c ?_ | with_reducible refine ss_n ?_ | with_reducible refine ss_c ?_ | with_reducible refine ss_set ?_ | with_reducible refine ss_ex ?_ | with_reducible refine ss_ret ?_ | with_reducible refine ss_retN ?_ | with_reducible refine ss_bk ?_ | with_reducible refine ss_ct ?_ | with_reducible refine ss_if ?_ | with_reducible refine ss_asg ?_ | with_reducible refine ss_put ?_ | with_reducible refine ss_for ?_ | with_reducible refine wi_a ?_ | with_reducible refine wi_r1 ?_ | with_reducible refine wi_r2 ?_ | with_reducible refine wp_ai ?_ | with_reducible refine wp_si ?_ | ((with_reducible refine wp_ml ?_ ?_); · decide) | ((with_reducible refine wp_mr ?_ ?_); · decide) | ((with_reducible refine wp_md ?_ ?_); · decide) | with_reducible refine wp_ng ?_ | with_reducible refine wp_eqi ?_ | with_reducible refine wp_eqs ?_ | with_reducible refine wp_eqb ?_ | with_reducible refine wp_nei ?_ | with_reducible refine wp_nes ?_ | with_reducible refine wp_neb ?_ | with_reducible refine wp_lt ?_ | with_reducible refine wp_le ?_ | with_reducible refine wp_gt ?_ | with_reducible refine wp_ge ?_ | with_reducible refine wp_isn ?_ | with_reducible refine wp_isnn ?_ | with_reducible refine wp_isb ?_ | with_reducible refine wp_isnb ?_ | with_reducible refine wp_int ?_ | with_reducible refine wp_min ?_ | with_reducible refine wp_max ?_ | with_reducible refine wp_lent ?_ | ((with_reducible refine wp_ixt (w := ?_) ?_ ?_); rotate_left; · rfl) | with_reducible refine wp_cutT ?_ | with_reducible refine wp_tupZ ?_ | with_reducible refine If.n ?_ | ((with_reducible refine If_tr ?_ ?_); · rfl) | ((with_reducible refine If_fa ?_ ?_); · rfl) | with_reducible refine ex_bl ?_ | with_reducible refine ex_int ?_ | with_reducible refine ex_int2 ?_ | with_reducible refine inW_mk ?_ | ((with_reducible refine ex_some (y := ?_) ?_ ?_); rotate_left; · rfl) | ((with_reducible refine and_len ?_ ?_); · rfl) | ((with_reducible refine and_hty ?_ ?_); · rfl) | ((with_reducible refine and_le ?_ ?_); · exact Nat.le_of_ble_eq_true rfl) | ((with_reducible refine and_bd ?_ ?_); · first | decide | omega)))
    refine ex_some (y := ⟨rowW ls (prs goals (Bfs.lvl ls.length i)), fun st => st[e.p L + k]? = some (.lst (rowW ls (prs goals (Bfs.lvl ls.length i))))⟩) (by simp only [srcOf, W_get, hk]) ?_
    refine wl_inv (fun j fm st => Hd (∃ x4 x5, fm = [some (setV ls goals ends), some (.int 4), some (.ref (e.p L + k)), some (.int (0 + (i : Int))), x4, x5, x6, x7] ∧ st = W e a L M ∧ ∀ j', j' < j → ∀ u, (Bfs.lvl ls.length i)[j']? = some u → acc ends (Bfs.run (dl goals) u) = false)) (by
      rintro j fm st ⟨x4, x5, rfl, rfl, _⟩
      exact (W_get k).trans hk) (hd ⟨_, _, rfl, rfl, fun j' hj' => by omega⟩) ?_ ?_
    · rintro j y hy fm st ⟨x4, x5, rfl, rfl, hb⟩
      obtain ⟨v, hv, rfl⟩ := hget hy
      obtain ⟨v1, v2⟩ := (Bfs.mem_lvl i v).mp (List.mem_of_getElem? hv)
      have hpl := run_lt h _ v rfl v2
      refine ⟨_, rfl, ?_⟩
      (repeat (first | with_reducible refine we_c ?_ | ((with_reducible refine we_v (w := ?_) ?_ ?_); rotate_left; · rfl) | with_reducible refine we_b ?_ | with_reducible refine we_a ?_ | with_reducible refine wa_c ?_ | with_reducible refine wa_n ?_ | with_reducible refine we_mt ?_ | with_reducible refine we_call ?_ | with_reducible refine we_tup ?_ | with_reducible refine we_lstW ?_ | with_reducible refine we_u ?_ | with_reducible refine we_not ?_ | with_reducible refine we_if ?_ | with_reducible refine we_and ?_ | with_reducible refine we_or ?_ | with_reducible refine we_cut ?_ | with_reducible refine wo_n ?_ | with_reducible refine wo_s ?_ | with_reducible refine wb_b ?_ | with_reducible refine wb_v ?_ | with_reducible refine wb_o ?_ | with_reducible refine wb_and ?_ | with_reducible refine wb_or ?_ | with_reducible refine wb_not ?_ | with_reducible refine wb_yes ?_ | with_reducible refine we_ch ?_ | with_reducible refine wx_n ?_ | with_reducible refine wx_c ?_ | with_reducible refine ss_n ?_ | with_reducible refine ss_c ?_ | with_reducible refine ss_set ?_ | with_reducible refine ss_ex ?_ | with_reducible refine ss_ret ?_ | with_reducible refine ss_retN ?_ | with_reducible refine ss_bk ?_ | with_reducible refine ss_ct ?_ | with_reducible refine ss_if ?_ | with_reducible refine ss_asg ?_ | with_reducible refine ss_put ?_ | with_reducible refine ss_for ?_ | with_reducible refine wi_a ?_ | with_reducible refine wi_r1 ?_ | with_reducible refine wi_r2 ?_ | with_reducible refine wp_ai ?_ | with_reducible refine wp_si ?_ | ((with_reducible refine wp_ml ?_ ?_); · decide) | ((with_reducible refine wp_mr ?_ ?_); · decide) | ((with_reducible refine wp_md ?_ ?_); · decide) | with_reducible refine wp_ng ?_ | with_reducible refine wp_eqi ?_ | with_reducible refine wp_eqs ?_ | with_reducible refine wp_eqb ?_ | with_reducible refine wp_nei ?_ | with_reducible refine wp_nes ?_ | with_reducible refine wp_neb ?_ | with_reducible refine wp_lt ?_ | with_reducible refine wp_le ?_ | with_reducible refine wp_gt ?_ | with_reducible refine wp_ge ?_ | with_reducible refine wp_isn ?_ | with_reducible refine wp_isnn ?_ | with_reducible refine wp_isb ?_ | with_reducible refine wp_isnb ?_ | with_reducible refine wp_int ?_ | with_reducible refine wp_min ?_ | with_reducible refine wp_max ?_ | with_reducible refine wp_lent ?_ | ((with_reducible refine wp_ixt (w := ?_) ?_ ?_); rotate_left; · rfl) | with_reducible refine wp_cutT ?_ | with_reducible refine wp_tupZ ?_ | with_reducible refine If.n ?_ | ((with_reducible refine If_tr ?_ ?_); · rfl) | ((with_reducible refine If_fa ?_ ?_); · rfl) | with_reducible refine ex_bl ?_ | with_reducible refine ex_int ?_ | with_reducible refine ex_int2 ?_ | with_reducible refine inW_mk ?_ | ((with_reducible refine ex_some (y := ?_) ?_ ?_); rotate_left; · rfl) | ((with_reducible refine and_len ?_ ?_); · rfl) | ((with_reducible refine and_hty ?_ ?_); · rfl) | ((with_reducible refine and_le ?_ ?_); · exact Nat.le_of_ble_eq_true rfl) | ((with_reducible refine and_bd ?_ ?_); · first | decide | omega)))
      refine wp_ixt (hen _ hpl) ?_
      refine ex_some (y := acc ends (Bfs.run (dl goals) v)) rfl ?_
      refine ⟨fun hacc => ?_, fun hacc => ?_⟩
      · (repeat (first | with_reducible refine we_c ?_ | ((with_reducible refine we_v (w := ?_) ?_ ?_); rotate_left; · rfl) | with_reducible refine we_b ?_ | with_reducible refine we_a ?_ | with_reducible refine wa_c ?_ | with_reducible refine wa_n ?_ | with_reducible refine we_mt ?_ | with_reducible refine we_call ?_ | with_reducible refine we_tup ?_ | with_reducible refine we_lstW ?_ | with_reducible refine we_u ?_ | with_reducible refine we_not ?_ | with_reducible refine we_if ?_ | with_reducible refine we_and ?_ | with_reducible refine we_or ?_ | with_reducible refine we_cut ?_ | with_reducible refine wo_n ?_ | with_reducible refine wo_s ?_ | with_reducible refine wb_b ?_ | with_reducible refine wb_v ?_ | with_reducible refine wb_o ?_ | with_reducible refine wb_and ?_ | with_reducible refine wb_or ?_ | with_reducible refine wb_not ?_ | with_reducible refine wb_yes ?_ | with_reducible refine we_ch ?_ | with_reducible refine wx_n ?_ | with_reducible refine wx_c ?_ | with_reducible refine ss_n ?_ | with_reducible refine ss_c ?_ | with_reducible refine ss_set ?_ | with_reducible refine ss_ex ?_ | with_reducible refine ss_ret ?_ | with_reducible refine ss_retN ?_ | with_reducible refine ss_bk ?_ | with_reducible refine ss_ct ?_ | with_reducible refine ss_if ?_ | with_reducible refine ss_asg ?_ | with_reducible refine ss_put ?_ | with_reducible refine ss_for ?_ | with_reducible refine wi_a ?_ | with_reducible refine wi_r1 ?_ | with_reducible refine wi_r2 ?_ | with_reducible refine wp_ai ?_ | with_reducible refine wp_si ?_ | ((with_reducible refine wp_ml ?_ ?_); · decide) | ((with_reducible refine wp_mr ?_ ?_); · decide) | ((with_reducible refine wp_md ?_ ?_); · decide) | with_reducible refine wp_ng ?_ | with_reducible refine wp_eqi ?_ | with_reducible refine wp_eqs ?_ | with_reducible refine wp_eqb ?_ | with_reducible refine wp_nei ?_ | with_reducible refine wp_nes ?_ | with_reducible refine wp_neb ?_ | with_reducible refine wp_lt ?_ | with_reducible refine wp_le ?_ | with_reducible refine wp_gt ?_ | with_reducible refine wp_ge ?_ | with_reducible refine wp_isn ?_ | with_reducible refine wp_isnn ?_ | with_reducible refine wp_isb ?_ | with_reducible refine wp_isnb ?_ | with_reducible refine wp_int ?_ | with_reducible refine wp_min ?_ | with_reducible refine wp_max ?_ | with_reducible refine wp_lent ?_ | ((with_reducible refine wp_ixt (w := ?_) ?_ ?_); rotate_left; · rfl) | with_reducible refine wp_cutT ?_ | with_reducible refine wp_tupZ ?_ | with_reducible refine If.n ?_ | ((with_reducible refine If_tr ?_ ?_); · rfl) | ((with_reducible refine If_fa ?_ ?_); · rfl) | with_reducible refine ex_bl ?_ | with_reducible refine ex_int ?_ | with_reducible refine ex_int2 ?_ | with_reducible refine inW_mk ?_ | ((with_reducible refine ex_some (y := ?_) ?_ ?_); rotate_left; · rfl) | ((with_reducible refine and_len ?_ ?_); · rfl) | ((with_reducible refine and_hty ?_ ?_); · rfl) | ((with_reducible refine and_le ?_ ?_); · exact Nat.le_of_ble_eq_true rfl) | ((with_reducible refine and_bd ?_ ?_); · first | decide | omega)))
        rw [W_fin_s]
        exact hd ⟨rfl, .inl ⟨v, rfl, Bfs.lvl_first hv hacc hb hno⟩⟩
      · (repeat (first | with_reducible refine we_c ?_ | ((with_reducible refine we_v (w := ?_) ?_ ?_); rotate_left; · rfl) | with_reducible refine we_b ?_ | with_reducible refine we_a ?_ | with_reducible refine wa_c ?_ | with_reducible refine wa_n ?_ | with_reducible refine we_mt ?_ | with_reducible refine we_call ?_ | with_reducible refine we_tup ?_ | with_reducible refine we_lstW ?_ | with_reducible refine we_u ?_ | with_reducible refine we_not ?_ | with_reducible refine we_if ?_ | with_reducible refine we_and ?_ | with_reducible refine we_or ?_ | with_reducible refine we_cut ?_ | with_reducible refine wo_n ?_ | with_reducible refine wo_s ?_ | with_reducible refine wb_b ?_ | with_reducible refine wb_v ?_ | with_reducible refine wb_o ?_ | with_reducible refine wb_and ?_ | with_reducible refine wb_or ?_ | with_reducible refine wb_not ?_ | with_reducible refine wb_yes ?_ | with_reducible refine we_ch ?_ | with_reducible refine wx_n ?_ | with_reducible refine wx_c ?_ | with_reducible refine ss_n ?_ | with_reducible refine ss_c ?_ | with_reducible refine ss_set ?_ | with_reducible refine ss_ex ?_ | with_reducible refine ss_ret ?_ | with_reducible refine ss_retN ?_ | with_reducible refine ss_bk ?_ | with_reducible refine ss_ct ?_ | with_reducible refine ss_if ?_ | with_reducible refine ss_asg ?_ | with_reducible refine ss_put ?_ | with_reducible refine ss_for ?_ | with_reducible refine wi_a ?_ | with_reducible refine wi_r1 ?_ | with_reducible refine wi_r2 ?_ | with_reducible refine wp_ai ?_ | with_reducible refine wp_si ?_ | ((with_reducible refine wp_ml ?_ ?_); · decide) | ((with_reducible refine wp_mr ?_ ?_); · decide) | ((with_reducible refine wp_md ?_ ?_); · decide) | with_reducible refine wp_ng ?_ | with_reducible refine wp_eqi ?_ | with_reducible refine wp_eqs ?_ | with_reducible refine wp_eqb ?_ | with_reducible refine wp_nei ?_ | with_reducible refine wp_nes ?_ | with_reducible refine wp_neb ?_ | with_reducible refine wp_lt ?_ | with_reducible refine wp_le ?_ | with_reducible refine wp_gt ?_ | with_reducible refine wp_ge ?_ | with_reducible refine wp_isn ?_ | with_reducible refine wp_isnn ?_ | with_reducible refine wp_isb ?_ | with_reducible refine wp_isnb ?_ | with_reducible refine wp_int ?_ | with_reducible refine wp_min ?_ | with_reducible refine wp_max ?_ | with_reducible refine wp_lent ?_ | ((with_reducible refine wp_ixt (w := ?_) ?_ ?_); rotate_left; · rfl) | with_reducible refine wp_cutT ?_ | with_reducible refine wp_tupZ ?_ | with_reducible refine If.n ?_ | ((with_reducible refine If_tr ?_ ?_); · rfl) | ((with_reducible refine If_fa ?_ ?_); · rfl) | with_reducible refine ex_bl ?_ | with_reducible refine ex_int ?_ | with_reducible refine ex_int2 ?_ | with_reducible refine inW_mk ?_ | ((with_reducible refine ex_some (y := ?_) ?_ ?_); rotate_left; · rfl) | ((with_reducible refine and_len ?_ ?_); · rfl) | ((with_reducible refine and_hty ?_ ?_); · rfl) | ((with_reducible refine and_le ?_ ?_); · exact Nat.le_of_ble_eq_true rfl) | ((with_reducible refine and_bd ?_ ?_); · first | decide | omega)))
        refine hd ⟨_, _, rfl, rfl, fun j' hj' u hu => ?_⟩
        by_cases e : j' = j
        · subst e; rw [hv] at hu; cases hu; exact hacc
        · exact hb j' (by omega) u hu
    · rintro fm st ⟨x4, x5, rfl, rfl, hb⟩
      dsimp only at hb
      rw [hrw] at hb
      have hno' : ∀ u, Bfs.Wd ls.length u → u.length < i + 1 → acc ends (Bfs.run (dl goals) u) = false := fun u wu hu => by
        by_cases e : u.length = i
        · obtain ⟨j, hj⟩ := List.getElem?_of_mem ((Bfs.mem_lvl i u).mpr ⟨e, wu⟩)
          exact hb j (List.getElem?_eq_some_iff.mp hj).1 u hj
        · exact hno u wu (by omega)
      refine ss_c (ss_set ?_)
      (repeat (first | with_reducible refine we_c ?_ | ((with_reducible refine we_v (w := ?_) ?_ ?_); rotate_left; · rfl) | with_reducible refine we_b ?_ | with_reducible refine we_a ?_ | with_reducible refine wa_c ?_ | with_reducible refine wa_n ?_ | with_reducible refine we_mt ?_ | with_reducible refine we_call ?_ | with_reducible refine we_tup ?_ | with_reducible refine we_lstW ?_ | with_reducible refine we_u ?_ | with_reducible refine we_not ?_ | with_reducible refine we_if ?_ | with_reducible refine we_and ?_ | with_reducible refine we_or ?_ | with_reducible refine we_cut ?_ | with_reducible refine wo_n ?_ | with_reducible refine wo_s ?_ | with_reducible refine wb_b ?_ | with_reducible refine wb_v ?_ | with_reducible refine wb_o ?_ | with_reducible refine wb_and ?_ | with_reducible refine wb_or ?_ | with_reducible refine wb_not ?_ | with_reducible refine wb_yes ?_ | with_reducible refine we_ch ?_ | with_reducible refine wx_n ?_ | with_reducible refine wx_c ?_ | with_reducible refine ss_n ?_ | with_reducible refine ss_c ?_ | with_reducible refine ss_set ?_ | with_reducible refine ss_ex ?_ | with_reducible refine ss_ret ?_ | with_reducible refine ss_retN ?_ | with_reducible refine ss_bk ?_ | with_reducible refine ss_ct ?_ | with_reducible refine ss_if ?_ | with_reducible refine ss_asg ?_ | with_reducible refine ss_put ?_ | with_reducible refine ss_for ?_ | with_reducible refine wi_a ?_ | with_reducible refine wi_r1 ?_ | with_reducible refine wi_r2 ?_ | with_reducible refine wp_ai ?_ | with_reducible refine wp_si ?_ | ((with_reducible refine wp_ml ?_ ?_); · decide) | ((with_reducible refine wp_mr ?_ ?_); · decide) | ((with_reducible refine wp_md ?_ ?_); · decide) | with_reducible refine wp_ng ?_ | with_reducible refine wp_eqi ?_ | with_reducible refine wp_eqs ?_ | with_reducible refine wp_eqb ?_ | with_reducible refine wp_nei ?_ | with_reducible refine wp_nes ?_ | with_reducible refine wp_neb ?_ | with_reducible refine wp_lt ?_ | with_reducible refine wp_le ?_ | with_reducible refine wp_gt ?_ | with_reducible refine wp_ge ?_ | with_reducible refine wp_isn ?_ | with_reducible refine wp_isnn ?_ | with_reducible refine wp_isb ?_ | with_reducible refine wp_isnb ?_ | with_reducible refine wp_int ?_ | with_reducible refine wp_min ?_ | with_reducible refine wp_max ?_ | with_reducible refine wp_lent ?_ | ((with_reducible refine wp_ixt (w := ?_) ?_ ?_); rotate_left; · rfl) | with_reducible refine wp_cutT ?_ | with_reducible refine wp_tupZ ?_ | with_reducible refine If.n ?_ | ((with_reducible refine If_tr ?_ ?_); · rfl) | ((with_reducible refine If_fa ?_ ?_); · rfl) | with_reducible refine ex_bl ?_ | with_reducible refine ex_int ?_ | with_reducible refine ex_int2 ?_ | with_reducible refine inW_mk ?_ | ((with_reducible refine ex_some (y := ?_) ?_ ?_); rotate_left; · rfl) | ((with_reducible refine and_len ?_ ?_); · rfl) | ((with_reducible refine and_hty ?_ ?_); · rfl) | ((with_reducible refine and_le ?_ ?_); · exact Nat.le_of_ble_eq_true rfl) | ((with_reducible refine and_bd ?_ ?_); · first | decide | omega)))
      refine ex_some (y := ⟨rowW ls (prs goals (Bfs.lvl ls.length i)), fun st => st[e.p L + k]? = some (.lst (rowW ls (prs goals (Bfs.lvl ls.length i))))⟩) (by simp only [srcOf, W_get, at_push hk]) ?_
      refine wl_inv (fun j fm st => Hd (∃ k2 M x4 x5 x7, fm = [some (setV ls goals ends), some (.int 4), some (.ref (e.p L + k)), some (.int (0 + (i : Int))), x4, x5, some (.ref (e.p L + k2)), x7] ∧ st = W e a L M ∧ M[k]? = some (.lst (rowW ls (prs goals (Bfs.lvl ls.length i)))) ∧ M[k2]? = some (.lst (rowW ls (prs goals (((Bfs.lvl ls.length i).take j).flatMap (ext ls.length))))))) (by
        rintro j fm st ⟨k2, M, x4, x5, x7, rfl, rfl, hk, _⟩
        exact (W_get k).trans hk) (hd ⟨_, _, _, _, _, rfl, rfl, at_push hk, at_last⟩) ?_ ?_
      · rintro j y hy fm st ⟨k2, M, x4, x5, x7, rfl, rfl, hk, hk2⟩
        obtain ⟨v, hv, rfl⟩ := hget hy
        obtain ⟨v1, v2⟩ := (Bfs.mem_lvl i v).mp (List.mem_of_getElem? hv)
        have hpl := run_lt h _ v rfl v2
        refine ⟨_, rfl, ?_⟩
        (repeat (first | with_reducible refine we_c ?_ | ((with_reducible refine we_v (w := ?_) ?_ ?_); rotate_left; · rfl) | with_reducible refine we_b ?_ | with_reducible refine we_a ?_ | with_reducible refine wa_c ?_ | with_reducible refine wa_n ?_ | with_reducible refine we_mt ?_ | with_reducible refine we_call ?_ | with_reducible refine we_tup ?_ | with_reducible refine we_lstW ?_ | with_reducible refine we_u ?_ | with_reducible refine we_not ?_ | with_reducible refine we_if ?_ | with_reducible refine we_and ?_ | with_reducible refine we_or ?_ | with_reducible refine we_cut ?_ | with_reducible refine wo_n ?_ | with_reducible refine wo_s ?_ | with_reducible refine wb_b ?_ | with_reducible refine wb_v ?_ | with_reducible refine wb_o ?_ | with_reducible refine wb_and ?_ | with_reducible refine wb_or ?_ | with_reducible refine wb_not ?_ | with_reducible refine wb_yes ?_ | with_reducible refine we_ch ?_ | with_reducible refine wx_n ?_ | with_reducible refine wx_c ?_ | with_reducible refine ss_n ?_ | with_reducible refine ss_c ?_ | with_reducible refine ss_set ?_ | with_reducible refine ss_ex ?_ | with_reducible refine ss_ret ?_ | with_reducible refine ss_retN ?_ | with_reducible refine ss_bk ?_ | with_reducible refine ss_ct ?_ | with_reducible refine ss_if ?_ | with_reducible refine ss_asg ?_ | with_reducible refine ss_put ?_ | with_reducible refine ss_for ?_ | with_reducible refine wi_a ?_ | with_reducible refine wi_r1 ?_ | with_reducible refine wi_r2 ?_ | with_reducible refine wp_ai ?_ | with_reducible refine wp_si ?_ | ((with_reducible refine wp_ml ?_ ?_); · decide) | ((with_reducible refine wp_mr ?_ ?_); · decide) | ((with_reducible refine wp_md ?_ ?_); · decide) | with_reducible refine wp_ng ?_ | with_reducible refine wp_eqi ?_ | with_reducible refine wp_eqs ?_ | with_reducible refine wp_eqb ?_ | with_reducible refine wp_nei ?_ | with_reducible refine wp_nes ?_ | with_reducible refine wp_neb ?_ | with_reducible refine wp_lt ?_ | with_reducible refine wp_le ?_ | with_reducible refine wp_gt ?_ | with_reducible refine wp_ge ?_ | with_reducible refine wp_isn ?_ | with_reducible refine wp_isnn ?_ | with_reducible refine wp_isb ?_ | with_reducible refine wp_isnb ?_ | with_reducible refine wp_int ?_ | with_reducible refine wp_min ?_ | with_reducible refine wp_max ?_ | with_reducible refine wp_lent ?_ | ((with_reducible refine wp_ixt (w := ?_) ?_ ?_); rotate_left; · rfl) | with_reducible refine wp_cutT ?_ | with_reducible refine wp_tupZ ?_ | with_reducible refine If.n ?_ | ((with_reducible refine If_tr ?_ ?_); · rfl) | ((with_reducible refine If_fa ?_ ?_); · rfl) | with_reducible refine ex_bl ?_ | with_reducible refine ex_int ?_ | with_reducible refine ex_int2 ?_ | with_reducible refine inW_mk ?_ | ((with_reducible refine ex_some (y := ?_) ?_ ?_); rotate_left; · rfl) | ((with_reducible refine and_len ?_ ?_); · rfl) | ((with_reducible refine and_hty ?_ ?_); · rfl) | ((with_reducible refine and_le ?_ ?_); · exact Nat.le_of_ble_eq_true rfl) | ((with_reducible refine and_bd ?_ ?_); · first | decide | omega)))
        have hlen : iR1 (eA gLen (aC (eB gIx (eV 0) (eC (.int 1))) aN)) (([some (setV ls goals ends), some (.int 4), some (.ref (e.p L + k)), some (.int (0 + (i : Int))), x4, x5, some (.ref (e.p L + k2)), x7].set 4 (some (.str (txt ls v)))).set 5 (some (.int (Bfs.run (dl goals) v : Nat)))) (W e a L M) = some (⟨rngW 0 ls.length, fun _ => True⟩, W e a L M) := by
          refine iR1_nat (Wp.eq ?_) (by omega)
          (repeat (first | with_reducible refine we_c ?_ | ((with_reducible refine we_v (w := ?_) ?_ ?_); rotate_left; · rfl) | with_reducible refine we_b ?_ | with_reducible refine we_a ?_ | with_reducible refine wa_c ?_ | with_reducible refine wa_n ?_ | with_reducible refine we_mt ?_ | with_reducible refine we_call ?_ | with_reducible refine we_tup ?_ | with_reducible refine we_lstW ?_ | with_reducible refine we_u ?_ | with_reducible refine we_not ?_ | with_reducible refine we_if ?_ | with_reducible refine we_and ?_ | with_reducible refine we_or ?_ | with_reducible refine we_cut ?_ | with_reducible refine wo_n ?_ | with_reducible refine wo_s ?_ | with_reducible refine wb_b ?_ | with_reducible refine wb_v ?_ | with_reducible refine wb_o ?_ | with_reducible refine wb_and ?_ | with_reducible refine wb_or ?_ | with_reducible refine wb_not ?_ | with_reducible refine wb_yes ?_ | with_reducible refine we_ch ?_ | with_reducible refine wx_n ?_ | with_reducible refine wx_c ?_ | with_reducible refine ss_n ?_ | with_reducible refine ss_c ?_ | with_reducible refine ss_set ?_ | with_reducible refine ss_ex ?_ | with_reducible refine ss_ret ?_ | with_reducible refine ss_retN ?_ | with_reducible refine ss_bk ?_ | with_reducible refine ss_ct ?_ | with_reducible refine ss_if ?_ | with_reducible refine ss_asg ?_ | with_reducible refine ss_put ?_ | with_reducible refine ss_for ?_ | with_reducible refine wi_a ?_ | with_reducible refine wi_r1 ?_ | with_reducible refine wi_r2 ?_ | with_reducible refine wp_ai ?_ | with_reducible refine wp_si ?_ | ((with_reducible refine wp_ml ?_ ?_); · decide) | ((with_reducible refine wp_mr ?_ ?_); · decide) | ((with_reducible refine wp_md ?_ ?_); · decide) | with_reducible refine wp_ng ?_ | with_reducible refine wp_eqi ?_ | with_reducible refine wp_eqs ?_ | with_reducible refine wp_eqb ?_ | with_reducible refine wp_nei ?_ | with_reducible refine wp_nes ?_ | with_reducible refine wp_neb ?_ | with_reducible refine wp_lt ?_ | with_reducible refine wp_le ?_ | with_reducible refine wp_gt ?_ | with_reducible refine wp_ge ?_ | with_reducible refine wp_isn ?_ | with_reducible refine wp_isnn ?_ | with_reducible refine wp_isb ?_ | with_reducible refine wp_isnb ?_ | with_reducible refine wp_int ?_ | with_reducible refine wp_min ?_ | with_reducible refine wp_max ?_ | with_reducible refine wp_lent ?_ | ((with_reducible refine wp_ixt (w := ?_) ?_ ?_); rotate_left; · rfl) | with_reducible refine wp_cutT ?_ | with_reducible refine wp_tupZ ?_ | with_reducible refine If.n ?_ | ((with_reducible refine If_tr ?_ ?_); · rfl) | ((with_reducible refine If_fa ?_ ?_); · rfl) | with_reducible refine ex_bl ?_ | with_reducible refine ex_int ?_ | with_reducible refine ex_int2 ?_ | with_reducible refine inW_mk ?_ | ((with_reducible refine ex_some (y := ?_) ?_ ?_); rotate_left; · rfl) | ((with_reducible refine and_len ?_ ?_); · rfl) | ((with_reducible refine and_hty ?_ ?_); · rfl) | ((with_reducible refine and_le ?_ ?_); · exact Nat.le_of_ble_eq_true rfl) | ((with_reducible refine and_bd ?_ ?_); · first | decide | omega)))
          refine wp_lens (by omega) ?_
          exact ⟨rfl, rfl⟩
        refine wp_lcP (ws := rngW 0 ls.length) (fun _ => true) (fT ls goals v) hlen (by rw [rng_len]; omega) (fun w hw => ?_) ?_
        · obtain ⟨kk, hkk⟩ := List.getElem?_of_mem hw
          obtain ⟨rfl, hkl⟩ := rng_get hkk
          have hc : ls[kk]? = some ls[kk] := List.getElem?_eq_getElem hkl
          obtain ⟨r, g1, g2, g3⟩ := goal_at h hpl hkl
          refine ⟨_, rfl, fun M' _ => ?_⟩
          refine wb_yes ⟨rfl, rfl, fun _ => ?_⟩
          (repeat (first | with_reducible refine we_c ?_ | ((with_reducible refine we_v (w := ?_) ?_ ?_); rotate_left; · rfl) | with_reducible refine we_b ?_ | with_reducible refine we_a ?_ | with_reducible refine wa_c ?_ | with_reducible refine wa_n ?_ | with_reducible refine we_mt ?_ | with_reducible refine we_call ?_ | with_reducible refine we_tup ?_ | with_reducible refine we_lstW ?_ | with_reducible refine we_u ?_ | with_reducible refine we_not ?_ | with_reducible refine we_if ?_ | with_reducible refine we_and ?_ | with_reducible refine we_or ?_ | with_reducible refine we_cut ?_ | with_reducible refine wo_n ?_ | with_reducible refine wo_s ?_ | with_reducible refine wb_b ?_ | with_reducible refine wb_v ?_ | with_reducible refine wb_o ?_ | with_reducible refine wb_and ?_ | with_reducible refine wb_or ?_ | with_reducible refine wb_not ?_ | with_reducible refine wb_yes ?_ | with_reducible refine we_ch ?_ | with_reducible refine wx_n ?_ | with_reducible refine wx_c ?_ | with_reducible refine ss_n ?_ | with_reducible refine ss_c ?_ | with_reducible refine ss_set ?_ | with_reducible refine ss_ex ?_ | with_reducible refine ss_ret ?_ | with_reducible refine ss_retN ?_ | with_reducible refine ss_bk ?_ | with_reducible refine ss_ct ?_ | with_reducible refine ss_if ?_ | with_reducible refine ss_asg ?_ | with_reducible refine ss_put ?_ | with_reducible refine ss_for ?_ | with_reducible refine wi_a ?_ | with_reducible refine wi_r1 ?_ | with_reducible refine wi_r2 ?_ | with_reducible refine wp_ai ?_ | with_reducible refine wp_si ?_ | ((with_reducible refine wp_ml ?_ ?_); · decide) | ((with_reducible refine wp_mr ?_ ?_); · decide) | ((with_reducible refine wp_md ?_ ?_); · decide) | with_reducible refine wp_ng ?_ | with_reducible refine wp_eqi ?_ | with_reducible refine wp_eqs ?_ | with_reducible refine wp_eqb ?_ | with_reducible refine wp_nei ?_ | with_reducible refine wp_nes ?_ | with_reducible refine wp_neb ?_ | with_reducible refine wp_lt ?_ | with_reducible refine wp_le ?_ | with_reducible refine wp_gt ?_ | with_reducible refine wp_ge ?_ | with_reducible refine wp_isn ?_ | with_reducible refine wp_isnn ?_ | with_reducible refine wp_isb ?_ | with_reducible refine wp_isnb ?_ | with_reducible refine wp_int ?_ | with_reducible refine wp_min ?_ | with_reducible refine wp_max ?_ | with_reducible refine wp_lent ?_ | ((with_reducible refine wp_ixt (w := ?_) ?_ ?_); rotate_left; · rfl) | with_reducible refine wp_cutT ?_ | with_reducible refine wp_tupZ ?_ | with_reducible refine If.n ?_ | ((with_reducible refine If_tr ?_ ?_); · rfl) | ((with_reducible refine If_fa ?_ ?_); · rfl) | with_reducible refine ex_bl ?_ | with_reducible refine ex_int ?_ | with_reducible refine ex_int2 ?_ | with_reducible refine inW_mk ?_ | ((with_reducible refine ex_some (y := ?_) ?_ ?_); rotate_left; · rfl) | ((with_reducible refine and_len ?_ ?_); · rfl) | ((with_reducible refine and_hty ?_ ?_); · rfl) | ((with_reducible refine and_le ?_ ?_); · exact Nat.le_of_ble_eq_true rfl) | ((with_reducible refine and_bd ?_ ?_); · first | decide | omega)))
          refine wp_ixs (by omega) (c := ls[kk]) (by rw [Int.zero_add, atI_n]; exact hc) ?_
          refine wp_as (by simp [txt]; omega) ?_
          (repeat (first | with_reducible refine we_c ?_ | ((with_reducible refine we_v (w := ?_) ?_ ?_); rotate_left; · rfl) | with_reducible refine we_b ?_ | with_reducible refine we_a ?_ | with_reducible refine wa_c ?_ | with_reducible refine wa_n ?_ | with_reducible refine we_mt ?_ | with_reducible refine we_call ?_ | with_reducible refine we_tup ?_ | with_reducible refine we_lstW ?_ | with_reducible refine we_u ?_ | with_reducible refine we_not ?_ | with_reducible refine we_if ?_ | with_reducible refine we_and ?_ | with_reducible refine we_or ?_ | with_reducible refine we_cut ?_ | with_reducible refine wo_n ?_ | with_reducible refine wo_s ?_ | with_reducible refine wb_b ?_ | with_reducible refine wb_v ?_ | with_reducible refine wb_o ?_ | with_reducible refine wb_and ?_ | with_reducible refine wb_or ?_ | with_reducible refine wb_not ?_ | with_reducible refine wb_yes ?_ | with_reducible refine we_ch ?_ | with_reducible refine wx_n ?_ | with_reducible refine wx_c ?_ | with_reducible refine ss_n ?_ | with_reducible refine ss_c ?_ | with_reducible refine ss_set ?_ | with_reducible refine ss_ex ?_ | with_reducible refine ss_ret ?_ | with_reducible refine ss_retN ?_ | with_reducible refine ss_bk ?_ | with_reducible refine ss_ct ?_ | with_reducible refine ss_if ?_ | with_reducible refine ss_asg ?_ | with_reducible refine ss_put ?_ | with_reducible refine ss_for ?_ | with_reducible refine wi_a ?_ | with_reducible refine wi_r1 ?_ | with_reducible refine wi_r2 ?_ | with_reducible refine wp_ai ?_ | with_reducible refine wp_si ?_ | ((with_reducible refine wp_ml ?_ ?_); · decide) | ((with_reducible refine wp_mr ?_ ?_); · decide) | ((with_reducible refine wp_md ?_ ?_); · decide) | with_reducible refine wp_ng ?_ | with_reducible refine wp_eqi ?_ | with_reducible refine wp_eqs ?_ | with_reducible refine wp_eqb ?_ | with_reducible refine wp_nei ?_ | with_reducible refine wp_nes ?_ | with_reducible refine wp_neb ?_ | with_reducible refine wp_lt ?_ | with_reducible refine wp_le ?_ | with_reducible refine wp_gt ?_ | with_reducible refine wp_ge ?_ | with_reducible refine wp_isn ?_ | with_reducible refine wp_isnn ?_ | with_reducible refine wp_isb ?_ | with_reducible refine wp_isnb ?_ | with_reducible refine wp_int ?_ | with_reducible refine wp_min ?_ | with_reducible refine wp_max ?_ | with_reducible refine wp_lent ?_ | ((with_reducible refine wp_ixt (w := ?_) ?_ ?_); rotate_left; · rfl) | with_reducible refine wp_cutT ?_ | with_reducible refine wp_tupZ ?_ | with_reducible refine If.n ?_ | ((with_reducible refine If_tr ?_ ?_); · rfl) | ((with_reducible refine If_fa ?_ ?_); · rfl) | with_reducible refine ex_bl ?_ | with_reducible refine ex_int ?_ | with_reducible refine ex_int2 ?_ | with_reducible refine inW_mk ?_ | ((with_reducible refine ex_some (y := ?_) ?_ ?_); rotate_left; · rfl) | ((with_reducible refine and_len ?_ ?_); · rfl) | ((with_reducible refine and_hty ?_ ?_); · rfl) | ((with_reducible refine and_le ?_ ?_); · exact Nat.le_of_ble_eq_true rfl) | ((with_reducible refine and_bd ?_ ?_); · first | decide | omega)))
          refine wp_ixt (w := rowV r) (by rw [atI_map, atI_n, g1]; rfl) ?_
          (repeat (first | with_reducible refine we_c ?_ | ((with_reducible refine we_v (w := ?_) ?_ ?_); rotate_left; · rfl) | with_reducible refine we_b ?_ | with_reducible refine we_a ?_ | with_reducible refine wa_c ?_ | with_reducible refine wa_n ?_ | with_reducible refine we_mt ?_ | with_reducible refine we_call ?_ | with_reducible refine we_tup ?_ | with_reducible refine we_lstW ?_ | with_reducible refine we_u ?_ | with_reducible refine we_not ?_ | with_reducible refine we_if ?_ | with_reducible refine we_and ?_ | with_reducible refine we_or ?_ | with_reducible refine we_cut ?_ | with_reducible refine wo_n ?_ | with_reducible refine wo_s ?_ | with_reducible refine wb_b ?_ | with_reducible refine wb_v ?_ | with_reducible refine wb_o ?_ | with_reducible refine wb_and ?_ | with_reducible refine wb_or ?_ | with_reducible refine wb_not ?_ | with_reducible refine wb_yes ?_ | with_reducible refine we_ch ?_ | with_reducible refine wx_n ?_ | with_reducible refine wx_c ?_ | with_reducible refine ss_n ?_ | with_reducible refine ss_c ?_ | with_reducible refine ss_set ?_ | with_reducible refine ss_ex ?_ | with_reducible refine ss_ret ?_ | with_reducible refine ss_retN ?_ | with_reducible refine ss_bk ?_ | with_reducible refine ss_ct ?_ | with_reducible refine ss_if ?_ | with_reducible refine ss_asg ?_ | with_reducible refine ss_put ?_ | with_reducible refine ss_for ?_ | with_reducible refine wi_a ?_ | with_reducible refine wi_r1 ?_ | with_reducible refine wi_r2 ?_ | with_reducible refine wp_ai ?_ | with_reducible refine wp_si ?_ | ((with_reducible refine wp_ml ?_ ?_); · decide) | ((with_reducible refine wp_mr ?_ ?_); · decide) | ((with_reducible refine wp_md ?_ ?_); · decide) | with_reducible refine wp_ng ?_ | with_reducible refine wp_eqi ?_ | with_reducible refine wp_eqs ?_ | with_reducible refine wp_eqb ?_ | with_reducible refine wp_nei ?_ | with_reducible refine wp_nes ?_ | with_reducible refine wp_neb ?_ | with_reducible refine wp_lt ?_ | with_reducible refine wp_le ?_ | with_reducible refine wp_gt ?_ | with_reducible refine wp_ge ?_ | with_reducible refine wp_isn ?_ | with_reducible refine wp_isnn ?_ | with_reducible refine wp_isb ?_ | with_reducible refine wp_isnb ?_ | with_reducible refine wp_int ?_ | with_reducible refine wp_min ?_ | with_reducible refine wp_max ?_ | with_reducible refine wp_lent ?_ | ((with_reducible refine wp_ixt (w := ?_) ?_ ?_); rotate_left; · rfl) | with_reducible refine wp_cutT ?_ | with_reducible refine wp_tupZ ?_ | with_reducible refine If.n ?_ | ((with_reducible refine If_tr ?_ ?_); · rfl) | ((with_reducible refine If_fa ?_ ?_); · rfl) | with_reducible refine ex_bl ?_ | with_reducible refine ex_int ?_ | with_reducible refine ex_int2 ?_ | with_reducible refine inW_mk ?_ | ((with_reducible refine ex_some (y := ?_) ?_ ?_); rotate_left; · rfl) | ((with_reducible refine and_len ?_ ?_); · rfl) | ((with_reducible refine and_hty ?_ ?_); · rfl) | ((with_reducible refine and_le ?_ ?_); · exact Nat.le_of_ble_eq_true rfl) | ((with_reducible refine and_bd ?_ ?_); · first | decide | omega)))
          refine wp_ixt (w := .int (dl goals (Bfs.run (dl goals) v) kk : Nat)) (by rw [Int.zero_add, atI_map, atI_n, g2]; rfl) ?_
          (repeat (first | with_reducible refine we_c ?_ | ((with_reducible refine we_v (w := ?_) ?_ ?_); rotate_left; · rfl) | with_reducible refine we_b ?_ | with_reducible refine we_a ?_ | with_reducible refine wa_c ?_ | with_reducible refine wa_n ?_ | with_reducible refine we_mt ?_ | with_reducible refine we_call ?_ | with_reducible refine we_tup ?_ | with_reducible refine we_lstW ?_ | with_reducible refine we_u ?_ | with_reducible refine we_not ?_ | with_reducible refine we_if ?_ | with_reducible refine we_and ?_ | with_reducible refine we_or ?_ | with_reducible refine we_cut ?_ | with_reducible refine wo_n ?_ | with_reducible refine wo_s ?_ | with_reducible refine wb_b ?_ | with_reducible refine wb_v ?_ | with_reducible refine wb_o ?_ | with_reducible refine wb_and ?_ | with_reducible refine wb_or ?_ | with_reducible refine wb_not ?_ | with_reducible refine wb_yes ?_ | with_reducible refine we_ch ?_ | with_reducible refine wx_n ?_ | with_reducible refine wx_c ?_ | with_reducible refine ss_n ?_ | with_reducible refine ss_c ?_ | with_reducible refine ss_set ?_ | with_reducible refine ss_ex ?_ | with_reducible refine ss_ret ?_ | with_reducible refine ss_retN ?_ | with_reducible refine ss_bk ?_ | with_reducible refine ss_ct ?_ | with_reducible refine ss_if ?_ | with_reducible refine ss_asg ?_ | with_reducible refine ss_put ?_ | with_reducible refine ss_for ?_ | with_reducible refine wi_a ?_ | with_reducible refine wi_r1 ?_ | with_reducible refine wi_r2 ?_ | with_reducible refine wp_ai ?_ | with_reducible refine wp_si ?_ | ((with_reducible refine wp_ml ?_ ?_); · decide) | ((with_reducible refine wp_mr ?_ ?_); · decide) | ((with_reducible refine wp_md ?_ ?_); · decide) | with_reducible refine wp_ng ?_ | with_reducible refine wp_eqi ?_ | with_reducible refine wp_eqs ?_ | with_reducible refine wp_eqb ?_ | with_reducible refine wp_nei ?_ | with_reducible refine wp_nes ?_ | with_reducible refine wp_neb ?_ | with_reducible refine wp_lt ?_ | with_reducible refine wp_le ?_ | with_reducible refine wp_gt ?_ | with_reducible refine wp_ge ?_ | with_reducible refine wp_isn ?_ | with_reducible refine wp_isnn ?_ | with_reducible refine wp_isb ?_ | with_reducible refine wp_isnb ?_ | with_reducible refine wp_int ?_ | with_reducible refine wp_min ?_ | with_reducible refine wp_max ?_ | with_reducible refine wp_lent ?_ | ((with_reducible refine wp_ixt (w := ?_) ?_ ?_); rotate_left; · rfl) | with_reducible refine wp_cutT ?_ | with_reducible refine wp_tupZ ?_ | with_reducible refine If.n ?_ | ((with_reducible refine If_tr ?_ ?_); · rfl) | ((with_reducible refine If_fa ?_ ?_); · rfl) | with_reducible refine ex_bl ?_ | with_reducible refine ex_int ?_ | with_reducible refine ex_int2 ?_ | with_reducible refine inW_mk ?_ | ((with_reducible refine ex_some (y := ?_) ?_ ?_); rotate_left; · rfl) | ((with_reducible refine and_len ?_ ?_); · rfl) | ((with_reducible refine and_hty ?_ ?_); · rfl) | ((with_reducible refine and_le ?_ ?_); · exact Nat.le_of_ble_eq_true rfl) | ((with_reducible refine and_bd ?_ ?_); · first | decide | omega)))
          refine ⟨rfl, ?_⟩
          simp only [fT]
          rw [show ((0 : Int) + (kk : Int)).toNat = kk by omega, txt_snoc hc]
        rw [comp_eq]
        have hb1 : (((Bfs.lvl ls.length i).take j).flatMap (ext ls.length)).length ≤ 243 * 3 := by
          rw [ext_len]
          exact Nat.mul_le_mul (by rw [List.length_take]; omega) hl.2
        have hb2 : (ext ls.length v).length ≤ 3 := by simp [ext]; omega
        (repeat (first | with_reducible refine we_c ?_ | ((with_reducible refine we_v (w := ?_) ?_ ?_); rotate_left; · rfl) | with_reducible refine we_b ?_ | with_reducible refine we_a ?_ | with_reducible refine wa_c ?_ | with_reducible refine wa_n ?_ | with_reducible refine we_mt ?_ | with_reducible refine we_call ?_ | with_reducible refine we_tup ?_ | with_reducible refine we_lstW ?_ | with_reducible refine we_u ?_ | with_reducible refine we_not ?_ | with_reducible refine we_if ?_ | with_reducible refine we_and ?_ | with_reducible refine we_or ?_ | with_reducible refine we_cut ?_ | with_reducible refine wo_n ?_ | with_reducible refine wo_s ?_ | with_reducible refine wb_b ?_ | with_reducible refine wb_v ?_ | with_reducible refine wb_o ?_ | with_reducible refine wb_and ?_ | with_reducible refine wb_or ?_ | with_reducible refine wb_not ?_ | with_reducible refine wb_yes ?_ | with_reducible refine we_ch ?_ | with_reducible refine wx_n ?_ | with_reducible refine wx_c ?_ | with_reducible refine ss_n ?_ | with_reducible refine ss_c ?_ | with_reducible refine ss_set ?_ | with_reducible refine ss_ex ?_ | with_reducible refine ss_ret ?_ | with_reducible refine ss_retN ?_ | with_reducible refine ss_bk ?_ | with_reducible refine ss_ct ?_ | with_reducible refine ss_if ?_ | with_reducible refine ss_asg ?_ | with_reducible refine ss_put ?_ | with_reducible refine ss_for ?_ | with_reducible refine wi_a ?_ | with_reducible refine wi_r1 ?_ | with_reducible refine wi_r2 ?_ | with_reducible refine wp_ai ?_ | with_reducible refine wp_si ?_ | ((with_reducible refine wp_ml ?_ ?_); · decide) | ((with_reducible refine wp_mr ?_ ?_); · decide) | ((with_reducible refine wp_md ?_ ?_); · decide) | with_reducible refine wp_ng ?_ | with_reducible refine wp_eqi ?_ | with_reducible refine wp_eqs ?_ | with_reducible refine wp_eqb ?_ | with_reducible refine wp_nei ?_ | with_reducible refine wp_nes ?_ | with_reducible refine wp_neb ?_ | with_reducible refine wp_lt ?_ | with_reducible refine wp_le ?_ | with_reducible refine wp_gt ?_ | with_reducible refine wp_ge ?_ | with_reducible refine wp_isn ?_ | with_reducible refine wp_isnn ?_ | with_reducible refine wp_isb ?_ | with_reducible refine wp_isnb ?_ | with_reducible refine wp_int ?_ | with_reducible refine wp_min ?_ | with_reducible refine wp_max ?_ | with_reducible refine wp_lent ?_ | ((with_reducible refine wp_ixt (w := ?_) ?_ ?_); rotate_left; · rfl) | with_reducible refine wp_cutT ?_ | with_reducible refine wp_tupZ ?_ | with_reducible refine If.n ?_ | ((with_reducible refine If_tr ?_ ?_); · rfl) | ((with_reducible refine If_fa ?_ ?_); · rfl) | with_reducible refine ex_bl ?_ | with_reducible refine ex_int ?_ | with_reducible refine ex_int2 ?_ | with_reducible refine inW_mk ?_ | ((with_reducible refine ex_some (y := ?_) ?_ ?_); rotate_left; · rfl) | ((with_reducible refine and_len ?_ ?_); · rfl) | ((with_reducible refine and_hty ?_ ?_); · rfl) | ((with_reducible refine and_le ?_ ?_); · exact Nat.le_of_ble_eq_true rfl) | ((with_reducible refine and_bd ?_ ?_); · first | decide | omega)))
        refine wp_addL (at_push hk2) at_last (by rw [hrw, hrw]; omega) ?_
        (repeat (first | with_reducible refine we_c ?_ | ((with_reducible refine we_v (w := ?_) ?_ ?_); rotate_left; · rfl) | with_reducible refine we_b ?_ | with_reducible refine we_a ?_ | with_reducible refine wa_c ?_ | with_reducible refine wa_n ?_ | with_reducible refine we_mt ?_ | with_reducible refine we_call ?_ | with_reducible refine we_tup ?_ | with_reducible refine we_lstW ?_ | with_reducible refine we_u ?_ | with_reducible refine we_not ?_ | with_reducible refine we_if ?_ | with_reducible refine we_and ?_ | with_reducible refine we_or ?_ | with_reducible refine we_cut ?_ | with_reducible refine wo_n ?_ | with_reducible refine wo_s ?_ | with_reducible refine wb_b ?_ | with_reducible refine wb_v ?_ | with_reducible refine wb_o ?_ | with_reducible refine wb_and ?_ | with_reducible refine wb_or ?_ | with_reducible refine wb_not ?_ | with_reducible refine wb_yes ?_ | with_reducible refine we_ch ?_ | with_reducible refine wx_n ?_ | with_reducible refine wx_c ?_ | with_reducible refine ss_n ?_ | with_reducible refine ss_c ?_ | with_reducible refine ss_set ?_ | with_reducible refine ss_ex ?_ | with_reducible refine ss_ret ?_ | with_reducible refine ss_retN ?_ | with_reducible refine ss_bk ?_ | with_reducible refine ss_ct ?_ | with_reducible refine ss_if ?_ | with_reducible refine ss_asg ?_ | with_reducible refine ss_put ?_ | with_reducible refine ss_for ?_ | with_reducible refine wi_a ?_ | with_reducible refine wi_r1 ?_ | with_reducible refine wi_r2 ?_ | with_reducible refine wp_ai ?_ | with_reducible refine wp_si ?_ | ((with_reducible refine wp_ml ?_ ?_); · decide) | ((with_reducible refine wp_mr ?_ ?_); · decide) | ((with_reducible refine wp_md ?_ ?_); · decide) | with_reducible refine wp_ng ?_ | with_reducible refine wp_eqi ?_ | with_reducible refine wp_eqs ?_ | with_reducible refine wp_eqb ?_ | with_reducible refine wp_nei ?_ | with_reducible refine wp_nes ?_ | with_reducible refine wp_neb ?_ | with_reducible refine wp_lt ?_ | with_reducible refine wp_le ?_ | with_reducible refine wp_gt ?_ | with_reducible refine wp_ge ?_ | with_reducible refine wp_isn ?_ | with_reducible refine wp_isnn ?_ | with_reducible refine wp_isb ?_ | with_reducible refine wp_isnb ?_ | with_reducible refine wp_int ?_ | with_reducible refine wp_min ?_ | with_reducible refine wp_max ?_ | with_reducible refine wp_lent ?_ | ((with_reducible refine wp_ixt (w := ?_) ?_ ?_); rotate_left; · rfl) | with_reducible refine wp_cutT ?_ | with_reducible refine wp_tupZ ?_ | with_reducible refine If.n ?_ | ((with_reducible refine If_tr ?_ ?_); · rfl) | ((with_reducible refine If_fa ?_ ?_); · rfl) | with_reducible refine ex_bl ?_ | with_reducible refine ex_int ?_ | with_reducible refine ex_int2 ?_ | with_reducible refine inW_mk ?_ | ((with_reducible refine ex_some (y := ?_) ?_ ?_); rotate_left; · rfl) | ((with_reducible refine and_len ?_ ?_); · rfl) | ((with_reducible refine and_hty ?_ ?_); · rfl) | ((with_reducible refine and_le ?_ ?_); · exact Nat.le_of_ble_eq_true rfl) | ((with_reducible refine and_bd ?_ ?_); · first | decide | omega)))
        have ht : (Bfs.lvl ls.length i).take (j + 1) = (Bfs.lvl ls.length i).take j ++ [v] := by rw [List.take_succ, hv]; rfl
        refine hd ⟨_, _, _, _, _, rfl, rfl, at_push (at_push hk), ?_⟩
        rw [at_last, ht, List.flatMap_append]
        simp [rowW, prs]
      · rintro fm st ⟨k2, M, x4, x5, x7, rfl, rfl, hk, hk2⟩
        dsimp only at hk2
        rw [hrw, List.take_length] at hk2
        (repeat (first | with_reducible refine we_c ?_ | ((with_reducible refine we_v (w := ?_) ?_ ?_); rotate_left; · rfl) | with_reducible refine we_b ?_ | with_reducible refine we_a ?_ | with_reducible refine wa_c ?_ | with_reducible refine wa_n ?_ | with_reducible refine we_mt ?_ | with_reducible refine we_call ?_ | with_reducible refine we_tup ?_ | with_reducible refine we_lstW ?_ | with_reducible refine we_u ?_ | with_reducible refine we_not ?_ | with_reducible refine we_if ?_ | with_reducible refine we_and ?_ | with_reducible refine we_or ?_ | with_reducible refine we_cut ?_ | with_reducible refine wo_n ?_ | with_reducible refine wo_s ?_ | with_reducible refine wb_b ?_ | with_reducible refine wb_v ?_ | with_reducible refine wb_o ?_ | with_reducible refine wb_and ?_ | with_reducible refine wb_or ?_ | with_reducible refine wb_not ?_ | with_reducible refine wb_yes ?_ | with_reducible refine we_ch ?_ | with_reducible refine wx_n ?_ | with_reducible refine wx_c ?_ | with_reducible refine ss_n ?_ | with_reducible refine ss_c ?_ | with_reducible refine ss_set ?_ | with_reducible refine ss_ex ?_ | with_reducible refine ss_ret ?_ | with_reducible refine ss_retN ?_ | with_reducible refine ss_bk ?_ | with_reducible refine ss_ct ?_ | with_reducible refine ss_if ?_ | with_reducible refine ss_asg ?_ | with_reducible refine ss_put ?_ | with_reducible refine ss_for ?_ | with_reducible refine wi_a ?_ | with_reducible refine wi_r1 ?_ | with_reducible refine wi_r2 ?_ | with_reducible refine wp_ai ?_ | with_reducible refine wp_si ?_ | ((with_reducible refine wp_ml ?_ ?_); · decide) | ((with_reducible refine wp_mr ?_ ?_); · decide) | ((with_reducible refine wp_md ?_ ?_); · decide) | with_reducible refine wp_ng ?_ | with_reducible refine wp_eqi ?_ | with_reducible refine wp_eqs ?_ | with_reducible refine wp_eqb ?_ | with_reducible refine wp_nei ?_ | with_reducible refine wp_nes ?_ | with_reducible refine wp_neb ?_ | with_reducible refine wp_lt ?_ | with_reducible refine wp_le ?_ | with_reducible refine wp_gt ?_ | with_reducible refine wp_ge ?_ | with_reducible refine wp_isn ?_ | with_reducible refine wp_isnn ?_ | with_reducible refine wp_isb ?_ | with_reducible refine wp_isnb ?_ | with_reducible refine wp_int ?_ | with_reducible refine wp_min ?_ | with_reducible refine wp_max ?_ | with_reducible refine wp_lent ?_ | ((with_reducible refine wp_ixt (w := ?_) ?_ ?_); rotate_left; · rfl) | with_reducible refine wp_cutT ?_ | with_reducible refine wp_tupZ ?_ | with_reducible refine If.n ?_ | ((with_reducible refine If_tr ?_ ?_); · rfl) | ((with_reducible refine If_fa ?_ ?_); · rfl) | with_reducible refine ex_bl ?_ | with_reducible refine ex_int ?_ | with_reducible refine ex_int2 ?_ | with_reducible refine inW_mk ?_ | ((with_reducible refine ex_some (y := ?_) ?_ ?_); rotate_left; · rfl) | ((with_reducible refine and_len ?_ ?_); · rfl) | ((with_reducible refine and_hty ?_ ?_); · rfl) | ((with_reducible refine and_le ?_ ?_); · exact Nat.le_of_ble_eq_true rfl) | ((with_reducible refine and_bd ?_ ?_); · first | decide | omega)))
        exact hd ⟨k2, M, _, _, _, _, _, rfl, rfl, hk2, hno'⟩
  · rintro fm st ⟨k, M, x3, x4, x5, x6, x7, rfl, rfl, hk, hno⟩
    dsimp only at hno
    rw [rng_len] at hno
    (repeat (first | with_reducible refine we_c ?_ | ((with_reducible refine we_v (w := ?_) ?_ ?_); rotate_left; · rfl) | with_reducible refine we_b ?_ | with_reducible refine we_a ?_ | with_reducible refine wa_c ?_ | with_reducible refine wa_n ?_ | with_reducible refine we_mt ?_ | with_reducible refine we_call ?_ | with_reducible refine we_tup ?_ | with_reducible refine we_lstW ?_ | with_reducible refine we_u ?_ | with_reducible refine we_not ?_ | with_reducible refine we_if ?_ | with_reducible refine we_and ?_ | with_reducible refine we_or ?_ | with_reducible refine we_cut ?_ | with_reducible refine wo_n ?_ | with_reducible refine wo_s ?_ | with_reducible refine wb_b ?_ | with_reducible refine wb_v ?_ | with_reducible refine wb_o ?_ | with_reducible refine wb_and ?_ | with_reducible refine wb_or ?_ | with_reducible refine wb_not ?_ | with_reducible refine wb_yes ?_ | with_reducible refine we_ch ?_ | with_reducible refine wx_n ?_ | with_reducible refine wx_c ?_ | with_reducible refine ss_n ?_ | with_reducible refine ss_c ?_ | with_reducible refine ss_set ?_ | with_reducible refine ss_ex ?_ | with_reducible refine ss_ret ?_ | with_reducible refine ss_retN ?_ | with_reducible refine ss_bk ?_ | with_reducible refine ss_ct ?_ | with_reducible refine ss_if ?_ | with_reducible refine ss_asg ?_ | with_reducible refine ss_put ?_ | with_reducible refine ss_for ?_ | with_reducible refine wi_a ?_ | with_reducible refine wi_r1 ?_ | with_reducible refine wi_r2 ?_ | with_reducible refine wp_ai ?_ | with_reducible refine wp_si ?_ | ((with_reducible refine wp_ml ?_ ?_); · decide) | ((with_reducible refine wp_mr ?_ ?_); · decide) | ((with_reducible refine wp_md ?_ ?_); · decide) | with_reducible refine wp_ng ?_ | with_reducible refine wp_eqi ?_ | with_reducible refine wp_eqs ?_ | with_reducible refine wp_eqb ?_ | with_reducible refine wp_nei ?_ | with_reducible refine wp_nes ?_ | with_reducible refine wp_neb ?_ | with_reducible refine wp_lt ?_ | with_reducible refine wp_le ?_ | with_reducible refine wp_gt ?_ | with_reducible refine wp_ge ?_ | with_reducible refine wp_isn ?_ | with_reducible refine wp_isnn ?_ | with_reducible refine wp_isb ?_ | with_reducible refine wp_isnb ?_ | with_reducible refine wp_int ?_ | with_reducible refine wp_min ?_ | with_reducible refine wp_max ?_ | with_reducible refine wp_lent ?_ | ((with_reducible refine wp_ixt (w := ?_) ?_ ?_); rotate_left; · rfl) | with_reducible refine wp_cutT ?_ | with_reducible refine wp_tupZ ?_ | with_reducible refine If.n ?_ | ((with_reducible refine If_tr ?_ ?_); · rfl) | ((with_reducible refine If_fa ?_ ?_); · rfl) | with_reducible refine ex_bl ?_ | with_reducible refine ex_int ?_ | with_reducible refine ex_int2 ?_ | with_reducible refine inW_mk ?_ | ((with_reducible refine ex_some (y := ?_) ?_ ?_); rotate_left; · rfl) | ((with_reducible refine and_len ?_ ?_); · rfl) | ((with_reducible refine and_hty ?_ ?_); · rfl) | ((with_reducible refine and_le ?_ ?_); · exact Nat.le_of_ble_eq_true rfl) | ((with_reducible refine and_bd ?_ ?_); · first | decide | omega)))
    rw [W_fin_n]
    exact hd ⟨rfl, .inr ⟨rfl, hno⟩⟩
end L_k05
set_option maxHeartbeats 4000000
namespace L_k05
open PySem PySem.Spec PyProof.Rows L2 T3
theorem at1_own {ls : List Nat} (hp : ls.Pairwise (· < ·)) {k : Nat} (hk : k < ls.length) : at1 ls ls[k] = some k := by
  unfold at1
  rw [List.findIdx?_eq_some_iff_getElem]
  refine ⟨hk, by simp, fun j hj => ?_⟩
  have := List.pairwise_iff_getElem.mp hp j k (by omega) hk hj
  simp; omega
theorem runM_txt {ls : List Nat} {goals : List (List Nat)} (hp : ls.Pairwise (· < ·)) : ∀ (t : List Nat) (q : Nat), Bfs.Wd ls.length t → runM ls goals q (txt ls t) = some (t.foldl (dl goals) q)
  | [], q, _ => rfl
  | k :: t, q, wt => by
    have hk : k < ls.length := wt k (by simp)
    have h1 : (ls[k]?).getD 0 = ls[k] := by rw [List.getElem?_eq_getElem hk]; rfl
    have ih := runM_txt (goals := goals) hp t (dl goals q k) fun x hx => wt x (List.mem_cons_of_mem _ hx)
    unfold txt at ih ⊢
    rw [List.map_cons, h1, runM, at1_own hp hk]
    exact ih
theorem in_txt {ls : List Nat} {goals : List (List Nat)} {ends : List Bool} (hp : ls.Pairwise (· < ·)) {t : List Nat} (wt : Bfs.Wd ls.length t) : inM ls goals ends (txt ls t) = acc ends (Bfs.run (dl goals) t) := by
  unfold inM
  rw [runM_txt hp t 0 wt]
  rfl
theorem law_true (ns : List Int) (h : ns.length ≤ 63) : ∃ s', m_law [.ref 0] [.rol (ns.map T3.Va.int)] = some (.bl true, s') := by
  refine law_of ?_
  unfold m_law
  rw [stream_is, letters_is, contains_is]
  refine wp_fn rfl ?_
  (repeat (first | with_reducible refine we_c ?_ | ((with_reducible refine we_v (w := ?_) ?_ ?_); rotate_left; · rfl) | with_reducible refine we_b ?_ | with_reducible refine we_a ?_ | with_reducible refine wa_c ?_ | with_reducible refine wa_n ?_ | with_reducible refine we_mt ?_ | with_reducible refine we_call ?_ | with_reducible refine we_tup ?_ | with_reducible refine we_lstW ?_ | with_reducible refine we_u ?_ | with_reducible refine we_not ?_ | with_reducible refine we_if ?_ | with_reducible refine we_and ?_ | with_reducible refine we_or ?_ | with_reducible refine we_cut ?_ | with_reducible refine wo_n ?_ | with_reducible refine wo_s ?_ | with_reducible refine wb_b ?_ | with_reducible refine wb_v ?_ | with_reducible refine wb_o ?_ | with_reducible refine wb_and ?_ | with_reducible refine wb_or ?_ | with_reducible refine wb_not ?_ | with_reducible refine wb_yes ?_ | with_reducible refine we_ch ?_ | with_reducible refine wx_n ?_ | with_reducible refine wx_c ?_ | with_reducible refine ss_n ?_ | with_reducible refine ss_c ?_ | with_reducible refine ss_set ?_ | with_reducible refine ss_ex ?_ | with_reducible refine ss_ret ?_ | with_reducible refine ss_retN ?_ | with_reducible refine ss_bk ?_ | with_reducible refine ss_ct ?_ | with_reducible refine ss_if ?_ | with_reducible refine ss_asg ?_ | with_reducible refine ss_put ?_ | with_reducible refine ss_for ?_ | with_reducible refine wi_a ?_ | with_reducible refine wi_r1 ?_ | with_reducible refine wi_r2 ?_ | with_reducible refine wp_ai ?_ | with_reducible refine wp_si ?_ | ((with_reducible refine wp_ml ?_ ?_); · decide) | ((with_reducible refine wp_mr ?_ ?_); · decide) | ((with_reducible refine wp_md ?_ ?_); · decide) | with_reducible refine wp_ng ?_ | with_reducible refine wp_eqi ?_ | with_reducible refine wp_eqs ?_ | with_reducible refine wp_eqb ?_ | with_reducible refine wp_nei ?_ | with_reducible refine wp_nes ?_ | with_reducible refine wp_neb ?_ | with_reducible refine wp_lt ?_ | with_reducible refine wp_le ?_ | with_reducible refine wp_gt ?_ | with_reducible refine wp_ge ?_ | with_reducible refine wp_isn ?_ | with_reducible refine wp_isnn ?_ | with_reducible refine wp_isb ?_ | with_reducible refine wp_isnb ?_ | with_reducible refine wp_int ?_ | with_reducible refine wp_min ?_ | with_reducible refine wp_max ?_ | with_reducible refine wp_lent ?_ | ((with_reducible refine wp_ixt (w := ?_) ?_ ?_); rotate_left; · rfl) | with_reducible refine wp_cutT ?_ | with_reducible refine wp_tupZ ?_ | with_reducible refine If.n ?_ | ((with_reducible refine If_tr ?_ ?_); · rfl) | ((with_reducible refine If_fa ?_ ?_); · rfl) | with_reducible refine ex_bl ?_ | with_reducible refine ex_int ?_ | with_reducible refine ex_int2 ?_ | with_reducible refine inW_mk ?_ | ((with_reducible refine ex_some (y := ?_) ?_ ?_); rotate_left; · rfl) | ((with_reducible refine and_len ?_ ?_); · rfl) | ((with_reducible refine and_hty ?_ ?_); · rfl) | ((with_reducible refine and_le ?_ ?_); · exact Nat.le_of_ble_eq_true rfl) | ((with_reducible refine and_bd ?_ ?_); · first | decide | omega)))
  refine stream_W (by decide) (s := 0) (ns := ns) (most := 200) rfl (by decide) fun e => ?_
  (repeat (first | with_reducible refine we_c ?_ | ((with_reducible refine we_v (w := ?_) ?_ ?_); rotate_left; · rfl) | with_reducible refine we_b ?_ | with_reducible refine we_a ?_ | with_reducible refine wa_c ?_ | with_reducible refine wa_n ?_ | with_reducible refine we_mt ?_ | with_reducible refine we_call ?_ | with_reducible refine we_tup ?_ | with_reducible refine we_lstW ?_ | with_reducible refine we_u ?_ | with_reducible refine we_not ?_ | with_reducible refine we_if ?_ | with_reducible refine we_and ?_ | with_reducible refine we_or ?_ | with_reducible refine we_cut ?_ | with_reducible refine wo_n ?_ | with_reducible refine wo_s ?_ | with_reducible refine wb_b ?_ | with_reducible refine wb_v ?_ | with_reducible refine wb_o ?_ | with_reducible refine wb_and ?_ | with_reducible refine wb_or ?_ | with_reducible refine wb_not ?_ | with_reducible refine wb_yes ?_ | with_reducible refine we_ch ?_ | with_reducible refine wx_n ?_ | with_reducible refine wx_c ?_ | with_reducible refine ss_n ?_ | with_reducible refine ss_c ?_ | with_reducible refine ss_set ?_ | with_reducible refine ss_ex ?_ | with_reducible refine ss_ret ?_ | with_reducible refine ss_retN ?_ | with_reducible refine ss_bk ?_ | with_reducible refine ss_ct ?_ | with_reducible refine ss_if ?_ | with_reducible refine ss_asg ?_ | with_reducible refine ss_put ?_ | with_reducible refine ss_for ?_ | with_reducible refine wi_a ?_ | with_reducible refine wi_r1 ?_ | with_reducible refine wi_r2 ?_ | with_reducible refine wp_ai ?_ | with_reducible refine wp_si ?_ | ((with_reducible refine wp_ml ?_ ?_); · decide) | ((with_reducible refine wp_mr ?_ ?_); · decide) | ((with_reducible refine wp_md ?_ ?_); · decide) | with_reducible refine wp_ng ?_ | with_reducible refine wp_eqi ?_ | with_reducible refine wp_eqs ?_ | with_reducible refine wp_eqb ?_ | with_reducible refine wp_nei ?_ | with_reducible refine wp_nes ?_ | with_reducible refine wp_neb ?_ | with_reducible refine wp_lt ?_ | with_reducible refine wp_le ?_ | with_reducible refine wp_gt ?_ | with_reducible refine wp_ge ?_ | with_reducible refine wp_isn ?_ | with_reducible refine wp_isnn ?_ | with_reducible refine wp_isb ?_ | with_reducible refine wp_isnb ?_ | with_reducible refine wp_int ?_ | with_reducible refine wp_min ?_ | with_reducible refine wp_max ?_ | with_reducible refine wp_lent ?_ | ((with_reducible refine wp_ixt (w := ?_) ?_ ?_); rotate_left; · rfl) | with_reducible refine wp_cutT ?_ | with_reducible refine wp_tupZ ?_ | with_reducible refine If.n ?_ | ((with_reducible refine If_tr ?_ ?_); · rfl) | ((with_reducible refine If_fa ?_ ?_); · rfl) | with_reducible refine ex_bl ?_ | with_reducible refine ex_int ?_ | with_reducible refine ex_int2 ?_ | with_reducible refine inW_mk ?_ | ((with_reducible refine ex_some (y := ?_) ?_ ?_); rotate_left; · rfl) | ((with_reducible refine and_len ?_ ?_); · rfl) | ((with_reducible refine and_hty ?_ ?_); · rfl) | ((with_reducible refine and_le ?_ ?_); · exact Nat.le_of_ble_eq_true rfl) | ((with_reducible refine and_bd ?_ ?_); · first | decide | omega)))
  refine wl_inv (fun i fm st => Hd (∃ b M x2 x3 x4 x5, fm = [some (.ref 0), some (.ref e.d), x2, x3, x4, x5] ∧ st = W e b [] M)) (fun _ _ _ _ => trivial) (hd ⟨_, _, _, _, _, _, rfl, rfl⟩) ?_ ?_
  · rintro i w hw fm st ⟨b, M, x2, x3, x4, x5, rfl, rfl⟩
    refine ⟨_, rfl, ?_⟩
    rw [W_in]
    (repeat (first | with_reducible refine we_c ?_ | ((with_reducible refine we_v (w := ?_) ?_ ?_); rotate_left; · rfl) | with_reducible refine we_b ?_ | with_reducible refine we_a ?_ | with_reducible refine wa_c ?_ | with_reducible refine wa_n ?_ | with_reducible refine we_mt ?_ | with_reducible refine we_call ?_ | with_reducible refine we_tup ?_ | with_reducible refine we_lstW ?_ | with_reducible refine we_u ?_ | with_reducible refine we_not ?_ | with_reducible refine we_if ?_ | with_reducible refine we_and ?_ | with_reducible refine we_or ?_ | with_reducible refine we_cut ?_ | with_reducible refine wo_n ?_ | with_reducible refine wo_s ?_ | with_reducible refine wb_b ?_ | with_reducible refine wb_v ?_ | with_reducible refine wb_o ?_ | with_reducible refine wb_and ?_ | with_reducible refine wb_or ?_ | with_reducible refine wb_not ?_ | with_reducible refine wb_yes ?_ | with_reducible refine we_ch ?_ | with_reducible refine wx_n ?_ | with_reducible refine wx_c ?_ | with_reducible refine ss_n ?_ | with_reducible refine ss_c ?_ | with_reducible refine ss_set ?_ | with_reducible refine ss_ex ?_ | with_reducible refine ss_ret ?_ | with_reducible refine ss_retN ?_ | with_reducible refine ss_bk ?_ | with_reducible refine ss_ct ?_ | with_reducible refine ss_if ?_ | with_reducible refine ss_asg ?_ | with_reducible refine ss_put ?_ | with_reducible refine ss_for ?_ | with_reducible refine wi_a ?_ | with_reducible refine wi_r1 ?_ | with_reducible refine wi_r2 ?_ | with_reducible refine wp_ai ?_ | with_reducible refine wp_si ?_ | ((with_reducible refine wp_ml ?_ ?_); · decide) | ((with_reducible refine wp_mr ?_ ?_); · decide) | ((with_reducible refine wp_md ?_ ?_); · decide) | with_reducible refine wp_ng ?_ | with_reducible refine wp_eqi ?_ | with_reducible refine wp_eqs ?_ | with_reducible refine wp_eqb ?_ | with_reducible refine wp_nei ?_ | with_reducible refine wp_nes ?_ | with_reducible refine wp_neb ?_ | with_reducible refine wp_lt ?_ | with_reducible refine wp_le ?_ | with_reducible refine wp_gt ?_ | with_reducible refine wp_ge ?_ | with_reducible refine wp_isn ?_ | with_reducible refine wp_isnn ?_ | with_reducible refine wp_isb ?_ | with_reducible refine wp_isnb ?_ | with_reducible refine wp_int ?_ | with_reducible refine wp_min ?_ | with_reducible refine wp_max ?_ | with_reducible refine wp_lent ?_ | ((with_reducible refine wp_ixt (w := ?_) ?_ ?_); rotate_left; · rfl) | with_reducible refine wp_cutT ?_ | with_reducible refine wp_tupZ ?_ | with_reducible refine If.n ?_ | ((with_reducible refine If_tr ?_ ?_); · rfl) | ((with_reducible refine If_fa ?_ ?_); · rfl) | with_reducible refine ex_bl ?_ | with_reducible refine ex_int ?_ | with_reducible refine ex_int2 ?_ | with_reducible refine inW_mk ?_ | ((with_reducible refine ex_some (y := ?_) ?_ ?_); rotate_left; · rfl) | ((with_reducible refine and_len ?_ ?_); · rfl) | ((with_reducible refine and_hty ?_ ?_); · rfl) | ((with_reducible refine and_le ?_ ?_); · exact Nat.le_of_ble_eq_true rfl) | ((with_reducible refine and_bd ?_ ?_); · first | decide | omega)))
    refine (letters_D e _ _ (by decide)).imp ?_
    rintro w' s ⟨ls, b, rfl, rfl, hl1, hl2, hlow, hsm, hsort⟩
    (repeat (first | with_reducible refine we_c ?_ | ((with_reducible refine we_v (w := ?_) ?_ ?_); rotate_left; · rfl) | with_reducible refine we_b ?_ | with_reducible refine we_a ?_ | with_reducible refine wa_c ?_ | with_reducible refine wa_n ?_ | with_reducible refine we_mt ?_ | with_reducible refine we_call ?_ | with_reducible refine we_tup ?_ | with_reducible refine we_lstW ?_ | with_reducible refine we_u ?_ | with_reducible refine we_not ?_ | with_reducible refine we_if ?_ | with_reducible refine we_and ?_ | with_reducible refine we_or ?_ | with_reducible refine we_cut ?_ | with_reducible refine wo_n ?_ | with_reducible refine wo_s ?_ | with_reducible refine wb_b ?_ | with_reducible refine wb_v ?_ | with_reducible refine wb_o ?_ | with_reducible refine wb_and ?_ | with_reducible refine wb_or ?_ | with_reducible refine wb_not ?_ | with_reducible refine wb_yes ?_ | with_reducible refine we_ch ?_ | with_reducible refine wx_n ?_ | with_reducible refine wx_c ?_ | with_reducible refine ss_n ?_ | with_reducible refine ss_c ?_ | with_reducible refine ss_set ?_ | with_reducible refine ss_ex ?_ | with_reducible refine ss_ret ?_ | with_reducible refine ss_retN ?_ | with_reducible refine ss_bk ?_ | with_reducible refine ss_ct ?_ | with_reducible refine ss_if ?_ | with_reducible refine ss_asg ?_ | with_reducible refine ss_put ?_ | with_reducible refine ss_for ?_ | with_reducible refine wi_a ?_ | with_reducible refine wi_r1 ?_ | with_reducible refine wi_r2 ?_ | with_reducible refine wp_ai ?_ | with_reducible refine wp_si ?_ | ((with_reducible refine wp_ml ?_ ?_); · decide) | ((with_reducible refine wp_mr ?_ ?_); · decide) | ((with_reducible refine wp_md ?_ ?_); · decide) | with_reducible refine wp_ng ?_ | with_reducible refine wp_eqi ?_ | with_reducible refine wp_eqs ?_ | with_reducible refine wp_eqb ?_ | with_reducible refine wp_nei ?_ | with_reducible refine wp_nes ?_ | with_reducible refine wp_neb ?_ | with_reducible refine wp_lt ?_ | with_reducible refine wp_le ?_ | with_reducible refine wp_gt ?_ | with_reducible refine wp_ge ?_ | with_reducible refine wp_isn ?_ | with_reducible refine wp_isnn ?_ | with_reducible refine wp_isb ?_ | with_reducible refine wp_isnb ?_ | with_reducible refine wp_int ?_ | with_reducible refine wp_min ?_ | with_reducible refine wp_max ?_ | with_reducible refine wp_lent ?_ | ((with_reducible refine wp_ixt (w := ?_) ?_ ?_); rotate_left; · rfl) | with_reducible refine wp_cutT ?_ | with_reducible refine wp_tupZ ?_ | with_reducible refine If.n ?_ | ((with_reducible refine If_tr ?_ ?_); · rfl) | ((with_reducible refine If_fa ?_ ?_); · rfl) | with_reducible refine ex_bl ?_ | with_reducible refine ex_int ?_ | with_reducible refine ex_int2 ?_ | with_reducible refine inW_mk ?_ | ((with_reducible refine ex_some (y := ?_) ?_ ?_); rotate_left; · rfl) | ((with_reducible refine and_len ?_ ?_); · rfl) | ((with_reducible refine and_hty ?_ ?_); · rfl) | ((with_reducible refine and_le ?_ ?_); · exact Nat.le_of_ble_eq_true rfl) | ((with_reducible refine and_bd ?_ ?_); · first | decide | omega)))
    refine (set_D e _ _ hl2).imp ?_
    rintro w' s ⟨goals, ends, b, rfl, rfl, wf, hS⟩
    (repeat (first | with_reducible refine we_c ?_ | ((with_reducible refine we_v (w := ?_) ?_ ?_); rotate_left; · rfl) | with_reducible refine we_b ?_ | with_reducible refine we_a ?_ | with_reducible refine wa_c ?_ | with_reducible refine wa_n ?_ | with_reducible refine we_mt ?_ | with_reducible refine we_call ?_ | with_reducible refine we_tup ?_ | with_reducible refine we_lstW ?_ | with_reducible refine we_u ?_ | with_reducible refine we_not ?_ | with_reducible refine we_if ?_ | with_reducible refine we_and ?_ | with_reducible refine we_or ?_ | with_reducible refine we_cut ?_ | with_reducible refine wo_n ?_ | with_reducible refine wo_s ?_ | with_reducible refine wb_b ?_ | with_reducible refine wb_v ?_ | with_reducible refine wb_o ?_ | with_reducible refine wb_and ?_ | with_reducible refine wb_or ?_ | with_reducible refine wb_not ?_ | with_reducible refine wb_yes ?_ | with_reducible refine we_ch ?_ | with_reducible refine wx_n ?_ | with_reducible refine wx_c ?_ | with_reducible refine ss_n ?_ | with_reducible refine ss_c ?_ | with_reducible refine ss_set ?_ | with_reducible refine ss_ex ?_ | with_reducible refine ss_ret ?_ | with_reducible refine ss_retN ?_ | with_reducible refine ss_bk ?_ | with_reducible refine ss_ct ?_ | with_reducible refine ss_if ?_ | with_reducible refine ss_asg ?_ | with_reducible refine ss_put ?_ | with_reducible refine ss_for ?_ | with_reducible refine wi_a ?_ | with_reducible refine wi_r1 ?_ | with_reducible refine wi_r2 ?_ | with_reducible refine wp_ai ?_ | with_reducible refine wp_si ?_ | ((with_reducible refine wp_ml ?_ ?_); · decide) | ((with_reducible refine wp_mr ?_ ?_); · decide) | ((with_reducible refine wp_md ?_ ?_); · decide) | with_reducible refine wp_ng ?_ | with_reducible refine wp_eqi ?_ | with_reducible refine wp_eqs ?_ | with_reducible refine wp_eqb ?_ | with_reducible refine wp_nei ?_ | with_reducible refine wp_nes ?_ | with_reducible refine wp_neb ?_ | with_reducible refine wp_lt ?_ | with_reducible refine wp_le ?_ | with_reducible refine wp_gt ?_ | with_reducible refine wp_ge ?_ | with_reducible refine wp_isn ?_ | with_reducible refine wp_isnn ?_ | with_reducible refine wp_isb ?_ | with_reducible refine wp_isnb ?_ | with_reducible refine wp_int ?_ | with_reducible refine wp_min ?_ | with_reducible refine wp_max ?_ | with_reducible refine wp_lent ?_ | ((with_reducible refine wp_ixt (w := ?_) ?_ ?_); rotate_left; · rfl) | with_reducible refine wp_cutT ?_ | with_reducible refine wp_tupZ ?_ | with_reducible refine If.n ?_ | ((with_reducible refine If_tr ?_ ?_); · rfl) | ((with_reducible refine If_fa ?_ ?_); · rfl) | with_reducible refine ex_bl ?_ | with_reducible refine ex_int ?_ | with_reducible refine ex_int2 ?_ | with_reducible refine inW_mk ?_ | ((with_reducible refine ex_some (y := ?_) ?_ ?_); rotate_left; · rfl) | ((with_reducible refine and_len ?_ ?_); · rfl) | ((with_reducible refine and_hty ?_ ?_); · rfl) | ((with_reducible refine and_le ?_ ?_); · exact Nat.le_of_ble_eq_true rfl) | ((with_reducible refine and_bd ?_ ?_); · first | decide | omega)))
    refine (shortest_eq wf ⟨hl1, hl2⟩ hS e _ _).imp ?_
    rintro told s ⟨rfl, htold⟩
    (repeat (first | with_reducible refine we_c ?_ | ((with_reducible refine we_v (w := ?_) ?_ ?_); rotate_left; · rfl) | with_reducible refine we_b ?_ | with_reducible refine we_a ?_ | with_reducible refine wa_c ?_ | with_reducible refine wa_n ?_ | with_reducible refine we_mt ?_ | with_reducible refine we_call ?_ | with_reducible refine we_tup ?_ | with_reducible refine we_lstW ?_ | with_reducible refine we_u ?_ | with_reducible refine we_not ?_ | with_reducible refine we_if ?_ | with_reducible refine we_and ?_ | with_reducible refine we_or ?_ | with_reducible refine we_cut ?_ | with_reducible refine wo_n ?_ | with_reducible refine wo_s ?_ | with_reducible refine wb_b ?_ | with_reducible refine wb_v ?_ | with_reducible refine wb_o ?_ | with_reducible refine wb_and ?_ | with_reducible refine wb_or ?_ | with_reducible refine wb_not ?_ | with_reducible refine wb_yes ?_ | with_reducible refine we_ch ?_ | with_reducible refine wx_n ?_ | with_reducible refine wx_c ?_ | with_reducible refine ss_n ?_ | with_reducible refine ss_c ?_ | with_reducible refine ss_set ?_ | with_reducible refine ss_ex ?_ | with_reducible refine ss_ret ?_ | with_reducible refine ss_retN ?_ | with_reducible refine ss_bk ?_ | with_reducible refine ss_ct ?_ | with_reducible refine ss_if ?_ | with_reducible refine ss_asg ?_ | with_reducible refine ss_put ?_ | with_reducible refine ss_for ?_ | with_reducible refine wi_a ?_ | with_reducible refine wi_r1 ?_ | with_reducible refine wi_r2 ?_ | with_reducible refine wp_ai ?_ | with_reducible refine wp_si ?_ | ((with_reducible refine wp_ml ?_ ?_); · decide) | ((with_reducible refine wp_mr ?_ ?_); · decide) | ((with_reducible refine wp_md ?_ ?_); · decide) | with_reducible refine wp_ng ?_ | with_reducible refine wp_eqi ?_ | with_reducible refine wp_eqs ?_ | with_reducible refine wp_eqb ?_ | with_reducible refine wp_nei ?_ | with_reducible refine wp_nes ?_ | with_reducible refine wp_neb ?_ | with_reducible refine wp_lt ?_ | with_reducible refine wp_le ?_ | with_reducible refine wp_gt ?_ | with_reducible refine wp_ge ?_ | with_reducible refine wp_isn ?_ | with_reducible refine wp_isnn ?_ | with_reducible refine wp_isb ?_ | with_reducible refine wp_isnb ?_ | with_reducible refine wp_int ?_ | with_reducible refine wp_min ?_ | with_reducible refine wp_max ?_ | with_reducible refine wp_lent ?_ | ((with_reducible refine wp_ixt (w := ?_) ?_ ?_); rotate_left; · rfl) | with_reducible refine wp_cutT ?_ | with_reducible refine wp_tupZ ?_ | with_reducible refine If.n ?_ | ((with_reducible refine If_tr ?_ ?_); · rfl) | ((with_reducible refine If_fa ?_ ?_); · rfl) | with_reducible refine ex_bl ?_ | with_reducible refine ex_int ?_ | with_reducible refine ex_int2 ?_ | with_reducible refine inW_mk ?_ | ((with_reducible refine ex_some (y := ?_) ?_ ?_); rotate_left; · rfl) | ((with_reducible refine and_len ?_ ?_); · rfl) | ((with_reducible refine and_hty ?_ ?_); · rfl) | ((with_reducible refine and_le ?_ ?_); · exact Nat.le_of_ble_eq_true rfl) | ((with_reducible refine and_bd ?_ ?_); · first | decide | omega)))
    refine (first_eq wf ⟨hl1, hl2⟩ hS e _ _).imp ?_
    rintro fst s ⟨rfl, hfst⟩
    have hen : ∀ t, Bfs.Least ls.length (dl goals) (acc ends) t → ¬ ∀ u, Bfs.Wd ls.length u → acc ends (Bfs.run (dl goals) u) = false := fun t ht hn => by
      have := hn t ht.1
      rw [ht.2.1] at this
      cases this
    rcases htold with ⟨t, rfl, ht, ht7⟩ | ⟨rfl, hn⟩
    · rcases hfst with ⟨t', rfl, ht'⟩ | ⟨rfl, hn⟩
      · have := ht.uniq ht'
        subst this
        (repeat (first | with_reducible refine we_c ?_ | ((with_reducible refine we_v (w := ?_) ?_ ?_); rotate_left; · rfl) | with_reducible refine we_b ?_ | with_reducible refine we_a ?_ | with_reducible refine wa_c ?_ | with_reducible refine wa_n ?_ | with_reducible refine we_mt ?_ | with_reducible refine we_call ?_ | with_reducible refine we_tup ?_ | with_reducible refine we_lstW ?_ | with_reducible refine we_u ?_ | with_reducible refine we_not ?_ | with_reducible refine we_if ?_ | with_reducible refine we_and ?_ | with_reducible refine we_or ?_ | with_reducible refine we_cut ?_ | with_reducible refine wo_n ?_ | with_reducible refine wo_s ?_ | with_reducible refine wb_b ?_ | with_reducible refine wb_v ?_ | with_reducible refine wb_o ?_ | with_reducible refine wb_and ?_ | with_reducible refine wb_or ?_ | with_reducible refine wb_not ?_ | with_reducible refine wb_yes ?_ | with_reducible refine we_ch ?_ | with_reducible refine wx_n ?_ | with_reducible refine wx_c ?_ | with_reducible refine ss_n ?_ | with_reducible refine ss_c ?_ | with_reducible refine ss_set ?_ | with_reducible refine ss_ex ?_ | with_reducible refine ss_ret ?_ | with_reducible refine ss_retN ?_ | with_reducible refine ss_bk ?_ | with_reducible refine ss_ct ?_ | with_reducible refine ss_if ?_ | with_reducible refine ss_asg ?_ | with_reducible refine ss_put ?_ | with_reducible refine ss_for ?_ | with_reducible refine wi_a ?_ | with_reducible refine wi_r1 ?_ | with_reducible refine wi_r2 ?_ | with_reducible refine wp_ai ?_ | with_reducible refine wp_si ?_ | ((with_reducible refine wp_ml ?_ ?_); · decide) | ((with_reducible refine wp_mr ?_ ?_); · decide) | ((with_reducible refine wp_md ?_ ?_); · decide) | with_reducible refine wp_ng ?_ | with_reducible refine wp_eqi ?_ | with_reducible refine wp_eqs ?_ | with_reducible refine wp_eqb ?_ | with_reducible refine wp_nei ?_ | with_reducible refine wp_nes ?_ | with_reducible refine wp_neb ?_ | with_reducible refine wp_lt ?_ | with_reducible refine wp_le ?_ | with_reducible refine wp_gt ?_ | with_reducible refine wp_ge ?_ | with_reducible refine wp_isn ?_ | with_reducible refine wp_isnn ?_ | with_reducible refine wp_isb ?_ | with_reducible refine wp_isnb ?_ | with_reducible refine wp_int ?_ | with_reducible refine wp_min ?_ | with_reducible refine wp_max ?_ | with_reducible refine wp_lent ?_ | ((with_reducible refine wp_ixt (w := ?_) ?_ ?_); rotate_left; · rfl) | with_reducible refine wp_cutT ?_ | with_reducible refine wp_tupZ ?_ | with_reducible refine If.n ?_ | ((with_reducible refine If_tr ?_ ?_); · rfl) | ((with_reducible refine If_fa ?_ ?_); · rfl) | with_reducible refine ex_bl ?_ | with_reducible refine ex_int ?_ | with_reducible refine ex_int2 ?_ | with_reducible refine inW_mk ?_ | ((with_reducible refine ex_some (y := ?_) ?_ ?_); rotate_left; · rfl) | ((with_reducible refine and_len ?_ ?_); · rfl) | ((with_reducible refine and_hty ?_ ?_); · rfl) | ((with_reducible refine and_le ?_ ?_); · exact Nat.le_of_ble_eq_true rfl) | ((with_reducible refine and_bd ?_ ?_); · first | decide | omega)))
        refine If.dt rfl ?_
        (repeat (first | with_reducible refine we_c ?_ | ((with_reducible refine we_v (w := ?_) ?_ ?_); rotate_left; · rfl) | with_reducible refine we_b ?_ | with_reducible refine we_a ?_ | with_reducible refine wa_c ?_ | with_reducible refine wa_n ?_ | with_reducible refine we_mt ?_ | with_reducible refine we_call ?_ | with_reducible refine we_tup ?_ | with_reducible refine we_lstW ?_ | with_reducible refine we_u ?_ | with_reducible refine we_not ?_ | with_reducible refine we_if ?_ | with_reducible refine we_and ?_ | with_reducible refine we_or ?_ | with_reducible refine we_cut ?_ | with_reducible refine wo_n ?_ | with_reducible refine wo_s ?_ | with_reducible refine wb_b ?_ | with_reducible refine wb_v ?_ | with_reducible refine wb_o ?_ | with_reducible refine wb_and ?_ | with_reducible refine wb_or ?_ | with_reducible refine wb_not ?_ | with_reducible refine wb_yes ?_ | with_reducible refine we_ch ?_ | with_reducible refine wx_n ?_ | with_reducible refine wx_c ?_ | with_reducible refine ss_n ?_ | with_reducible refine ss_c ?_ | with_reducible refine ss_set ?_ | with_reducible refine ss_ex ?_ | with_reducible refine ss_ret ?_ | with_reducible refine ss_retN ?_ | with_reducible refine ss_bk ?_ | with_reducible refine ss_ct ?_ | with_reducible refine ss_if ?_ | with_reducible refine ss_asg ?_ | with_reducible refine ss_put ?_ | with_reducible refine ss_for ?_ | with_reducible refine wi_a ?_ | with_reducible refine wi_r1 ?_ | with_reducible refine wi_r2 ?_ | with_reducible refine wp_ai ?_ | with_reducible refine wp_si ?_ | ((with_reducible refine wp_ml ?_ ?_); · decide) | ((with_reducible refine wp_mr ?_ ?_); · decide) | ((with_reducible refine wp_md ?_ ?_); · decide) | with_reducible refine wp_ng ?_ | with_reducible refine wp_eqi ?_ | with_reducible refine wp_eqs ?_ | with_reducible refine wp_eqb ?_ | with_reducible refine wp_nei ?_ | with_reducible refine wp_nes ?_ | with_reducible refine wp_neb ?_ | with_reducible refine wp_lt ?_ | with_reducible refine wp_le ?_ | with_reducible refine wp_gt ?_ | with_reducible refine wp_ge ?_ | with_reducible refine wp_isn ?_ | with_reducible refine wp_isnn ?_ | with_reducible refine wp_isb ?_ | with_reducible refine wp_isnb ?_ | with_reducible refine wp_int ?_ | with_reducible refine wp_min ?_ | with_reducible refine wp_max ?_ | with_reducible refine wp_lent ?_ | ((with_reducible refine wp_ixt (w := ?_) ?_ ?_); rotate_left; · rfl) | with_reducible refine wp_cutT ?_ | with_reducible refine wp_tupZ ?_ | with_reducible refine If.n ?_ | ((with_reducible refine If_tr ?_ ?_); · rfl) | ((with_reducible refine If_fa ?_ ?_); · rfl) | with_reducible refine ex_bl ?_ | with_reducible refine ex_int ?_ | with_reducible refine ex_int2 ?_ | with_reducible refine inW_mk ?_ | ((with_reducible refine ex_some (y := ?_) ?_ ?_); rotate_left; · rfl) | ((with_reducible refine and_len ?_ ?_); · rfl) | ((with_reducible refine and_hty ?_ ?_); · rfl) | ((with_reducible refine and_le ?_ ?_); · exact Nat.le_of_ble_eq_true rfl) | ((with_reducible refine and_bd ?_ ?_); · first | decide | omega)))
        refine (tried_eq wf ⟨hl1, hl2⟩ hS e _ _).imp ?_
        rintro tr s ⟨rfl, htr⟩
        have hcon := contains_eq wf (txt ls t) (W e b ([] ++ M) [])
        rw [in_txt hsort ht.1, ht.2.1] at hcon
        have hfin : ∀ {fm : Fm} {N : Fm → Sto → Prop} {R : Va → Sto → Prop} {B C : Fm → Sto → Prop}, N fm (W e b ([] ++ M) []) → N fm (W e b ([] ++ M) []) := fun h => h
        rcases htr with ⟨u, rfl, hu⟩ | ⟨rfl, hn⟩
        · have := ht.uniq hu
          subst this
          (repeat (first | with_reducible refine we_c ?_ | ((with_reducible refine we_v (w := ?_) ?_ ?_); rotate_left; · rfl) | with_reducible refine we_b ?_ | with_reducible refine we_a ?_ | with_reducible refine wa_c ?_ | with_reducible refine wa_n ?_ | with_reducible refine we_mt ?_ | with_reducible refine we_call ?_ | with_reducible refine we_tup ?_ | with_reducible refine we_lstW ?_ | with_reducible refine we_u ?_ | with_reducible refine we_not ?_ | with_reducible refine we_if ?_ | with_reducible refine we_and ?_ | with_reducible refine we_or ?_ | with_reducible refine we_cut ?_ | with_reducible refine wo_n ?_ | with_reducible refine wo_s ?_ | with_reducible refine wb_b ?_ | with_reducible refine wb_v ?_ | with_reducible refine wb_o ?_ | with_reducible refine wb_and ?_ | with_reducible refine wb_or ?_ | with_reducible refine wb_not ?_ | with_reducible refine wb_yes ?_ | with_reducible refine we_ch ?_ | with_reducible refine wx_n ?_ | with_reducible refine wx_c ?_ | with_reducible refine ss_n ?_ | with_reducible refine ss_c ?_ | with_reducible refine ss_set ?_ | with_reducible refine ss_ex ?_ | with_reducible refine ss_ret ?_ | with_reducible refine ss_retN ?_ | with_reducible refine ss_bk ?_ | with_reducible refine ss_ct ?_ | with_reducible refine ss_if ?_ | with_reducible refine ss_asg ?_ | with_reducible refine ss_put ?_ | with_reducible refine ss_for ?_ | with_reducible refine wi_a ?_ | with_reducible refine wi_r1 ?_ | with_reducible refine wi_r2 ?_ | with_reducible refine wp_ai ?_ | with_reducible refine wp_si ?_ | ((with_reducible refine wp_ml ?_ ?_); · decide) | ((with_reducible refine wp_mr ?_ ?_); · decide) | ((with_reducible refine wp_md ?_ ?_); · decide) | with_reducible refine wp_ng ?_ | with_reducible refine wp_eqi ?_ | with_reducible refine wp_eqs ?_ | with_reducible refine wp_eqb ?_ | with_reducible refine wp_nei ?_ | with_reducible refine wp_nes ?_ | with_reducible refine wp_neb ?_ | with_reducible refine wp_lt ?_ | with_reducible refine wp_le ?_ | with_reducible refine wp_gt ?_ | with_reducible refine wp_ge ?_ | with_reducible refine wp_isn ?_ | with_reducible refine wp_isnn ?_ | with_reducible refine wp_isb ?_ | with_reducible refine wp_isnb ?_ | with_reducible refine wp_int ?_ | with_reducible refine wp_min ?_ | with_reducible refine wp_max ?_ | with_reducible refine wp_lent ?_ | ((with_reducible refine wp_ixt (w := ?_) ?_ ?_); rotate_left; · rfl) | with_reducible refine wp_cutT ?_ | with_reducible refine wp_tupZ ?_ | with_reducible refine If.n ?_ | ((with_reducible refine If_tr ?_ ?_); · rfl) | ((with_reducible refine If_fa ?_ ?_); · rfl) | with_reducible refine ex_bl ?_ | with_reducible refine ex_int ?_ | with_reducible refine ex_int2 ?_ | with_reducible refine inW_mk ?_ | ((with_reducible refine ex_some (y := ?_) ?_ ?_); rotate_left; · rfl) | ((with_reducible refine and_len ?_ ?_); · rfl) | ((with_reducible refine and_hty ?_ ?_); · rfl) | ((with_reducible refine and_le ?_ ?_); · exact Nat.le_of_ble_eq_true rfl) | ((with_reducible refine and_bd ?_ ?_); · first | decide | omega)))
          refine If.dt rfl ?_
          (repeat (first | with_reducible refine we_c ?_ | ((with_reducible refine we_v (w := ?_) ?_ ?_); rotate_left; · rfl) | with_reducible refine we_b ?_ | with_reducible refine we_a ?_ | with_reducible refine wa_c ?_ | with_reducible refine wa_n ?_ | with_reducible refine we_mt ?_ | with_reducible refine we_call ?_ | with_reducible refine we_tup ?_ | with_reducible refine we_lstW ?_ | with_reducible refine we_u ?_ | with_reducible refine we_not ?_ | with_reducible refine we_if ?_ | with_reducible refine we_and ?_ | with_reducible refine we_or ?_ | with_reducible refine we_cut ?_ | with_reducible refine wo_n ?_ | with_reducible refine wo_s ?_ | with_reducible refine wb_b ?_ | with_reducible refine wb_v ?_ | with_reducible refine wb_o ?_ | with_reducible refine wb_and ?_ | with_reducible refine wb_or ?_ | with_reducible refine wb_not ?_ | with_reducible refine wb_yes ?_ | with_reducible refine we_ch ?_ | with_reducible refine wx_n ?_ | with_reducible refine wx_c ?_ | with_reducible refine ss_n ?_ | with_reducible refine ss_c ?_ | with_reducible refine ss_set ?_ | with_reducible refine ss_ex ?_ | with_reducible refine ss_ret ?_ | with_reducible refine ss_retN ?_ | with_reducible refine ss_bk ?_ | with_reducible refine ss_ct ?_ | with_reducible refine ss_if ?_ | with_reducible refine ss_asg ?_ | with_reducible refine ss_put ?_ | with_reducible refine ss_for ?_ | with_reducible refine wi_a ?_ | with_reducible refine wi_r1 ?_ | with_reducible refine wi_r2 ?_ | with_reducible refine wp_ai ?_ | with_reducible refine wp_si ?_ | ((with_reducible refine wp_ml ?_ ?_); · decide) | ((with_reducible refine wp_mr ?_ ?_); · decide) | ((with_reducible refine wp_md ?_ ?_); · decide) | with_reducible refine wp_ng ?_ | with_reducible refine wp_eqi ?_ | with_reducible refine wp_eqs ?_ | with_reducible refine wp_eqb ?_ | with_reducible refine wp_nei ?_ | with_reducible refine wp_nes ?_ | with_reducible refine wp_neb ?_ | with_reducible refine wp_lt ?_ | with_reducible refine wp_le ?_ | with_reducible refine wp_gt ?_ | with_reducible refine wp_ge ?_ | with_reducible refine wp_isn ?_ | with_reducible refine wp_isnn ?_ | with_reducible refine wp_isb ?_ | with_reducible refine wp_isnb ?_ | with_reducible refine wp_int ?_ | with_reducible refine wp_min ?_ | with_reducible refine wp_max ?_ | with_reducible refine wp_lent ?_ | ((with_reducible refine wp_ixt (w := ?_) ?_ ?_); rotate_left; · rfl) | with_reducible refine wp_cutT ?_ | with_reducible refine wp_tupZ ?_ | with_reducible refine If.n ?_ | ((with_reducible refine If_tr ?_ ?_); · rfl) | ((with_reducible refine If_fa ?_ ?_); · rfl) | with_reducible refine ex_bl ?_ | with_reducible refine ex_int ?_ | with_reducible refine ex_int2 ?_ | with_reducible refine inW_mk ?_ | ((with_reducible refine ex_some (y := ?_) ?_ ?_); rotate_left; · rfl) | ((with_reducible refine and_len ?_ ?_); · rfl) | ((with_reducible refine and_hty ?_ ?_); · rfl) | ((with_reducible refine and_le ?_ ?_); · exact Nat.le_of_ble_eq_true rfl) | ((with_reducible refine and_bd ?_ ?_); · first | decide | omega)))
          refine wp_of hcon ?_
          (repeat (first | with_reducible refine we_c ?_ | ((with_reducible refine we_v (w := ?_) ?_ ?_); rotate_left; · rfl) | with_reducible refine we_b ?_ | with_reducible refine we_a ?_ | with_reducible refine wa_c ?_ | with_reducible refine wa_n ?_ | with_reducible refine we_mt ?_ | with_reducible refine we_call ?_ | with_reducible refine we_tup ?_ | with_reducible refine we_lstW ?_ | with_reducible refine we_u ?_ | with_reducible refine we_not ?_ | with_reducible refine we_if ?_ | with_reducible refine we_and ?_ | with_reducible refine we_or ?_ | with_reducible refine we_cut ?_ | with_reducible refine wo_n ?_ | with_reducible refine wo_s ?_ | with_reducible refine wb_b ?_ | with_reducible refine wb_v ?_ | with_reducible refine wb_o ?_ | with_reducible refine wb_and ?_ | with_reducible refine wb_or ?_ | with_reducible refine wb_not ?_ | with_reducible refine wb_yes ?_ | with_reducible refine we_ch ?_ | with_reducible refine wx_n ?_ | with_reducible refine wx_c ?_ | with_reducible refine ss_n ?_ | with_reducible refine ss_c ?_ | with_reducible refine ss_set ?_ | with_reducible refine ss_ex ?_ | with_reducible refine ss_ret ?_ | with_reducible refine ss_retN ?_ | with_reducible refine ss_bk ?_ | with_reducible refine ss_ct ?_ | with_reducible refine ss_if ?_ | with_reducible refine ss_asg ?_ | with_reducible refine ss_put ?_ | with_reducible refine ss_for ?_ | with_reducible refine wi_a ?_ | with_reducible refine wi_r1 ?_ | with_reducible refine wi_r2 ?_ | with_reducible refine wp_ai ?_ | with_reducible refine wp_si ?_ | ((with_reducible refine wp_ml ?_ ?_); · decide) | ((with_reducible refine wp_mr ?_ ?_); · decide) | ((with_reducible refine wp_md ?_ ?_); · decide) | with_reducible refine wp_ng ?_ | with_reducible refine wp_eqi ?_ | with_reducible refine wp_eqs ?_ | with_reducible refine wp_eqb ?_ | with_reducible refine wp_nei ?_ | with_reducible refine wp_nes ?_ | with_reducible refine wp_neb ?_ | with_reducible refine wp_lt ?_ | with_reducible refine wp_le ?_ | with_reducible refine wp_gt ?_ | with_reducible refine wp_ge ?_ | with_reducible refine wp_isn ?_ | with_reducible refine wp_isnn ?_ | with_reducible refine wp_isb ?_ | with_reducible refine wp_isnb ?_ | with_reducible refine wp_int ?_ | with_reducible refine wp_min ?_ | with_reducible refine wp_max ?_ | with_reducible refine wp_lent ?_ | ((with_reducible refine wp_ixt (w := ?_) ?_ ?_); rotate_left; · rfl) | with_reducible refine wp_cutT ?_ | with_reducible refine wp_tupZ ?_ | with_reducible refine If.n ?_ | ((with_reducible refine If_tr ?_ ?_); · rfl) | ((with_reducible refine If_fa ?_ ?_); · rfl) | with_reducible refine ex_bl ?_ | with_reducible refine ex_int ?_ | with_reducible refine ex_int2 ?_ | with_reducible refine inW_mk ?_ | ((with_reducible refine ex_some (y := ?_) ?_ ?_); rotate_left; · rfl) | ((with_reducible refine and_len ?_ ?_); · rfl) | ((with_reducible refine and_hty ?_ ?_); · rfl) | ((with_reducible refine and_le ?_ ?_); · exact Nat.le_of_ble_eq_true rfl) | ((with_reducible refine and_bd ?_ ?_); · first | decide | omega)))
          exact hd ⟨_, _, _, _, _, _, rfl, W_in.symm⟩
        · have h5 : ¬ t.length < 5 := fun h5 => by
            have := hn t ht.1 h5
            rw [ht.2.1] at this
            cases this
          (repeat (first | with_reducible refine we_c ?_ | ((with_reducible refine we_v (w := ?_) ?_ ?_); rotate_left; · rfl) | with_reducible refine we_b ?_ | with_reducible refine we_a ?_ | with_reducible refine wa_c ?_ | with_reducible refine wa_n ?_ | with_reducible refine we_mt ?_ | with_reducible refine we_call ?_ | with_reducible refine we_tup ?_ | with_reducible refine we_lstW ?_ | with_reducible refine we_u ?_ | with_reducible refine we_not ?_ | with_reducible refine we_if ?_ | with_reducible refine we_and ?_ | with_reducible refine we_or ?_ | with_reducible refine we_cut ?_ | with_reducible refine wo_n ?_ | with_reducible refine wo_s ?_ | with_reducible refine wb_b ?_ | with_reducible refine wb_v ?_ | with_reducible refine wb_o ?_ | with_reducible refine wb_and ?_ | with_reducible refine wb_or ?_ | with_reducible refine wb_not ?_ | with_reducible refine wb_yes ?_ | with_reducible refine we_ch ?_ | with_reducible refine wx_n ?_ | with_reducible refine wx_c ?_ | with_reducible refine ss_n ?_ | with_reducible refine ss_c ?_ | with_reducible refine ss_set ?_ | with_reducible refine ss_ex ?_ | with_reducible refine ss_ret ?_ | with_reducible refine ss_retN ?_ | with_reducible refine ss_bk ?_ | with_reducible refine ss_ct ?_ | with_reducible refine ss_if ?_ | with_reducible refine ss_asg ?_ | with_reducible refine ss_put ?_ | with_reducible refine ss_for ?_ | with_reducible refine wi_a ?_ | with_reducible refine wi_r1 ?_ | with_reducible refine wi_r2 ?_ | with_reducible refine wp_ai ?_ | with_reducible refine wp_si ?_ | ((with_reducible refine wp_ml ?_ ?_); · decide) | ((with_reducible refine wp_mr ?_ ?_); · decide) | ((with_reducible refine wp_md ?_ ?_); · decide) | with_reducible refine wp_ng ?_ | with_reducible refine wp_eqi ?_ | with_reducible refine wp_eqs ?_ | with_reducible refine wp_eqb ?_ | with_reducible refine wp_nei ?_ | with_reducible refine wp_nes ?_ | with_reducible refine wp_neb ?_ | with_reducible refine wp_lt ?_ | with_reducible refine wp_le ?_ | with_reducible refine wp_gt ?_ | with_reducible refine wp_ge ?_ | with_reducible refine wp_isn ?_ | with_reducible refine wp_isnn ?_ | with_reducible refine wp_isb ?_ | with_reducible refine wp_isnb ?_ | with_reducible refine wp_int ?_ | with_reducible refine wp_min ?_ | with_reducible refine wp_max ?_ | with_reducible refine wp_lent ?_ | ((with_reducible refine wp_ixt (w := ?_) ?_ ?_); rotate_left; · rfl) | with_reducible refine wp_cutT ?_ | with_reducible refine wp_tupZ ?_ | with_reducible refine If.n ?_ | ((with_reducible refine If_tr ?_ ?_); · rfl) | ((with_reducible refine If_fa ?_ ?_); · rfl) | with_reducible refine ex_bl ?_ | with_reducible refine ex_int ?_ | with_reducible refine ex_int2 ?_ | with_reducible refine inW_mk ?_ | ((with_reducible refine ex_some (y := ?_) ?_ ?_); rotate_left; · rfl) | ((with_reducible refine and_len ?_ ?_); · rfl) | ((with_reducible refine and_hty ?_ ?_); · rfl) | ((with_reducible refine and_le ?_ ?_); · exact Nat.le_of_ble_eq_true rfl) | ((with_reducible refine and_bd ?_ ?_); · first | decide | omega)))
          refine wp_lens (by simp [txt]; omega) ?_
          (repeat (first | with_reducible refine we_c ?_ | ((with_reducible refine we_v (w := ?_) ?_ ?_); rotate_left; · rfl) | with_reducible refine we_b ?_ | with_reducible refine we_a ?_ | with_reducible refine wa_c ?_ | with_reducible refine wa_n ?_ | with_reducible refine we_mt ?_ | with_reducible refine we_call ?_ | with_reducible refine we_tup ?_ | with_reducible refine we_lstW ?_ | with_reducible refine we_u ?_ | with_reducible refine we_not ?_ | with_reducible refine we_if ?_ | with_reducible refine we_and ?_ | with_reducible refine we_or ?_ | with_reducible refine we_cut ?_ | with_reducible refine wo_n ?_ | with_reducible refine wo_s ?_ | with_reducible refine wb_b ?_ | with_reducible refine wb_v ?_ | with_reducible refine wb_o ?_ | with_reducible refine wb_and ?_ | with_reducible refine wb_or ?_ | with_reducible refine wb_not ?_ | with_reducible refine wb_yes ?_ | with_reducible refine we_ch ?_ | with_reducible refine wx_n ?_ | with_reducible refine wx_c ?_ | with_reducible refine ss_n ?_ | with_reducible refine ss_c ?_ | with_reducible refine ss_set ?_ | with_reducible refine ss_ex ?_ | with_reducible refine ss_ret ?_ | with_reducible refine ss_retN ?_ | with_reducible refine ss_bk ?_ | with_reducible refine ss_ct ?_ | with_reducible refine ss_if ?_ | with_reducible refine ss_asg ?_ | with_reducible refine ss_put ?_ | with_reducible refine ss_for ?_ | with_reducible refine wi_a ?_ | with_reducible refine wi_r1 ?_ | with_reducible refine wi_r2 ?_ | with_reducible refine wp_ai ?_ | with_reducible refine wp_si ?_ | ((with_reducible refine wp_ml ?_ ?_); · decide) | ((with_reducible refine wp_mr ?_ ?_); · decide) | ((with_reducible refine wp_md ?_ ?_); · decide) | with_reducible refine wp_ng ?_ | with_reducible refine wp_eqi ?_ | with_reducible refine wp_eqs ?_ | with_reducible refine wp_eqb ?_ | with_reducible refine wp_nei ?_ | with_reducible refine wp_nes ?_ | with_reducible refine wp_neb ?_ | with_reducible refine wp_lt ?_ | with_reducible refine wp_le ?_ | with_reducible refine wp_gt ?_ | with_reducible refine wp_ge ?_ | with_reducible refine wp_isn ?_ | with_reducible refine wp_isnn ?_ | with_reducible refine wp_isb ?_ | with_reducible refine wp_isnb ?_ | with_reducible refine wp_int ?_ | with_reducible refine wp_min ?_ | with_reducible refine wp_max ?_ | with_reducible refine wp_lent ?_ | ((with_reducible refine wp_ixt (w := ?_) ?_ ?_); rotate_left; · rfl) | with_reducible refine wp_cutT ?_ | with_reducible refine wp_tupZ ?_ | with_reducible refine If.n ?_ | ((with_reducible refine If_tr ?_ ?_); · rfl) | ((with_reducible refine If_fa ?_ ?_); · rfl) | with_reducible refine ex_bl ?_ | with_reducible refine ex_int ?_ | with_reducible refine ex_int2 ?_ | with_reducible refine inW_mk ?_ | ((with_reducible refine ex_some (y := ?_) ?_ ?_); rotate_left; · rfl) | ((with_reducible refine and_len ?_ ?_); · rfl) | ((with_reducible refine and_hty ?_ ?_); · rfl) | ((with_reducible refine and_le ?_ ?_); · exact Nat.le_of_ble_eq_true rfl) | ((with_reducible refine and_bd ?_ ?_); · first | decide | omega)))
          refine If.df (by simp [txt]; omega) ?_
          (repeat (first | with_reducible refine we_c ?_ | ((with_reducible refine we_v (w := ?_) ?_ ?_); rotate_left; · rfl) | with_reducible refine we_b ?_ | with_reducible refine we_a ?_ | with_reducible refine wa_c ?_ | with_reducible refine wa_n ?_ | with_reducible refine we_mt ?_ | with_reducible refine we_call ?_ | with_reducible refine we_tup ?_ | with_reducible refine we_lstW ?_ | with_reducible refine we_u ?_ | with_reducible refine we_not ?_ | with_reducible refine we_if ?_ | with_reducible refine we_and ?_ | with_reducible refine we_or ?_ | with_reducible refine we_cut ?_ | with_reducible refine wo_n ?_ | with_reducible refine wo_s ?_ | with_reducible refine wb_b ?_ | with_reducible refine wb_v ?_ | with_reducible refine wb_o ?_ | with_reducible refine wb_and ?_ | with_reducible refine wb_or ?_ | with_reducible refine wb_not ?_ | with_reducible refine wb_yes ?_ | with_reducible refine we_ch ?_ | with_reducible refine wx_n ?_ | with_reducible refine wx_c ?_ | with_reducible refine ss_n ?_ | with_reducible refine ss_c ?_ | with_reducible refine ss_set ?_ | with_reducible refine ss_ex ?_ | with_reducible refine ss_ret ?_ | with_reducible refine ss_retN ?_ | with_reducible refine ss_bk ?_ | with_reducible refine ss_ct ?_ | with_reducible refine ss_if ?_ | with_reducible refine ss_asg ?_ | with_reducible refine ss_put ?_ | with_reducible refine ss_for ?_ | with_reducible refine wi_a ?_ | with_reducible refine wi_r1 ?_ | with_reducible refine wi_r2 ?_ | with_reducible refine wp_ai ?_ | with_reducible refine wp_si ?_ | ((with_reducible refine wp_ml ?_ ?_); · decide) | ((with_reducible refine wp_mr ?_ ?_); · decide) | ((with_reducible refine wp_md ?_ ?_); · decide) | with_reducible refine wp_ng ?_ | with_reducible refine wp_eqi ?_ | with_reducible refine wp_eqs ?_ | with_reducible refine wp_eqb ?_ | with_reducible refine wp_nei ?_ | with_reducible refine wp_nes ?_ | with_reducible refine wp_neb ?_ | with_reducible refine wp_lt ?_ | with_reducible refine wp_le ?_ | with_reducible refine wp_gt ?_ | with_reducible refine wp_ge ?_ | with_reducible refine wp_isn ?_ | with_reducible refine wp_isnn ?_ | with_reducible refine wp_isb ?_ | with_reducible refine wp_isnb ?_ | with_reducible refine wp_int ?_ | with_reducible refine wp_min ?_ | with_reducible refine wp_max ?_ | with_reducible refine wp_lent ?_ | ((with_reducible refine wp_ixt (w := ?_) ?_ ?_); rotate_left; · rfl) | with_reducible refine wp_cutT ?_ | with_reducible refine wp_tupZ ?_ | with_reducible refine If.n ?_ | ((with_reducible refine If_tr ?_ ?_); · rfl) | ((with_reducible refine If_fa ?_ ?_); · rfl) | with_reducible refine ex_bl ?_ | with_reducible refine ex_int ?_ | with_reducible refine ex_int2 ?_ | with_reducible refine inW_mk ?_ | ((with_reducible refine ex_some (y := ?_) ?_ ?_); rotate_left; · rfl) | ((with_reducible refine and_len ?_ ?_); · rfl) | ((with_reducible refine and_hty ?_ ?_); · rfl) | ((with_reducible refine and_le ?_ ?_); · exact Nat.le_of_ble_eq_true rfl) | ((with_reducible refine and_bd ?_ ?_); · first | decide | omega)))
          refine wp_of hcon ?_
          (repeat (first | with_reducible refine we_c ?_ | ((with_reducible refine we_v (w := ?_) ?_ ?_); rotate_left; · rfl) | with_reducible refine we_b ?_ | with_reducible refine we_a ?_ | with_reducible refine wa_c ?_ | with_reducible refine wa_n ?_ | with_reducible refine we_mt ?_ | with_reducible refine we_call ?_ | with_reducible refine we_tup ?_ | with_reducible refine we_lstW ?_ | with_reducible refine we_u ?_ | with_reducible refine we_not ?_ | with_reducible refine we_if ?_ | with_reducible refine we_and ?_ | with_reducible refine we_or ?_ | with_reducible refine we_cut ?_ | with_reducible refine wo_n ?_ | with_reducible refine wo_s ?_ | with_reducible refine wb_b ?_ | with_reducible refine wb_v ?_ | with_reducible refine wb_o ?_ | with_reducible refine wb_and ?_ | with_reducible refine wb_or ?_ | with_reducible refine wb_not ?_ | with_reducible refine wb_yes ?_ | with_reducible refine we_ch ?_ | with_reducible refine wx_n ?_ | with_reducible refine wx_c ?_ | with_reducible refine ss_n ?_ | with_reducible refine ss_c ?_ | with_reducible refine ss_set ?_ | with_reducible refine ss_ex ?_ | with_reducible refine ss_ret ?_ | with_reducible refine ss_retN ?_ | with_reducible refine ss_bk ?_ | with_reducible refine ss_ct ?_ | with_reducible refine ss_if ?_ | with_reducible refine ss_asg ?_ | with_reducible refine ss_put ?_ | with_reducible refine ss_for ?_ | with_reducible refine wi_a ?_ | with_reducible refine wi_r1 ?_ | with_reducible refine wi_r2 ?_ | with_reducible refine wp_ai ?_ | with_reducible refine wp_si ?_ | ((with_reducible refine wp_ml ?_ ?_); · decide) | ((with_reducible refine wp_mr ?_ ?_); · decide) | ((with_reducible refine wp_md ?_ ?_); · decide) | with_reducible refine wp_ng ?_ | with_reducible refine wp_eqi ?_ | with_reducible refine wp_eqs ?_ | with_reducible refine wp_eqb ?_ | with_reducible refine wp_nei ?_ | with_reducible refine wp_nes ?_ | with_reducible refine wp_neb ?_ | with_reducible refine wp_lt ?_ | with_reducible refine wp_le ?_ | with_reducible refine wp_gt ?_ | with_reducible refine wp_ge ?_ | with_reducible refine wp_isn ?_ | with_reducible refine wp_isnn ?_ | with_reducible refine wp_isb ?_ | with_reducible refine wp_isnb ?_ | with_reducible refine wp_int ?_ | with_reducible refine wp_min ?_ | with_reducible refine wp_max ?_ | with_reducible refine wp_lent ?_ | ((with_reducible refine wp_ixt (w := ?_) ?_ ?_); rotate_left; · rfl) | with_reducible refine wp_cutT ?_ | with_reducible refine wp_tupZ ?_ | with_reducible refine If.n ?_ | ((with_reducible refine If_tr ?_ ?_); · rfl) | ((with_reducible refine If_fa ?_ ?_); · rfl) | with_reducible refine ex_bl ?_ | with_reducible refine ex_int ?_ | with_reducible refine ex_int2 ?_ | with_reducible refine inW_mk ?_ | ((with_reducible refine ex_some (y := ?_) ?_ ?_); rotate_left; · rfl) | ((with_reducible refine and_len ?_ ?_); · rfl) | ((with_reducible refine and_hty ?_ ?_); · rfl) | ((with_reducible refine and_le ?_ ?_); · exact Nat.le_of_ble_eq_true rfl) | ((with_reducible refine and_bd ?_ ?_); · first | decide | omega)))
          exact hd ⟨_, _, _, _, _, _, rfl, W_in.symm⟩
      · exact absurd hn (hen t ht)
    · rcases hfst with ⟨t', rfl, ht'⟩ | ⟨rfl, _⟩
      · exact absurd hn (hen t' ht')
      · refine wp_of (x := gNe .non .non _) rfl ?_
        (repeat (first | with_reducible refine we_c ?_ | ((with_reducible refine we_v (w := ?_) ?_ ?_); rotate_left; · rfl) | with_reducible refine we_b ?_ | with_reducible refine we_a ?_ | with_reducible refine wa_c ?_ | with_reducible refine wa_n ?_ | with_reducible refine we_mt ?_ | with_reducible refine we_call ?_ | with_reducible refine we_tup ?_ | with_reducible refine we_lstW ?_ | with_reducible refine we_u ?_ | with_reducible refine we_not ?_ | with_reducible refine we_if ?_ | with_reducible refine we_and ?_ | with_reducible refine we_or ?_ | with_reducible refine we_cut ?_ | with_reducible refine wo_n ?_ | with_reducible refine wo_s ?_ | with_reducible refine wb_b ?_ | with_reducible refine wb_v ?_ | with_reducible refine wb_o ?_ | with_reducible refine wb_and ?_ | with_reducible refine wb_or ?_ | with_reducible refine wb_not ?_ | with_reducible refine wb_yes ?_ | with_reducible refine we_ch ?_ | with_reducible refine wx_n ?_ | with_reducible refine wx_c ?_ | with_reducible refine ss_n ?_ | with_reducible refine ss_c ?_ | with_reducible refine ss_set ?_ | with_reducible refine ss_ex ?_ | with_reducible refine ss_ret ?_ | with_reducible refine ss_retN ?_ | with_reducible refine ss_bk ?_ | with_reducible refine ss_ct ?_ | with_reducible refine ss_if ?_ | with_reducible refine ss_asg ?_ | with_reducible refine ss_put ?_ | with_reducible refine ss_for ?_ | with_reducible refine wi_a ?_ | with_reducible refine wi_r1 ?_ | with_reducible refine wi_r2 ?_ | with_reducible refine wp_ai ?_ | with_reducible refine wp_si ?_ | ((with_reducible refine wp_ml ?_ ?_); · decide) | ((with_reducible refine wp_mr ?_ ?_); · decide) | ((with_reducible refine wp_md ?_ ?_); · decide) | with_reducible refine wp_ng ?_ | with_reducible refine wp_eqi ?_ | with_reducible refine wp_eqs ?_ | with_reducible refine wp_eqb ?_ | with_reducible refine wp_nei ?_ | with_reducible refine wp_nes ?_ | with_reducible refine wp_neb ?_ | with_reducible refine wp_lt ?_ | with_reducible refine wp_le ?_ | with_reducible refine wp_gt ?_ | with_reducible refine wp_ge ?_ | with_reducible refine wp_isn ?_ | with_reducible refine wp_isnn ?_ | with_reducible refine wp_isb ?_ | with_reducible refine wp_isnb ?_ | with_reducible refine wp_int ?_ | with_reducible refine wp_min ?_ | with_reducible refine wp_max ?_ | with_reducible refine wp_lent ?_ | ((with_reducible refine wp_ixt (w := ?_) ?_ ?_); rotate_left; · rfl) | with_reducible refine wp_cutT ?_ | with_reducible refine wp_tupZ ?_ | with_reducible refine If.n ?_ | ((with_reducible refine If_tr ?_ ?_); · rfl) | ((with_reducible refine If_fa ?_ ?_); · rfl) | with_reducible refine ex_bl ?_ | with_reducible refine ex_int ?_ | with_reducible refine ex_int2 ?_ | with_reducible refine inW_mk ?_ | ((with_reducible refine ex_some (y := ?_) ?_ ?_); rotate_left; · rfl) | ((with_reducible refine and_len ?_ ?_); · rfl) | ((with_reducible refine and_hty ?_ ?_); · rfl) | ((with_reducible refine and_le ?_ ?_); · exact Nat.le_of_ble_eq_true rfl) | ((with_reducible refine and_bd ?_ ?_); · first | decide | omega)))
        refine (tried_eq wf ⟨hl1, hl2⟩ hS e _ _).imp ?_
        rintro tr s ⟨rfl, htr⟩
        rcases htr with ⟨u, rfl, hu⟩ | ⟨rfl, _⟩
        · exact absurd hn (hen u hu)
        · (repeat (first | with_reducible refine we_c ?_ | ((with_reducible refine we_v (w := ?_) ?_ ?_); rotate_left; · rfl) | with_reducible refine we_b ?_ | with_reducible refine we_a ?_ | with_reducible refine wa_c ?_ | with_reducible refine wa_n ?_ | with_reducible refine we_mt ?_ | with_reducible refine we_call ?_ | with_reducible refine we_tup ?_ | with_reducible refine we_lstW ?_ | with_reducible refine we_u ?_ | with_reducible refine we_not ?_ | with_reducible refine we_if ?_ | with_reducible refine we_and ?_ | with_reducible refine we_or ?_ | with_reducible refine we_cut ?_ | with_reducible refine wo_n ?_ | with_reducible refine wo_s ?_ | with_reducible refine wb_b ?_ | with_reducible refine wb_v ?_ | with_reducible refine wb_o ?_ | with_reducible refine wb_and ?_ | with_reducible refine wb_or ?_ | with_reducible refine wb_not ?_ | with_reducible refine wb_yes ?_ | with_reducible refine we_ch ?_ | with_reducible refine wx_n ?_ | with_reducible refine wx_c ?_ | with_reducible refine ss_n ?_ | with_reducible refine ss_c ?_ | with_reducible refine ss_set ?_ | with_reducible refine ss_ex ?_ | with_reducible refine ss_ret ?_ | with_reducible refine ss_retN ?_ | with_reducible refine ss_bk ?_ | with_reducible refine ss_ct ?_ | with_reducible refine ss_if ?_ | with_reducible refine ss_asg ?_ | with_reducible refine ss_put ?_ | with_reducible refine ss_for ?_ | with_reducible refine wi_a ?_ | with_reducible refine wi_r1 ?_ | with_reducible refine wi_r2 ?_ | with_reducible refine wp_ai ?_ | with_reducible refine wp_si ?_ | ((with_reducible refine wp_ml ?_ ?_); · decide) | ((with_reducible refine wp_mr ?_ ?_); · decide) | ((with_reducible refine wp_md ?_ ?_); · decide) | with_reducible refine wp_ng ?_ | with_reducible refine wp_eqi ?_ | with_reducible refine wp_eqs ?_ | with_reducible refine wp_eqb ?_ | with_reducible refine wp_nei ?_ | with_reducible refine wp_nes ?_ | with_reducible refine wp_neb ?_ | with_reducible refine wp_lt ?_ | with_reducible refine wp_le ?_ | with_reducible refine wp_gt ?_ | with_reducible refine wp_ge ?_ | with_reducible refine wp_isn ?_ | with_reducible refine wp_isnn ?_ | with_reducible refine wp_isb ?_ | with_reducible refine wp_isnb ?_ | with_reducible refine wp_int ?_ | with_reducible refine wp_min ?_ | with_reducible refine wp_max ?_ | with_reducible refine wp_lent ?_ | ((with_reducible refine wp_ixt (w := ?_) ?_ ?_); rotate_left; · rfl) | with_reducible refine wp_cutT ?_ | with_reducible refine wp_tupZ ?_ | with_reducible refine If.n ?_ | ((with_reducible refine If_tr ?_ ?_); · rfl) | ((with_reducible refine If_fa ?_ ?_); · rfl) | with_reducible refine ex_bl ?_ | with_reducible refine ex_int ?_ | with_reducible refine ex_int2 ?_ | with_reducible refine inW_mk ?_ | ((with_reducible refine ex_some (y := ?_) ?_ ?_); rotate_left; · rfl) | ((with_reducible refine and_len ?_ ?_); · rfl) | ((with_reducible refine and_hty ?_ ?_); · rfl) | ((with_reducible refine and_le ?_ ?_); · exact Nat.le_of_ble_eq_true rfl) | ((with_reducible refine and_bd ?_ ?_); · first | decide | omega)))
          exact hd ⟨_, _, _, _, _, _, rfl, W_in.symm⟩
  · rintro fm st ⟨b, M, x2, x3, x4, x5, rfl, rfl⟩
    (repeat (first | with_reducible refine we_c ?_ | ((with_reducible refine we_v (w := ?_) ?_ ?_); rotate_left; · rfl) | with_reducible refine we_b ?_ | with_reducible refine we_a ?_ | with_reducible refine wa_c ?_ | with_reducible refine wa_n ?_ | with_reducible refine we_mt ?_ | with_reducible refine we_call ?_ | with_reducible refine we_tup ?_ | with_reducible refine we_lstW ?_ | with_reducible refine we_u ?_ | with_reducible refine we_not ?_ | with_reducible refine we_if ?_ | with_reducible refine we_and ?_ | with_reducible refine we_or ?_ | with_reducible refine we_cut ?_ | with_reducible refine wo_n ?_ | with_reducible refine wo_s ?_ | with_reducible refine wb_b ?_ | with_reducible refine wb_v ?_ | with_reducible refine wb_o ?_ | with_reducible refine wb_and ?_ | with_reducible refine wb_or ?_ | with_reducible refine wb_not ?_ | with_reducible refine wb_yes ?_ | with_reducible refine we_ch ?_ | with_reducible refine wx_n ?_ | with_reducible refine wx_c ?_ | with_reducible refine ss_n ?_ | with_reducible refine ss_c ?_ | with_reducible refine ss_set ?_ | with_reducible refine ss_ex ?_ | with_reducible refine ss_ret ?_ | with_reducible refine ss_retN ?_ | with_reducible refine ss_bk ?_ | with_reducible refine ss_ct ?_ | with_reducible refine ss_if ?_ | with_reducible refine ss_asg ?_ | with_reducible refine ss_put ?_ | with_reducible refine ss_for ?_ | with_reducible refine wi_a ?_ | with_reducible refine wi_r1 ?_ | with_reducible refine wi_r2 ?_ | with_reducible refine wp_ai ?_ | with_reducible refine wp_si ?_ | ((with_reducible refine wp_ml ?_ ?_); · decide) | ((with_reducible refine wp_mr ?_ ?_); · decide) | ((with_reducible refine wp_md ?_ ?_); · decide) | with_reducible refine wp_ng ?_ | with_reducible refine wp_eqi ?_ | with_reducible refine wp_eqs ?_ | with_reducible refine wp_eqb ?_ | with_reducible refine wp_nei ?_ | with_reducible refine wp_nes ?_ | with_reducible refine wp_neb ?_ | with_reducible refine wp_lt ?_ | with_reducible refine wp_le ?_ | with_reducible refine wp_gt ?_ | with_reducible refine wp_ge ?_ | with_reducible refine wp_isn ?_ | with_reducible refine wp_isnn ?_ | with_reducible refine wp_isb ?_ | with_reducible refine wp_isnb ?_ | with_reducible refine wp_int ?_ | with_reducible refine wp_min ?_ | with_reducible refine wp_max ?_ | with_reducible refine wp_lent ?_ | ((with_reducible refine wp_ixt (w := ?_) ?_ ?_); rotate_left; · rfl) | with_reducible refine wp_cutT ?_ | with_reducible refine wp_tupZ ?_ | with_reducible refine If.n ?_ | ((with_reducible refine If_tr ?_ ?_); · rfl) | ((with_reducible refine If_fa ?_ ?_); · rfl) | with_reducible refine ex_bl ?_ | with_reducible refine ex_int ?_ | with_reducible refine ex_int2 ?_ | with_reducible refine inW_mk ?_ | ((with_reducible refine ex_some (y := ?_) ?_ ?_); rotate_left; · rfl) | ((with_reducible refine and_len ?_ ?_); · rfl) | ((with_reducible refine and_hty ?_ ?_); · rfl) | ((with_reducible refine and_le ?_ ?_); · exact Nat.le_of_ble_eq_true rfl) | ((with_reducible refine and_bd ?_ ?_); · first | decide | omega)))
    exact fin1
end L_k05
open PySem PySem.W PyProof.Rows
set_option maxHeartbeats 0 in
theorem PySem.Challenge.cw_threescribes_k05_first_texts_holds : PySem.Challenge.rw_threescribes_k05_first_texts.Holds := by
  w_on; o_law; k_head; (case hw => w_witness2)
  k_fill
  refine L2.walk_of (l := PySem.Challenge.rw_threescribes_k05_first_texts) (n := 63) (k := 4) (x := "script") (CX := fun _ => L2.CX0) (sp := fun w => T3.spD _ L_k05.m_law 1) rfl (by decide) rfl ⟨rfl, by decide, by decide⟩ (fun w h Y => PySem.W.kIn_of Y) ?F (fun w H a ns hl hO hS => let ⟨s', e⟩ := L_k05.law_true ns hl; T3.end_of hO hS e) (fun _ _ _ _ _ h => h)
  case F =>
    intro w mg fa h KX G hmg
    refine' L_k05.all_mk KX G hmg ?a0 ?l0 ?c0 ?k0 ?a1 ?l1 ?c1 ?k1 ?a2 ?l2 ?c2 ?k2 ?a3 ?l3 ?c3 ?k3 ?a4 ?l4 ?c4 ?k4 ?a5 ?l5 ?c5 ?k5 ?a6 ?l6 ?c6 ?k6 ?a7 ?l7 ?c7 ?k7 ?a8 ?l8 ?c8 ?k8 ?a9 ?l9 ?c9 ?k9 ?z0 ?z1 ?z2 ?z3 ?z4 ?z5
    (case a0 => k_is)
    (case l0 => k_is)
    (case c0 => k_is)
    (case k0 => k_is)
    (case a1 => k_is)
    (case l1 => k_is)
    (case c1 => k_is)
    (case k1 => k_is)
    (case a2 => k_is)
    (case l2 => k_is)
    (case c2 => k_is)
    (case k2 => k_is)
    (case a3 => k_is)
    (case l3 => k_is)
    (case c3 => k_is)
    (case k3 => k_is)
    (case a4 => k_is)
    (case l4 => k_is)
    (case c4 => k_is)
    (case k4 => k_is)
    (case a5 => k_is)
    (case l5 => k_is)
    (case c5 => k_is)
    (case k5 => k_is)
    (case a6 => k_is)
    (case l6 => k_is)
    (case c6 => k_is)
    (case k6 => k_is)
    (case a7 => k_is)
    (case l7 => k_is)
    (case c7 => k_is)
    (case k7 => k_is)
    (case a8 => k_is)
    (case l8 => k_is)
    (case c8 => k_is)
    (case k8 => k_is)
    (case a9 => k_is)
    (case l9 => k_is)
    (case c9 => k_is)
    (case k9 => k_is)
    (case z0 => k_is)
    (case z1 => k_is)
    (case z2 => k_is)
    (case z3 => k_is)
    (case z4 => k_is)
    (case z5 => k_is)
