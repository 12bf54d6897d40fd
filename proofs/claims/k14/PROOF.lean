import PyProof.Rows.All
import Wide.All
import OpenK.AllK
import Wide.FinOn
import HandS.ForMost
import HandS.IsInst
import HandS.StrMore
import HandS.Style
import HandS.Flow
import HandS.TupAny
import KE.KNest
import HandS.Wide
import HandS.TupMul
import HandS.Zip
import HandS.Conv
import PyProof.ListStr
import HandS.Words
import HandS.Ends
import HandS.Deep
import HandS.Rev
import KE.GoesMore
import HandS.More
import HandS.SortInts
import HandS.SetFor
import HandS.Strs
import HandS.SetTxt0
import PyProof.StrWalks
import HandS.GenList
import HandS.EndTab
import HandS.AnyAll
import PyProof.StrLawsIn
import PySem.Challenge.RW_threescribes_k14_each_condition_of_box_m
set_option Elab.async false
set_option linter.all false
set_option maxRecDepth 100000
/-! T3: plain values Va over the hand layer: what a def computes, as a total function over plain values and a store of the lists and dicts that may change -/
namespace T3
open PySem PySem.Spec PyProof.Rows L2

/-- plain values; ref n: the n-th thing of the store -/
inductive Va where
  | non | bl (b : Bool) | int (i : Int) | str (s : List Nat) | tup (ws : List Va) | ktp (ws : List Va) | ref (n : Nat) | ty (n : String)
/-- things of the store -/
inductive Ob where
  | lst (ws : List Va)
  | rol (ws : List Va)
  | dic (kvs : List (Key × Va))
  | dit (kvs : List (List Key × Va))
abbrev Fm := List (Option Va)
abbrev Sto := List Ob
def Ob.mut : Ob → Bool
  | .rol _ => false
  | _ => true

mutual
def RepV (K : PySem.W.Frag) (ρ : List Addr) (H : Hp) : Va → V → Prop
  | .non, v => v = .non
  | .bl b, v => v = .bl b
  | .int i, v => v = .int i
  | .str s, v => v = .str ⟨s.toArray⟩
  | .ty n, v => v = .ty n
  | .ref n, v => ∃ a, v = .ref a ∧ ρ[n]? = some a
  | .tup ws, v => ∃ a vs, v = .ref a ∧ H a = some (.tup vs) ∧ RepL K ρ H ws vs
  | .ktp ws, v => ∃ a vs, v = .ref a ∧ SqT K (fun _ => none) a vs ∧ RepL K ρ H ws vs
def RepL (K : PySem.W.Frag) (ρ : List Addr) (H : Hp) : List Va → List V → Prop
  | [], vs => vs = []
  | w :: ws, vs => ∃ v r, vs = v :: r ∧ RepV K ρ H w v ∧ RepL K ρ H ws r
end

/-- a list that is only read -/
def Ro (K : PySem.W.Frag) (H : Hp) (a : Addr) (vs : List V) : Prop := (∃ o, H a = some (.frz o (.lst vs))) ∨ SqL K (fun _ => none) a vs
def RepO (K : PySem.W.Frag) (ρ : List Addr) (H : Hp) (a : Addr) : Ob → Prop
  | .lst ws => ∃ vs, H a = some (.lst vs) ∧ RepL K ρ H ws vs
  | .rol ws => ∃ vs, Ro K H a vs ∧ RepL K ρ H ws vs
  | .dic kvs => ∃ ks : List (Key × V), H a = some (.dK ks) ∧ ks.map (·.1) = kvs.map (·.1) ∧ RepL K ρ H (kvs.map (·.2)) (ks.map (·.2))
  | .dit kvs => ∃ ks : List (List Key × V), H a = some (.dT ks) ∧ ks.map (·.1) = kvs.map (·.1) ∧ RepL K ρ H (kvs.map (·.2)) (ks.map (·.2))

/-- the tuples stay -/
def Kp (_ : PySem.W.Frag) (H H' : Hp) : Prop := ∀ a xs, H a = some (.tup xs) → H' a = some (.tup xs)
theorem Kp.refl {K : PySem.W.Frag} {H : Hp} : Kp K H H := fun _ _ h => h
theorem Kp.trans {K : PySem.W.Frag} {H H1 H2 : Hp} (a : Kp K H H1) (b : Kp K H1 H2) : Kp K H H2 := fun x y h => b x y (a x y h)
theorem Kp.upd {K : PySem.W.Frag} {H : Hp} {p : Addr} {o : HO} (h1 : ∀ xs, H p ≠ some (.tup xs)) : Kp K H (upd H p o) := by
  intro a xs h
  rw [upd_ne (fun e => h1 xs (by rw [← e]; exact h))]; exact h
theorem Kp.new {K : PySem.W.Frag} {H : Hp} {p : Addr} {o : HO} (h : H p = none) : Kp K H (L2.upd H p o) :=
  Kp.upd (fun xs => by rw [h]; simp)

section
variable {K : PySem.W.Frag} {ρ ρ' : List Addr} {H H' : Hp}
theorem pre_get {α : Type} {l l' : List α} (h : l <+: l') {i : Nat} {a : α} (e : l[i]? = some a) : l'[i]? = some a := by
  obtain ⟨t, rfl⟩ := h
  obtain ⟨hi, _⟩ := List.getElem?_eq_some_iff.mp e
  rw [List.getElem?_append_left hi]; exact e
mutual
theorem RepV.mono (hp : ρ <+: ρ') (hk : Kp K H H') : ∀ (w : Va) (v : V), RepV K ρ H w v → RepV K ρ' H' w v
  | .non, _, h => by simp only [RepV] at h ⊢; exact h
  | .bl _, _, h => by simp only [RepV] at h ⊢; exact h
  | .int _, _, h => by simp only [RepV] at h ⊢; exact h
  | .str _, _, h => by simp only [RepV] at h ⊢; exact h
  | .ty _, _, h => by simp only [RepV] at h ⊢; exact h
  | .ref n, _, h => by
    simp only [RepV] at h ⊢
    obtain ⟨a, e, q⟩ := h
    exact ⟨a, e, pre_get hp q⟩
  | .tup ws, _, h => by
    simp only [RepV] at h ⊢
    obtain ⟨a, vs, e, q, r⟩ := h
    exact ⟨a, vs, e, hk _ _ q, RepL.mono hp hk ws vs r⟩
  | .ktp ws, _, h => by
    simp only [RepV] at h ⊢
    obtain ⟨a, vs, e, q, r⟩ := h
    exact ⟨a, vs, e, q, RepL.mono hp hk ws vs r⟩
theorem RepL.mono (hp : ρ <+: ρ') (hk : Kp K H H') : ∀ (ws : List Va) (vs : List V), RepL K ρ H ws vs → RepL K ρ' H' ws vs
  | [], _, h => by simp only [RepL] at h ⊢; exact h
  | w :: ws, _, h => by
    simp only [RepL] at h ⊢
    obtain ⟨v, r, e, q, z⟩ := h
    exact ⟨v, r, e, RepV.mono hp hk w v q, RepL.mono hp hk ws r z⟩
end
mutual
/-- no ref at or above n -/
def Va.und (n : Nat) : Va → Bool
  | .ref m => decide (m < n)
  | .tup ws => Va.undL n ws
  | .ktp ws => Va.undL n ws
  | _ => true
def Va.undL (n : Nat) : List Va → Bool
  | [] => true
  | w :: ws => w.und n && Va.undL n ws
end
def Ob.und (n : Nat) : Ob → Bool
  | .lst ws => Va.undL n ws
  | .rol ws => Va.undL n ws
  | .dic kvs => Va.undL n (kvs.map (·.2))
  | .dit kvs => Va.undL n (kvs.map (·.2))
mutual
theorem RepV.cut {n : Nat} : ∀ (w : Va) (v : V), w.und n = true → RepV K ρ H w v → RepV K (ρ.take n) H w v
  | .non, _, _, h => by simp only [RepV] at h ⊢; exact h
  | .bl _, _, _, h => by simp only [RepV] at h ⊢; exact h
  | .int _, _, _, h => by simp only [RepV] at h ⊢; exact h
  | .str _, _, _, h => by simp only [RepV] at h ⊢; exact h
  | .ty _, _, _, h => by simp only [RepV] at h ⊢; exact h
  | .ref m, _, b, h => by
    simp only [RepV] at h ⊢
    obtain ⟨a, e, q⟩ := h
    refine ⟨a, e, ?_⟩
    have : m < n := by simpa [Va.und] using b
    rw [List.getElem?_take]; simp [this, q]
  | .tup ws, _, b, h => by
    simp only [RepV] at h ⊢
    obtain ⟨a, vs, e, q, r⟩ := h
    exact ⟨a, vs, e, q, RepL.cut ws vs (by simpa [Va.und] using b) r⟩
  | .ktp ws, _, b, h => by
    simp only [RepV] at h ⊢
    obtain ⟨a, vs, e, q, r⟩ := h
    exact ⟨a, vs, e, q, RepL.cut ws vs (by simpa [Va.und] using b) r⟩
theorem RepL.cut {n : Nat} : ∀ (ws : List Va) (vs : List V), Va.undL n ws = true → RepL K ρ H ws vs → RepL K (ρ.take n) H ws vs
  | [], _, _, h => by simp only [RepL] at h ⊢; exact h
  | w :: ws, _, b, h => by
    simp only [RepL] at h ⊢
    obtain ⟨v, r, e, q, z⟩ := h
    have b' : w.und n = true ∧ Va.undL n ws = true := by simpa [Va.undL] using b
    exact ⟨v, r, e, RepV.cut w v b'.1 q, RepL.cut ws r b'.2 z⟩
end
mutual
theorem RepV.has : ∀ (w : Va) (v : V), RepV K ρ H w v → w.und ρ.length = true
  | .non, _, _ => rfl
  | .bl _, _, _ => rfl
  | .int _, _, _ => rfl
  | .str _, _, _ => rfl
  | .ty _, _, _ => rfl
  | .ref m, _, h => by
    simp only [RepV] at h
    obtain ⟨a, e, q⟩ := h
    simp only [Va.und, decide_eq_true_eq]
    exact (List.getElem?_eq_some_iff.mp q).1
  | .tup ws, _, h => by
    simp only [RepV] at h
    obtain ⟨a, vs, e, q, r⟩ := h
    simp only [Va.und]
    exact RepL.has ws vs r
  | .ktp ws, _, h => by
    simp only [RepV] at h
    obtain ⟨a, vs, e, q, r⟩ := h
    simp only [Va.und]
    exact RepL.has ws vs r
theorem RepL.has : ∀ (ws : List Va) (vs : List V), RepL K ρ H ws vs → Va.undL ρ.length ws = true
  | [], _, _ => rfl
  | w :: ws, _, h => by
    simp only [RepL] at h
    obtain ⟨v, r, e, q, z⟩ := h
    simp only [Va.undL, Bool.and_eq_true]
    exact ⟨RepV.has w v q, RepL.has ws r z⟩
end
theorem RepL.length : ∀ {ws : List Va} {vs : List V}, RepL K ρ H ws vs → ws.length = vs.length
  | [], _, h => by simp only [RepL] at h; simp [h]
  | w :: ws, _, h => by
    simp only [RepL] at h
    obtain ⟨v, r, rfl, q, z⟩ := h
    simp [RepL.length z]
theorem RepL.get : ∀ {ws : List Va} {vs : List V} {i : Nat} {w : Va}, RepL K ρ H ws vs → ws[i]? = some w → ∃ v, vs[i]? = some v ∧ RepV K ρ H w v
  | [], _, _, _, h, e => by simp at e
  | w :: ws, _, 0, _, h, e => by
    simp only [RepL] at h
    obtain ⟨v, r, rfl, q, z⟩ := h
    simp at e; subst e
    exact ⟨v, rfl, q⟩
  | w :: ws, _, i + 1, _, h, e => by
    simp only [RepL] at h
    obtain ⟨v, r, rfl, q, z⟩ := h
    obtain ⟨v', e', q'⟩ := RepL.get (i := i) z (by simpa using e)
    exact ⟨v', by simpa using e', q'⟩
theorem RepL.append : ∀ {ws xs : List Va} {vs us : List V}, RepL K ρ H ws vs → RepL K ρ H xs us → RepL K ρ H (ws ++ xs) (vs ++ us)
  | [], _, _, _, h, g => by simp only [RepL] at h; subst h; exact g
  | w :: ws, _, _, _, h, g => by
    simp only [RepL] at h
    obtain ⟨v, r, rfl, q, z⟩ := h
    simp only [List.cons_append, RepL]
    exact ⟨v, _, rfl, q, RepL.append z g⟩
theorem RepL.one {w : Va} {v : V} (h : RepV K ρ H w v) : RepL K ρ H [w] [v] := by
  simp only [RepL]; exact ⟨v, [], rfl, h, rfl⟩
theorem RepL.nil : RepL K ρ H [] [] := by simp only [RepL]
theorem RepL.cons {w : Va} {v : V} {ws : List Va} {vs : List V} (h : RepV K ρ H w v) (t : RepL K ρ H ws vs) : RepL K ρ H (w :: ws) (v :: vs) := by
  simp only [RepL]; exact ⟨v, vs, rfl, h, t⟩
theorem RepL.set : ∀ {ws : List Va} {vs : List V} {i : Nat} {w : Va} {v : V}, RepL K ρ H ws vs → RepV K ρ H w v → RepL K ρ H (ws.set i w) (vs.set i v)
  | [], _, _, _, _, h, _ => by simp only [RepL] at h; subst h; exact RepL.nil
  | w :: ws, _, 0, _, _, h, g => by
    simp only [RepL] at h
    obtain ⟨v, r, rfl, q, z⟩ := h
    exact RepL.cons g z
  | w :: ws, _, i + 1, _, _, h, g => by
    simp only [RepL] at h
    obtain ⟨v, r, rfl, q, z⟩ := h
    exact RepL.cons q (RepL.set z g)
theorem RepL.drop : ∀ {ws : List Va} {vs : List V} (n : Nat), RepL K ρ H ws vs → RepL K ρ H (ws.drop n) (vs.drop n)
  | _, _, 0, h => h
  | [], _, n + 1, h => by simp only [RepL] at h; subst h; exact RepL.nil
  | w :: ws, _, n + 1, h => by
    simp only [RepL] at h
    obtain ⟨v, r, rfl, q, z⟩ := h
    exact RepL.drop n z
theorem RepL.take : ∀ {ws : List Va} {vs : List V} (n : Nat), RepL K ρ H ws vs → RepL K ρ H (ws.take n) (vs.take n)
  | _, _, 0, h => by simp only [List.take_zero]; exact RepL.nil
  | [], _, n + 1, h => by simp only [RepL] at h; subst h; exact RepL.nil
  | w :: ws, _, n + 1, h => by
    simp only [RepL] at h
    obtain ⟨v, r, rfl, q, z⟩ := h
    exact RepL.cons q (RepL.take n z)
theorem RepL.reverse : ∀ {ws : List Va} {vs : List V}, RepL K ρ H ws vs → RepL K ρ H ws.reverse vs.reverse
  | [], _, h => by simp only [RepL] at h; subst h; exact RepL.nil
  | w :: ws, _, h => by
    simp only [RepL] at h
    obtain ⟨v, r, rfl, q, z⟩ := h
    rw [List.reverse_cons, List.reverse_cons]
    exact RepL.append (RepL.reverse z) (RepL.one q)
theorem RepL.dropLast {ws : List Va} {vs : List V} (h : RepL K ρ H ws vs) : RepL K ρ H ws.dropLast vs.dropLast := by
  rw [List.dropLast_eq_take, List.dropLast_eq_take, h.length]; exact h.take _
theorem RepL.ints : ∀ {ns : List Int} {vs : List V}, RepL K ρ H (ns.map Va.int) vs → vs = ns.map V.int
  | [], _, h => by simp only [List.map_nil, RepL] at h; simp [h]
  | n :: ns, _, h => by
    simp only [List.map_cons, RepL, RepV] at h
    obtain ⟨v, r, rfl, rfl, z⟩ := h
    rw [RepL.ints z]; rfl
theorem RepL.of_ints : ∀ (ns : List Int), RepL K ρ H (ns.map Va.int) (ns.map V.int)
  | [] => RepL.nil
  | n :: ns => RepL.cons (by simp only [RepV]) (RepL.of_ints ns)
end

/-- defs whose code objects' tables may grow while the program runs -/
def gxDefs : List Str := ["is_string", "is_goals", "_is_state", "is_head", "is_boxes", "_is_row", "_is_news", "_is_entry", "_once"]
def IsTab (K : PySem.W.Frag) (P : Addr) : Prop := ∃ x c, x ∈ gxDefs ∧ PySem.W.tabIn K x = some (c, P)
def TabH (H : Hp) (P : Addr) : Prop := ∃ ps : Array Value, H P = some (.tbl ps) ∧ TriplesOk ps.toList
/-- the store is held -/
structure SRel (K : PySem.W.Frag) (ρ : List Addr) (st : Sto) (H : Hp) : Prop where
  rl : ρ.length = st.length
  sto : ∀ (i : Nat) o, st[i]? = some o → ∃ a, ρ[i]? = some a ∧ RepO K ρ H a o
  inj : ∀ (i j : Nat) (a : Addr) o o', ρ[i]? = some a → ρ[j]? = some a → st[i]? = some o → st[j]? = some o' → o.mut = true → o'.mut = true → i = j
  tb : ∀ P, IsTab K P → TabH H P
def ERel (K : PySem.W.Frag) (ρ : List Addr) (fm : Fm) (σ : L2.St) (H : Hp) : Prop :=
  fm.length = σ.length ∧ ∀ (i : Nat) w, fm[i]? = some (some w) → ∃ v, σ[i]? = some (some v) ∧ RepV K ρ H w v
structure Rel (K : PySem.W.Frag) (ρ : List Addr) (fm : Fm) (st : Sto) (σ : L2.St) (H : Hp) : Prop where
  s : SRel K ρ st H
  e : ERel K ρ fm σ H
section
variable {K : PySem.W.Frag} {ρ ρ' : List Addr} {H H' : Hp} {st : Sto} {fm : Fm} {σ : L2.St}
theorem ERel.mono (h : ERel K ρ fm σ H) (hp : ρ <+: ρ') (hk : Kp K H H') : ERel K ρ' fm σ H' :=
  ⟨h.1, fun i w e => let ⟨v, a, b⟩ := h.2 i w e; ⟨v, a, RepV.mono hp hk w v b⟩⟩
theorem ERel.set (h : ERel K ρ fm σ H) {i : Nat} {w : Va} {v : V} (r : RepV K ρ H w v) : ERel K ρ (fm.set i (some w)) (σ.set i (some v)) H := by
  refine ⟨by rw [List.length_set, List.length_set]; exact h.1, fun j x e => ?_⟩
  by_cases hj : i = j
  · subst hj
    by_cases hl : i < fm.length
    · rw [List.getElem?_set_self hl] at e
      cases e
      exact ⟨v, List.getElem?_set_self (by rw [← h.1]; exact hl), r⟩
    · rw [List.getElem?_eq_none_iff.mpr (by rw [List.length_set]; omega)] at e; cases e
  · rw [List.getElem?_set_ne hj] at e ⊢
    exact h.2 j x e
theorem Ro.keep {a : Addr} {vs : List V} (h : Ro K H a vs) (hs : ∀ o, H a = some (.frz o (.lst vs)) → H' a = some (.frz o (.lst vs))) : Ro K H' a vs := by
  rcases h with ⟨o, h⟩ | h
  · exact .inl ⟨o, hs o h⟩
  · exact .inr h
theorem RepO.mono {a : Addr} {o : Ob} (h : RepO K ρ H a o) (hp : ρ <+: ρ') (hk : Kp K H H') (hs : ∀ u, H a = some u → H' a = some u) : RepO K ρ' H' a o := by
  cases o with
  | lst ws => obtain ⟨vs, e, r⟩ := h; exact ⟨vs, hs _ e, RepL.mono hp hk _ _ r⟩
  | rol ws => obtain ⟨vs, e, r⟩ := h; exact ⟨vs, e.keep fun o q => hs _ q, RepL.mono hp hk _ _ r⟩
  | dic kvs => obtain ⟨ks, e, m, r⟩ := h; exact ⟨ks, hs _ e, m, RepL.mono hp hk _ _ r⟩
  | dit kvs => obtain ⟨ks, e, m, r⟩ := h; exact ⟨ks, hs _ e, m, RepL.mono hp hk _ _ r⟩
theorem RepO.mutH {a : Addr} {o : Ob} (h : RepO K ρ H a o) (m : o.mut = true) : ∃ u, H a = some u ∧ Mut (some u) := by
  cases o with
  | lst ws => obtain ⟨vs, e, r⟩ := h; exact ⟨_, e, trivial⟩
  | rol ws => cases m
  | dic kvs => obtain ⟨ks, e, _, r⟩ := h; exact ⟨_, e, trivial⟩
  | dit kvs => obtain ⟨ks, e, _, r⟩ := h; exact ⟨_, e, trivial⟩
theorem SRel.same (h : SRel K ρ st H) (hs : Same H H') (hk : Kp K H H') : SRel K ρ st H' :=
  ⟨h.rl, fun i o e => let ⟨a, b, c⟩ := h.sto i o e; ⟨a, b, c.mono (List.prefix_refl _) hk fun u q => hs _ _ q⟩, h.inj, fun P hP => let ⟨ps, e, t⟩ := h.tb P hP; ⟨ps, hs _ _ e, t⟩⟩
theorem same_new {p : Addr} {o : HO} (h : H p = none) : Same H (upd H p o) := fun b x e => by
  rw [upd_ne (ne_of_none e h)]; exact e
/-- a new thing -/
theorem SRel.push (h : SRel K ρ st H) {p : Addr} {o : Ob} {ho : HO} (hn : H p = none) (ho' : RepO K (ρ ++ [p]) (upd H p ho) p o) (hx : upd H p ho p = some ho := upd_same) : SRel K (ρ ++ [p]) (st ++ [o]) (upd H p ho) := by
  have hk : Kp K H (upd H p ho) := Kp.new hn
  have hs := same_new (o := ho) hn
  have old : ∀ (i : Nat) o1, st[i]? = some o1 → ∃ a, ρ[i]? = some a ∧ RepO K ρ H a o1 := h.sto
  refine ⟨by simp [h.rl], fun i o1 e => ?_, fun i j a o1 o2 e1 e2 e3 e4 m1 m2 => ?_, fun P hP => let ⟨ps, e, t⟩ := h.tb P hP; ⟨ps, hs _ _ e, t⟩⟩
  · by_cases hi : i < st.length
    · rw [List.getElem?_append_left hi] at e
      obtain ⟨a, b, c⟩ := old i o1 e
      exact ⟨a, pre_get (List.prefix_append _ _) b, c.mono (List.prefix_append _ _) hk fun u q => hs _ _ q⟩
    · have hl : i < (st ++ [o]).length := (List.getElem?_eq_some_iff.mp e).1
      have : i = st.length := by simp at hl; omega
      subst this
      rw [List.getElem?_append_right (Nat.le_refl _)] at e
      simp at e; subst e
      exact ⟨p, by rw [← h.rl, List.getElem?_append_right (Nat.le_refl _)]; simp, ho'⟩
  · have key : ∀ (i : Nat) o1, (st ++ [o])[i]? = some o1 → (ρ ++ [p])[i]? = some a → o1.mut = true → (i < st.length ∧ st[i]? = some o1 ∧ ρ[i]? = some a ∧ a ≠ p) ∨ (i = st.length ∧ a = p) := by
      intro i o1 e e' m
      by_cases hi : i < st.length
      · rw [List.getElem?_append_left hi] at e
        rw [List.getElem?_append_left (by rw [h.rl]; exact hi)] at e'
        refine .inl ⟨hi, e, e', ?_⟩
        obtain ⟨b, eb, r⟩ := old i o1 e
        rw [e'] at eb; cases eb
        obtain ⟨u, hu, _⟩ := r.mutH m
        exact ne_of_none hu hn
      · have hl : i < (st ++ [o]).length := (List.getElem?_eq_some_iff.mp e).1
        have : i = st.length := by simp at hl; omega
        subst this
        rw [← h.rl, List.getElem?_append_right (Nat.le_refl _)] at e'
        simp at e'
        exact .inr ⟨rfl, e'.symm⟩
    rcases key i o1 e3 e1 m1 with ⟨a1, a2, a3, a4⟩ | ⟨a1, a2⟩ <;> rcases key j o2 e4 e2 m2 with ⟨b1, b2, b3, b4⟩ | ⟨b1, b2⟩
    · exact h.inj i j a o1 o2 a3 b3 a2 b2 m1 m2
    · exact absurd b2 a4
    · exact absurd a2 b4
    · omega
/-- a thing is changed -/
theorem SRel.write (h : SRel K ρ st H) {i : Nat} {o o' : Ob} {a : Addr} {ho : HO} (hi : st[i]? = some o) (ha : ρ[i]? = some a) (m : o.mut = true) (m' : o'.mut = true) (ho' : RepO K ρ (upd H a ho) a o') :
    SRel K ρ (st.set i o') (upd H a ho) ∧ Kp K H (upd H a ho) := by
  have old := h.sto
  obtain ⟨b, eb, r0⟩ := old i o hi
  rw [ha] at eb; cases eb
  obtain ⟨u0, hu0, hm0⟩ := r0.mutH m
  have hk : Kp K H (upd H a ho) := by
    refine Kp.upd (fun xs q => ?_)
    rw [q] at hu0; cases hu0; exact hm0
  have hl : i < st.length := (List.getElem?_eq_some_iff.mp hi).1
  refine ⟨⟨by rw [List.length_set]; exact h.rl, fun j o1 e => ?_, fun j k b o1 o2 e1 e2 e3 e4 m1 m2 => ?_, fun P hP => let ⟨ps, e, t⟩ := h.tb P hP; ⟨ps, ?_, t⟩⟩, hk⟩
  rotate_left 2
  · rw [upd_ne (fun z => ?_)]
    · exact e
    · rw [z, hu0] at e; cases e; exact hm0
  · by_cases hj : i = j
    · subst hj
      rw [List.getElem?_set_self hl] at e
      cases e
      exact ⟨a, ha, ho'⟩
    · rw [List.getElem?_set_ne hj] at e
      obtain ⟨b, eb, r⟩ := old j o1 e
      refine ⟨b, eb, ?_⟩
      by_cases mb : o1.mut = true
      · have hne : b ≠ a := fun z => hj (h.inj i j a o o1 ha (by rw [← z]; exact eb) hi e m mb)
        exact r.mono (List.prefix_refl _) hk fun u q => by rw [upd_ne hne]; exact q
      · cases o1 with
        | rol ws =>
          obtain ⟨vs, e, r⟩ := r
          refine ⟨vs, e.keep fun o q => ?_, RepL.mono (List.prefix_refl _) hk _ _ r⟩
          rw [upd_ne (fun z => ?_)]
          · exact q
          · subst z; rw [q] at hu0; cases hu0; exact hm0
        | lst _ => exact absurd rfl mb
        | dic _ => exact absurd rfl mb
        | dit _ => exact absurd rfl mb
  · have back : ∀ (j : Nat) o1, (st.set i o')[j]? = some o1 → o1.mut = true → ∃ o2, st[j]? = some o2 ∧ o2.mut = true := by
      intro j o1 e m
      by_cases hj : i = j
      · subst hj; exact ⟨o, hi, by assumption⟩
      · rw [List.getElem?_set_ne hj] at e; exact ⟨o1, e, m⟩
    obtain ⟨p1, p2, p3⟩ := back j o1 e3 m1
    obtain ⟨q1, q2, q3⟩ := back k o2 e4 m2
    exact h.inj j k b p1 q1 e1 e2 p2 q2 p3 q3
end

/-! ### what code computes -/
abbrev Ev := Fm → Sto → Option (Va × Sto)
abbrev Evs := Fm → Sto → Option (List Va × Sto)
abbrev Et := Fm → Sto → Option (Bool × Sto)
abbrev Fn := List Va → Sto → Option (Va × Sto)
inductive Fl where
  | nx | rt (w : Va) | bk | ct
abbrev Sm := Fm → Sto → Option (Fl × Fm × Sto)
/-- behind it: the state, a value -/
def Th (K : PySem.W.Frag) (ρ : List Addr) (fm : Fm) (σ : L2.St) (H : Hp) (st' : Sto) (Q : List Addr → Hp → Prop) : Prop :=
  ∀ ρ' H', ρ <+: ρ' → Kp K H H' → Rel K ρ' fm st' σ H' → Q ρ' H'
def tD (K : PySem.W.Frag) (f : Ev) : TE := fun σ H Q => ∃ ρ fm st w st', Rel K ρ fm st σ H ∧ f fm st = some (w, st') ∧ Th K ρ fm σ H st' fun ρ' H' => ∀ v, RepV K ρ' H' w v → Q v H'
def tDs (K : PySem.W.Frag) (f : Evs) : TA := fun σ H Q => ∃ ρ fm st ws st', Rel K ρ fm st σ H ∧ f fm st = some (ws, st') ∧ Th K ρ fm σ H st' fun ρ' H' => ∀ vs, RepL K ρ' H' ws vs → Q vs H'
def tDt (K : PySem.W.Frag) (f : Et) : TT := fun σ H Q => ∃ ρ fm st b st', Rel K ρ fm st σ H ∧ f fm st = some (b, st') ∧ Th K ρ fm σ H st' fun _ H' => Q b H'
/-- what is wanted behind a statement, by the way it ends -/
def Fin (K : PySem.W.Frag) (D : Ends) (ρ : List Addr) (σ : L2.St) (H : Hp) : Fl → Prop
  | .nx => D.nx σ H
  | .rt w => ∀ v, RepV K ρ H w v → D.rt v H
  | .bk => D.bk σ H
  | .ct => D.ct σ H
def tS (K : PySem.W.Frag) (f : Sm) : TS := fun D σ H => ∃ ρ fm st fl fm' st', Rel K ρ fm st σ H ∧ f fm st = some (fl, fm', st') ∧
  ∀ ρ' H' σ', ρ <+: ρ' → Kp K H H' → Rel K ρ' fm' st' σ' H' → Fin K D ρ' σ' H' fl
abbrev DE (X : Cx) (e : Expr) (f : Ev) : Prop := PE X e (tD X.K f)
abbrev DA (X : Cx) (es : List Expr) (f : Evs) : Prop := PA X es (tDs X.K f)
abbrev DT (X : Cx) (e : Expr) (f : Et) : Prop := PT X e (tDt X.K f)
abbrev DW (X : Cx) (e : Expr) (f : Et) : Prop := PW X e (tDt X.K f)
abbrev DS (X : Cx) (s : Stmt) (f : Sm) : Prop := PS X s (tS X.K f)
abbrev DSs (X : Cx) (s : List Stmt) (f : Sm) : Prop := PSs X s (tS X.K f)
theorem PEi {X : Cx} {e : Expr} {t t' : TE} (h : PE X e t) (i : ∀ σ H Q, t' σ H Q → t σ H Q) : PE X e t' := ⟨fun pins s σ H Q I hw => h.run pins s σ H Q I (i _ _ _ hw)⟩
theorem PTi {X : Cx} {e : Expr} {t t' : TT} (h : PT X e t) (i : ∀ σ H Q, t' σ H Q → t σ H Q) : PT X e t' := ⟨fun pins s σ H Q I hw => h.run pins s σ H Q I (i _ _ _ hw)⟩
theorem PWi {X : Cx} {e : Expr} {t t' : TT} (h : PW X e t) (i : ∀ σ H Q, t' σ H Q → t σ H Q) : PW X e t' := ⟨fun wh pins s σ H Q I hw => h.run wh pins s σ H Q I (i _ _ _ hw)⟩
theorem PAi {X : Cx} {es : List Expr} {t t' : TA} (h : PA X es t) (i : ∀ σ H Q, t' σ H Q → t σ H Q) : PA X es t' := ⟨fun pos pins s σ H Q I hw => h.run pos pins s σ H Q I (i _ _ _ hw)⟩
theorem PSi {X : Cx} {e : Stmt} {t t' : TS} (h : PS X e t) (i : ∀ D σ H, t' D σ H → t D σ H) : PS X e t' := ⟨fun pins s σ H D I hw => h.run pins s σ H D I (i _ _ _ hw)⟩
theorem PSsi {X : Cx} {e : List Stmt} {t t' : TS} (h : PSs X e t) (i : ∀ D σ H, t' D σ H → t D σ H) : PSs X e t' := ⟨fun pins s σ H D I hw => h.run pins s σ H D I (i _ _ _ hw)⟩
section
variable {K : PySem.W.Frag} {ρ : List Addr} {fm : Fm} {st st' : Sto} {σ : L2.St} {H : Hp}
theorem Rel.mono {ρ' : List Addr} {H' : Hp} (R : Rel K ρ fm st σ H) (hp : ρ <+: ρ') (hk : Kp K H H') (s : SRel K ρ' st' H') : Rel K ρ' fm st' σ H' := ⟨s, R.e.mono hp hk⟩
/-- nothing changes -/
theorem Th.same {Q : List Addr → Hp → Prop} (T : Th K ρ fm σ H st Q) (R : Rel K ρ fm st σ H) : Q ρ H := T ρ H (List.prefix_refl _) Kp.refl R
/-- a new tuple -/
theorem Th.tup {Q : List Addr → Hp → Prop} {p : Addr} {o : HO} (T : Th K ρ fm σ H st Q) (R : Rel K ρ fm st σ H) (hn : H p = none) : Q ρ (upd H p o) :=
  T ρ _ (List.prefix_refl _) (Kp.new hn) (R.mono (List.prefix_refl _) (Kp.new hn) (R.s.same (same_new hn) (Kp.new hn)))
theorem Th.push {Q : List Addr → Hp → Prop} {p : Addr} {o : Ob} {ho : HO} (T : Th K ρ fm σ H (st ++ [o]) Q) (R : Rel K ρ fm st σ H) (hn : H p = none) (ho' : RepO K (ρ ++ [p]) (upd H p ho) p o) : Q (ρ ++ [p]) (upd H p ho) :=
  T _ _ (List.prefix_append _ _) (Kp.new hn) (R.mono (List.prefix_append _ _) (Kp.new hn) (R.s.push hn ho'))
theorem Th.write {Q : List Addr → Hp → Prop} {i : Nat} {o o' : Ob} {a : Addr} {ho : HO} (T : Th K ρ fm σ H (st.set i o') Q) (R : Rel K ρ fm st σ H) (hi : st[i]? = some o) (ha : ρ[i]? = some a) (m : o.mut = true) (m' : o'.mut = true) (ho' : RepO K ρ (upd H a ho) a o') : Q ρ (upd H a ho) :=
  let ⟨s, hk⟩ := R.s.write hi ha m m' ho'
  T _ _ (List.prefix_refl _) hk (R.mono (List.prefix_refl _) hk s)
theorem Th.then {Q : List Addr → Hp → Prop} {ρ1 : List Addr} {H1 : Hp} (T : Th K ρ fm σ H st' Q) (hp : ρ <+: ρ1) (hk : Kp K H H1) : Th K ρ1 fm σ H1 st' Q :=
  fun ρ2 H2 hp2 hk2 R2 => T ρ2 H2 (List.IsPrefix.trans hp hp2) (hk.trans hk2) R2
theorem ref_last {a : Addr} (h : ρ.length = st.length) : RepV K (ρ ++ [a]) H (.ref st.length) (.ref a) := by
  simp only [RepV]
  exact ⟨a, rfl, by rw [← h, List.getElem?_append_right (Nat.le_refl _)]; simp⟩
end
end T3
/-! T3, second part: the rules: expressions, statements, loops, comprehensions, defs -/
namespace T3
open PySem PySem.Spec PyProof.Rows L2
noncomputable section

/-! ### combinators -/
def eC (w : Va) : Ev := fun _ st => some (w, st)
def eV (i : Nat) : Ev := fun fm st => match fm[i]? with
  | some (some w) => some (w, st)
  | _ => none
def eB (g : Va → Va → Sto → Option (Va × Sto)) (f1 f2 : Ev) : Ev := fun fm st => (f1 fm st).bind fun p => (f2 fm p.2).bind fun q => g p.1 q.1 q.2
def eU (g : Va → Sto → Option (Va × Sto)) (f : Ev) : Ev := fun fm st => (f fm st).bind fun p => g p.1 p.2
def aN : Evs := fun _ st => some ([], st)
def aC (f : Ev) (g : Evs) : Evs := fun fm st => (f fm st).bind fun p => (g fm p.2).bind fun q => some (p.1 :: q.1, q.2)
def eA (g : List Va → Sto → Option (Va × Sto)) (fa : Evs) : Ev := fun fm st => (fa fm st).bind fun p => g p.1 p.2
def eM (g : Va → List Va → Sto → Option (Va × Sto)) (f : Ev) (fa : Evs) : Ev := fun fm st => (f fm st).bind fun p => (fa fm p.2).bind fun q => g p.1 q.1 q.2
/-- a test -/
def bB (g : Va → Va → Sto → Option (Va × Sto)) (f1 f2 : Ev) : Et := fun fm st => (f1 fm st).bind fun p => (f2 fm p.2).bind fun q => (g p.1 q.1 q.2).bind fun r => match r.1 with
  | .bl b => some (b, r.2)
  | _ => none
def truth (w : Va) (st : Sto) : Option Bool := match w with
  | .non => some false
  | .bl b => some b
  | .int i => some (i != 0)
  | .str s => @ite _ (s.length ≤ 16777216) (Classical.propDecidable _) (some (!s.isEmpty)) none
  | .tup ws => some (!ws.isEmpty)
  | .ktp ws => some (!ws.isEmpty)
  | .ref n => match st[n]? with
    | some (.lst ws) => some (!ws.isEmpty)
    | some (.rol ws) => some (!ws.isEmpty)
    | some (.dic kvs) => some (!kvs.isEmpty)
    | _ => none
  | .ty _ => none
def bV (f : Ev) : Et := fun fm st => (f fm st).bind fun p => (truth p.1 p.2).bind fun b => some (b, p.2)
def bAnd (f g : Et) : Et := fun fm st => (f fm st).bind fun p => if p.1 = true then g fm p.2 else some (false, p.2)
def bOr (f g : Et) : Et := fun fm st => (f fm st).bind fun p => if p.1 = true then some (true, p.2) else g fm p.2
def bNot (f : Et) : Et := fun fm st => (f fm st).bind fun p => some (!p.1, p.2)
def eAnd (f g : Ev) : Ev := fun fm st => (f fm st).bind fun p => match p.1 with
  | .bl true => g fm p.2
  | .bl false => some (.bl false, p.2)
  | _ => none
def eOr (f g : Ev) : Ev := fun fm st => (f fm st).bind fun p => match p.1 with
  | .bl false => g fm p.2
  | .bl true => some (.bl true, p.2)
  | _ => none
def eNot (f : Ev) : Ev := fun fm st => (f fm st).bind fun p => match p.1 with
  | .bl b => some (.bl (!b), p.2)
  | _ => none
def eIf (c : Et) (f g : Ev) : Ev := fun fm st => (c fm st).bind fun p => if p.1 = true then f fm p.2 else g fm p.2
def eTup (fa : Evs) : Ev := fun fm st => (fa fm st).bind fun p => @ite _ (p.1.length ≤ 16777216) (Classical.propDecidable _) (some (.tup p.1, p.2)) none
def eLst (fa : Evs) : Ev := fun fm st => (fa fm st).bind fun p => @ite _ (p.1.length ≤ 16777216) (Classical.propDecidable _) (some (.ref p.2.length, p.2 ++ [.lst p.1])) none

def MB (K : PySem.W.Frag) (g : Va → Va → Sto → Option (Va × Sto)) (r : R2) : Prop := ∀ ρ fm st σ H a b x y w st' Q, Rel K ρ fm st σ H → RepV K ρ H a x → RepV K ρ H b y → g a b st = some (w, st') →
  Th K ρ fm σ H st' (fun ρ' H' => ∀ v, RepV K ρ' H' w v → Q v H') → r x y H Q
def MU (K : PySem.W.Frag) (g : Va → Sto → Option (Va × Sto)) (r : V → Hp → VK → Prop) : Prop := ∀ ρ fm st σ H a x w st' Q, Rel K ρ fm st σ H → RepV K ρ H a x → g a st = some (w, st') →
  Th K ρ fm σ H st' (fun ρ' H' => ∀ v, RepV K ρ' H' w v → Q v H') → r x H Q
def ML (K : PySem.W.Frag) (g : List Va → Sto → Option (Va × Sto)) (r : List V → Hp → VK → Prop) : Prop := ∀ ρ fm st σ H ws vs w st' Q, Rel K ρ fm st σ H → RepL K ρ H ws vs → g ws st = some (w, st') →
  Th K ρ fm σ H st' (fun ρ' H' => ∀ v, RepV K ρ' H' w v → Q v H') → r vs H Q
def MM (K : PySem.W.Frag) (g : Va → List Va → Sto → Option (Va × Sto)) (r : V → List V → Hp → VK → Prop) : Prop := ∀ ρ fm st σ H a ws x vs w st' Q, Rel K ρ fm st σ H → RepV K ρ H a x → RepL K ρ H ws vs → g a ws st = some (w, st') →
  Th K ρ fm σ H st' (fun ρ' H' => ∀ v, RepV K ρ' H' w v → Q v H') → r x vs H Q

section
variable {X : Cx} {a b c e o : Expr} {es rest : List Expr} {pos p apos cpos : Pos} {f f1 f2 fa fb fc fo : Ev} {ft fu : Et} {fs : Evs} {K : PySem.W.Frag} {σ : L2.St} {H : Hp} {Q : VK}

theorem SqT.const {K : PySem.W.Frag} {H : Hp} {a : Addr} {vs : List V} (h : SqT K (fun _ => none) a vs) : SqT K H a vs := by
  rcases h with (h | ⟨o, h⟩) | h
  · cases h
  · cases h
  · exact .inr h
theorem tOp_of {g : Va → Va → Sto → Option (Va × Sto)} {r : R2} (hm : MB K g r) (h : tD K (eB g f1 f2) σ H Q) : tOp r (tD K f1) (tD K f2) σ H Q := by
  obtain ⟨ρ, fm, st, w, st', R, e, T⟩ := h
  simp only [eB, Option.bind_eq_some_iff] at e
  obtain ⟨⟨a, s1⟩, e1, ⟨b, s2⟩, e2, e3⟩ := e
  exact ⟨ρ, fm, st, a, s1, R, e1, fun ρ1 H1 p1 k1 R1 x rx => ⟨ρ1, fm, s1, b, s2, R1, e2, fun ρ2 H2 p2 k2 R2 y ry =>
    hm _ _ _ _ _ _ _ _ _ _ _ _ R2 (RepV.mono p2 k2 _ _ rx) ry e3 (T.then (List.IsPrefix.trans p1 p2) (k1.trans k2))⟩⟩
theorem tCB_of {g : List Va → Sto → Option (Va × Sto)} {r : List V → Hp → VK → Prop} (hm : ML K g r) (h : tD K (eA g fs) σ H Q) : tCB r (tDs K fs) σ H Q := by
  obtain ⟨ρ, fm, st, w, st', R, e, T⟩ := h
  simp only [eA, Option.bind_eq_some_iff] at e
  obtain ⟨⟨ws, s1⟩, e1, e2⟩ := e
  exact ⟨ρ, fm, st, ws, s1, R, e1, fun ρ1 H1 p1 k1 R1 vs rv => hm _ _ _ _ _ _ _ _ _ _ R1 rv e2 (T.then p1 k1)⟩

theorem de_c {w : Va} {v : V} (h : PE X e (tC v)) (r : ∀ ρ H, RepV X.K ρ H w v) : DE X e (eC w) := PEi h fun σ H Q h => by
  obtain ⟨ρ, fm, st, w', st', R, e, T⟩ := h
  cases e
  exact T.same R _ (r _ _)
theorem de_int {i : Int} {k : Nat} : DE X (.Constant (.int i) k pos) (eC (.int i)) := de_c pe_int fun _ _ => by simp only [RepV]
theorem de_bl {i : Bool} {k : Nat} : DE X (.Constant (.bool i) k pos) (eC (.bl i)) := de_c pe_bl fun _ _ => by simp only [RepV]
theorem de_non {k : Nat} : DE X (.Constant .none k pos) (eC .non) := de_c pe_non fun _ _ => by simp only [RepV]
theorem de_str {x : Str} {l : List Nat} {k : Nat} (h : x = ⟨l.toArray⟩) : DE X (.Constant (.str x) k pos) (eC (.str l)) := de_c pe_str fun _ _ => by simp only [RepV]; rw [h]
theorem de_v {i : Nat} (h : PE X e (tVar i)) : DE X e (eV i) := PEi h fun σ H Q h => by
  obtain ⟨ρ, fm, st, w, st', R, e, T⟩ := h
  simp only [eV] at e
  split at e
  · rename_i w' hw
    cases e
    obtain ⟨v, hv, rv⟩ := R.e.2 i _ hw
    exact ⟨v, hv, T.same R v rv⟩
  · cases e
theorem da_nil : DA X [] aN := PAi pa_nil fun σ H Q h => by
  obtain ⟨ρ, fm, st, w, st', R, e, T⟩ := h
  cases e
  exact T.same R [] RepL.nil
theorem da_cons (ha : DE X e f) (hr : DA X es fs) (hs : starEach (e :: es) X.env = (false, eval e X.env) :: starEach es X.env := by rfl) : DA X (e :: es) (aC f fs) := PAi (pa_cons ha hr hs) fun σ H Q h => by
  obtain ⟨ρ, fm, st, w, st', R, e, T⟩ := h
  simp only [aC, Option.bind_eq_some_iff] at e
  obtain ⟨⟨w1, s1⟩, e1, ⟨ws, s2⟩, e2, e3⟩ := e
  cases e3
  exact ⟨ρ, fm, st, w1, s1, R, e1, fun ρ1 H1 p1 k1 R1 x rx => ⟨ρ1, fm, s1, ws, _, R1, e2, fun ρ2 H2 p2 k2 R2 xs rxs =>
    T ρ2 H2 (List.IsPrefix.trans p1 p2) (k1.trans k2) R2 (x :: xs) (RepL.cons (RepV.mono p2 k2 _ _ rx) rxs)⟩⟩
theorem de_op {op : Operator} {r : R2} {g : Va → Va → Sto → Option (Va × Sto)} (ho : OpR X (binaryOp op) r) (hm : MB X.K g r) (ha : DE X a f1) (hb : DE X b f2) : DE X (.BinOp a op b pos) (eB g f1 f2) := PEi (pe_op ho ha hb) fun _ _ _ h => tOp_of hm h
theorem de_cmp {op : CmpOp} {r : R2} {g : Va → Va → Sto → Option (Va × Sto)} (ho : OpR X (compareOp op) r) (hm : MB X.K g r) (ha : DE X a f1) (hb : DE X b f2) (hk : behindInMarks op b = false) : DE X (.Compare a [op] [b] pos) (eB g f1 f2) := PEi (pe_cmpR ho ha hb hk) fun _ _ _ h => tOp_of hm h
theorem dt_cmp {op : CmpOp} {r : R2} {g : Va → Va → Sto → Option (Va × Sto)} (ho : OpR X (compareOp op) r) (hm : MB X.K g r) (ha : DE X a f1) (hb : DE X b f2) (hk : behindInMarks op b = false) : DT X (.Compare a [op] [b] pos) (bB g f1 f2) := PTi (pt_cmpR ho ha hb hk) fun σ H Q h => by
  obtain ⟨ρ, fm, st, w, st', R, e, T⟩ := h
  simp only [bB, Option.bind_eq_some_iff] at e
  obtain ⟨⟨a, s1⟩, e1, ⟨b, s2⟩, e2, ⟨r, s3⟩, e3, e4⟩ := e
  dsimp only at e4
  split at e4
  · rename_i b
    cases e4
    refine tOp_of hm ⟨ρ, fm, st, .bl w, st', R, ?_, fun ρ1 H1 p1 k1 R1 v rv => ?_⟩
    · simp only [eB, Option.bind_eq_some_iff]
      exact ⟨_, e1, _, e2, e3⟩
    · simp only [RepV] at rv
      exact ⟨w, rv, T ρ1 H1 p1 k1 R1⟩
  · cases e4
theorem de_un {op : UnaryOp} {r : V → Hp → VK → Prop} {g : Va → Sto → Option (Va × Sto)} (ho : UnR X (unaryOp op) r) (hm : MU X.K g r) (ha : DE X a f) : DE X (.UnaryOp op a pos) (eU g f) := PEi (pe_un ho ha) fun σ H Q h => by
  obtain ⟨ρ, fm, st, w, st', R, e, T⟩ := h
  simp only [eU, Option.bind_eq_some_iff] at e
  obtain ⟨⟨a, s1⟩, e1, e2⟩ := e
  exact ⟨ρ, fm, st, a, s1, R, e1, fun ρ1 H1 p1 k1 R1 x rx => hm _ _ _ _ _ _ _ _ _ _ R1 rx e2 (T.then p1 k1)⟩
theorem de_ix {r : R2} {g : Va → Va → Sto → Option (Va × Sto)} (ho : IxR X r) (hm : MB X.K g r) (ha : DE X a f1) (hb : DE X b f2) (hs : PlainIx b) : DE X (.Subscript a b pos) (eB g f1 f2) := PEi (pe_ix ho ha hb hs) fun _ _ _ h => tOp_of hm h
theorem de_callB {x : Str} {id : String} {r : List V → Hp → VK → Prop} {g : List Va → Sto → Option (Va × Sto)} (hc : CallR X (.builtin id) r) (hm : ML X.K g r) (hg : Gl X x) (hx : X.mg x = none) (hv : bootBuiltins x = some (.builtin id)) (ha : DA X (e :: es) fs) (hn : x ≠ "__name__" := by decide) (hdb : (x == ("__debug__" : Str)) = false := by decide)
    (he : starEach (e :: es) X.env = (false, eval e X.env) :: starEach es X.env := by rfl) (hpl : (backTo pos (starEach es X.env)).any (·.1) = false := by rfl) : DE X (.Call (.Name x p) (e :: es) [] pos) (eA g fs) :=
  PEi (pe_callB hc hg hx hv ha hn hdb he hpl) fun _ _ _ h => tCB_of hm h
theorem de_callT {x : Str} {T : String} {r : List V → Hp → VK → Prop} {g : List Va → Sto → Option (Va × Sto)} (hc : CallR X (.type T) r) (hm : ML X.K g r) (hg : Gl X x) (hx : X.mg x = none) (hv : bootBuiltins x = some (.type T)) (ha : DA X (e :: es) fs) (hn : x ≠ "__name__" := by decide) (hdb : (x == ("__debug__" : Str)) = false := by decide)
    (he : starEach (e :: es) X.env = (false, eval e X.env) :: starEach es X.env := by rfl) (hpl : (backTo pos (starEach es X.env)).any (·.1) = false := by rfl) : DE X (.Call (.Name x p) (e :: es) [] pos) (eA g fs) :=
  PEi (pe_callTy hc hg hx hv ha hn hdb he hpl) fun _ _ _ h => tCB_of hm h

/-! ### tests -/
theorem dt_v (ha : DE X a f) (he : ∀ whole, isTrue a X.env whole = (do let v ← whole; standAt a.pos; holding [v] (truthy v))) : DT X a (bV f) := PTi (pt_truth ha he) fun σ H Q h => by
  obtain ⟨ρ, fm, st, b, st', R, e, T⟩ := h
  simp only [bV, Option.bind_eq_some_iff] at e
  obtain ⟨⟨w, s1⟩, e1, b', e2, e3⟩ := e
  cases e3
  refine ⟨ρ, fm, st, w, _, R, e1, fun ρ1 H1 p1 k1 R1 x rx => ⟨b, ?_, T ρ1 H1 p1 k1 R1⟩⟩
  dsimp only [truth] at e2
  cases w with
  | non => simp only [RepV] at rx; subst rx; simpa [TruV] using e2.symm
  | bl c => simp only [RepV] at rx; subst rx; simpa [TruV] using e2.symm
  | int i => simp only [RepV] at rx; subst rx; simpa [TruV] using e2.symm
  | str s =>
    simp only [RepV] at rx; subst rx
    dsimp only at e2
    split at e2
    · rename_i hz
      refine ⟨by show s.toArray.size ≤ sizeLine; rw [sizeLine_eq]; simpa using hz, ?_⟩
      cases e2
      show _ = (((s.toArray.size : Nat) : Int) != 0)
      cases s with
      | nil => rfl
      | cons c r => simp [bne]; omega
    · cases e2
  | tup ws =>
    simp only [RepV] at rx
    obtain ⟨a, vs, rfl, hq, rl⟩ := rx
    refine .inr (.inl ⟨vs, SqT.of hq, ?_⟩)
    cases e2
    have := rl.length
    cases ws <;> cases vs <;> simp_all
  | ktp ws =>
    simp only [RepV] at rx
    obtain ⟨a, vs, rfl, hq, rl⟩ := rx
    refine .inr (.inl ⟨vs, SqT.const hq, ?_⟩)
    cases e2
    have := rl.length
    cases ws <;> cases vs <;> simp_all
  | ref n =>
    simp only [RepV] at rx
    obtain ⟨a, rfl, hq⟩ := rx
    dsimp only at e2
    split at e2
    · rename_i ws hw
      obtain ⟨a', ea, ro⟩ := R1.s.sto n _ hw
      rw [hq] at ea; cases ea
      obtain ⟨vs, hv, rl⟩ := ro
      refine .inl ⟨vs, SqL.of hv, ?_⟩
      cases e2
      have := rl.length
      cases ws <;> cases vs <;> simp_all
    · rename_i ws hw
      obtain ⟨a', ea, ro⟩ := R1.s.sto n _ hw
      rw [hq] at ea; cases ea
      obtain ⟨vs, hv, rl⟩ := ro
      refine .inl ⟨vs, ?_, ?_⟩
      · rcases hv with ⟨o, hv⟩ | (hv | ⟨o, hv⟩) | hv
        · exact .inl (.inr ⟨o, hv⟩)
        · cases hv
        · cases hv
        · exact .inr hv
      · cases e2
        have := rl.length
        cases ws <;> cases vs <;> simp_all
    · rename_i kvs hw
      obtain ⟨a', ea, ro⟩ := R1.s.sto n _ hw
      rw [hq] at ea; cases ea
      obtain ⟨ks, hv, m, rl⟩ := ro
      refine .inr (.inr ⟨ks, hv, ?_⟩)
      cases e2
      have := congrArg List.length m
      cases kvs <;> cases ks <;> simp_all
    · cases e2
  | ty n => cases e2
theorem dt_not (ha : DT X a ft) : DT X (.UnaryOp .Not a pos) (bNot ft) := PTi (pt_not ha) fun σ H Q h => by
  obtain ⟨ρ, fm, st, b, st', R, e, T⟩ := h
  simp only [bNot, Option.bind_eq_some_iff] at e
  obtain ⟨⟨w, s1⟩, e1, e3⟩ := e
  cases e3
  exact ⟨ρ, fm, st, w, _, R, e1, T⟩
theorem dw_and1 (ha : DT X a ft) : DW X (.BoolOp .And [a] pos) ft := pw_and1 ha
theorem dw_or1 (ha : DT X a ft) : DW X (.BoolOp .Or [a] pos) ft := pw_or1 ha
theorem dw_and (ha : DT X a ft) (hb : DW X (.BoolOp .And (b :: rest) pos) fu) : DW X (.BoolOp .And (a :: b :: rest) pos) (bAnd ft fu) := PWi (pw_and ha hb) fun σ H Q h => by
  obtain ⟨ρ, fm, st, b, st', R, e, T⟩ := h
  simp only [bAnd, Option.bind_eq_some_iff] at e
  obtain ⟨⟨w, s1⟩, e1, e3⟩ := e
  refine ⟨ρ, fm, st, w, s1, R, e1, fun ρ1 H1 p1 k1 R1 => ?_⟩
  cases w with
  | true => rw [if_pos rfl] at e3 ⊢; exact ⟨ρ1, fm, s1, b, st', R1, e3, T.then p1 k1⟩
  | false => rw [if_neg Bool.false_ne_true] at e3 ⊢; cases e3; exact T ρ1 H1 p1 k1 R1
theorem dw_or (ha : DT X a ft) (hb : DW X (.BoolOp .Or (b :: rest) pos) fu) : DW X (.BoolOp .Or (a :: b :: rest) pos) (bOr ft fu) := PWi (pw_or ha hb) fun σ H Q h => by
  obtain ⟨ρ, fm, st, b, st', R, e, T⟩ := h
  simp only [bOr, Option.bind_eq_some_iff] at e
  obtain ⟨⟨w, s1⟩, e1, e3⟩ := e
  refine ⟨ρ, fm, st, w, s1, R, e1, fun ρ1 H1 p1 k1 R1 => ?_⟩
  cases w with
  | true => rw [if_pos rfl] at e3 ⊢; cases e3; exact T ρ1 H1 p1 k1 R1
  | false => rw [if_neg Bool.false_ne_true] at e3 ⊢; exact ⟨ρ1, fm, s1, b, st', R1, e3, T.then p1 k1⟩
theorem dt_w (h : DW X a ft) : DT X a ft := PW.pt h
theorem de_one {op} (h : DE X a f) : DE X (.BoolOp op [a] pos) f := pe_one h
theorem de_and (ha : DE X a f1) (hb : DE X (.BoolOp .And (b :: rest) pos) f2) : DE X (.BoolOp .And (a :: b :: rest) pos) (eAnd f1 f2) := PEi (pe_and ha hb) fun σ H Q h => by
  obtain ⟨ρ, fm, st, w, st', R, e, T⟩ := h
  simp only [eAnd, Option.bind_eq_some_iff] at e
  obtain ⟨⟨w1, s1⟩, e1, e3⟩ := e
  refine ⟨ρ, fm, st, w1, s1, R, e1, fun ρ1 H1 p1 k1 R1 x rx => ?_⟩
  dsimp only at e3
  split at e3
  · simp only [RepV] at rx
    exact ⟨true, rx, by rw [if_pos rfl]; exact ⟨ρ1, fm, s1, w, st', R1, e3, T.then p1 k1⟩⟩
  · simp only [RepV] at rx
    cases e3
    exact ⟨false, rx, by rw [if_neg Bool.false_ne_true]; exact T ρ1 H1 p1 k1 R1 _ (by simp only [RepV])⟩
  · cases e3
theorem de_or (ha : DE X a f1) (hb : DE X (.BoolOp .Or (b :: rest) pos) f2) : DE X (.BoolOp .Or (a :: b :: rest) pos) (eOr f1 f2) := PEi (pe_or ha hb) fun σ H Q h => by
  obtain ⟨ρ, fm, st, w, st', R, e, T⟩ := h
  simp only [eOr, Option.bind_eq_some_iff] at e
  obtain ⟨⟨w1, s1⟩, e1, e3⟩ := e
  refine ⟨ρ, fm, st, w1, s1, R, e1, fun ρ1 H1 p1 k1 R1 x rx => ?_⟩
  dsimp only at e3
  split at e3
  · simp only [RepV] at rx
    exact ⟨false, rx, by rw [if_neg Bool.false_ne_true]; exact ⟨ρ1, fm, s1, w, st', R1, e3, T.then p1 k1⟩⟩
  · simp only [RepV] at rx
    cases e3
    exact ⟨true, rx, by rw [if_pos rfl]; exact T ρ1 H1 p1 k1 R1 _ (by simp only [RepV])⟩
  · cases e3
theorem de_not (ha : DE X a f) : DE X (.UnaryOp .Not a pos) (eNot f) := PEi (pe_not ha) fun σ H Q h => by
  obtain ⟨ρ, fm, st, w, st', R, e, T⟩ := h
  simp only [eNot, Option.bind_eq_some_iff] at e
  obtain ⟨⟨w1, s1⟩, e1, e3⟩ := e
  refine ⟨ρ, fm, st, w1, s1, R, e1, fun ρ1 H1 p1 k1 R1 x rx => ?_⟩
  dsimp only at e3
  split at e3
  · simp only [RepV] at rx
    cases e3
    exact ⟨_, rx, T ρ1 H1 p1 k1 R1 _ (by simp only [RepV])⟩
  · cases e3
theorem de_if (hc : DT X c ft) (ha : DE X a f1) (hb : DE X b f2) : DE X (.IfExp c a b pos) (eIf ft f1 f2) := PEi (pe_ifExp hc ha hb) fun σ H Q h => by
  obtain ⟨ρ, fm, st, w, st', R, e, T⟩ := h
  simp only [eIf, Option.bind_eq_some_iff] at e
  obtain ⟨⟨w1, s1⟩, e1, e3⟩ := e
  refine ⟨ρ, fm, st, w1, s1, R, e1, fun ρ1 H1 p1 k1 R1 => ?_⟩
  cases w1 with
  | true => rw [if_pos rfl] at e3 ⊢; exact ⟨ρ1, fm, s1, w, st', R1, e3, T.then p1 k1⟩
  | false => rw [if_neg Bool.false_ne_true] at e3 ⊢; exact ⟨ρ1, fm, s1, w, st', R1, e3, T.then p1 k1⟩

/-! ### displays -/
theorem de_tup {k} (ha : DA X es fs) : DE X (.Tuple es k pos) (eTup fs) := PEi (pe_tup ha) fun σ H Q h => by
  obtain ⟨ρ, fm, st, w, st', R, e, T⟩ := h
  simp only [eTup, Option.bind_eq_some_iff] at e
  obtain ⟨⟨ws, s1⟩, e1, e3⟩ := e
  dsimp only at e3
  split at e3
  · rename_i hz
    cases e3
    refine ⟨ρ, fm, st, ws, _, R, e1, fun ρ1 H1 p1 k1 R1 xs rx => ⟨by rw [← rx.length, sizeLine_eq]; exact hz, fun p hp => ?_⟩⟩
    refine (T.then p1 k1).tup R1 hp (.ref p) ?_
    simp only [RepV]
    exact ⟨p, xs, rfl, upd_same, RepL.mono (List.prefix_refl _) (Kp.new hp) _ _ rx⟩
  · cases e3
theorem de_lst (ha : DA X es fs) : DE X (.List es pos) (eLst fs) := PEi (pe_lst ha) fun σ H Q h => by
  obtain ⟨ρ, fm, st, w, st', R, e, T⟩ := h
  simp only [eLst, Option.bind_eq_some_iff] at e
  obtain ⟨⟨ws, s1⟩, e1, e3⟩ := e
  dsimp only at e3
  split at e3
  · rename_i hz
    cases e3
    refine ⟨ρ, fm, st, ws, _, R, e1, fun ρ1 H1 p1 k1 R1 xs rx => ⟨by rw [← rx.length, sizeLine_eq]; exact hz, fun p hp => ?_⟩⟩
    refine (T.then p1 k1).push R1 hp (o := .lst ws) ⟨xs, upd_same, RepL.mono (List.prefix_append _ _) (Kp.new hp) _ _ rx⟩ (.ref p) ?_
    exact ref_last R1.s.rl
  · cases e3
end

/-! ### statements -/
def sNil : Sm := fun fm st => some (.nx, fm, st)
def sCons (f g : Sm) : Sm := fun fm st => (f fm st).bind fun r => match r.1 with
  | .nx => g r.2.1 r.2.2
  | _ => some r
def sSet (i : Nat) (f : Ev) : Sm := fun fm st => (f fm st).bind fun p => some (.nx, fm.set i (some p.1), p.2)
def sAug (i : Nat) (g : Va → Va → Sto → Option (Va × Sto)) (f : Ev) : Sm := fun fm st => match fm[i]? with
  | some (some x) => (f fm st).bind fun p => (g x p.1 p.2).bind fun q => some (.nx, fm.set i (some q.1), q.2)
  | _ => none
def sEx (f : Ev) : Sm := fun fm st => (f fm st).bind fun p => some (.nx, fm, p.2)
def sRet (f : Ev) : Sm := fun fm st => (f fm st).bind fun p => some (.rt p.1, fm, p.2)
def sRetN : Sm := fun fm st => some (.rt .non, fm, st)
def sBk : Sm := fun fm st => some (.bk, fm, st)
def sCt : Sm := fun fm st => some (.ct, fm, st)
def sIf (c : Et) (f g : Sm) : Sm := fun fm st => (c fm st).bind fun p => if p.1 = true then f fm p.2 else g fm p.2
def sNo : Sm := fun _ _ => none

section
variable {X : Cx} {e c : Expr} {ss : List Stmt} {s : Stmt} {pos p : Pos} {f : Ev} {fs gs : Sm} {ft : Et} {a b : List Stmt}
theorem tSno {K : PySem.W.Frag} {D : Ends} {σ : L2.St} {H : Hp} (h : tS K sNo D σ H) : False := by
  obtain ⟨ρ, fm, st, fl, fm', st', R, e, T⟩ := h
  cases e
theorem dss_no : DSs X ss sNo := PSsi pss_never fun _ _ _ h => tSno h
theorem ds_no : DS X s sNo := PSi ps_never fun _ _ _ h => tSno h
theorem dss_nil : DSs X [] sNil := PSsi pss_nil fun D σ H h => by
  obtain ⟨ρ, fm, st, fl, fm', st', R, e, T⟩ := h
  cases e
  exact T ρ H σ (List.prefix_refl _) Kp.refl R
theorem dss_cons (h1 : DS X s fs) (h2 : DSs X ss gs) : DSs X (s :: ss) (sCons fs gs) := PSsi (pss_cons h1 h2) fun D σ H h => by
  obtain ⟨ρ, fm, st, fl, fm', st', R, e, T⟩ := h
  simp only [sCons, Option.bind_eq_some_iff] at e
  obtain ⟨⟨f1, fm1, s1⟩, e1, e2⟩ := e
  refine ⟨ρ, fm, st, f1, fm1, s1, R, e1, fun ρ1 H1 σ1 p1 k1 R1 => ?_⟩
  cases f1 with
  | nx => exact ⟨ρ1, fm1, s1, fl, fm', st', R1, e2, fun ρ2 H2 σ2 p2 k2 R2 => T ρ2 H2 σ2 (List.IsPrefix.trans p1 p2) (k1.trans k2) R2⟩
  | rt w => cases e2; exact T ρ1 H1 σ1 p1 k1 R1
  | bk => cases e2; exact T ρ1 H1 σ1 p1 k1 R1
  | ct => cases e2; exact T ρ1 H1 σ1 p1 k1 R1
theorem ds_set {i : Nat} {x : Str} {pos' : Pos} (hN : X.N.Nodup) (hi : X.N[i]? = some x) (hx : Loc X.env.scope x) (he : DE X e f) (hs : swapsWith e (some (.Name x pos')) pos.line X.env = pure false := by rfl) (hf : X.fn x = true ∨ X.env.scope.names.lookup x = some .local := by first | exact .inl rfl | exact .inr rfl) :
    DS X (.Assign [.Name x pos'] e pos) (sSet i f) := PSi (ps_set hN hi hx he hs hf) fun D σ H h => by
  obtain ⟨ρ, fm, st, fl, fm', st', R, e, T⟩ := h
  simp only [sSet, Option.bind_eq_some_iff] at e
  obtain ⟨⟨w, s1⟩, e1, e2⟩ := e
  cases e2
  exact ⟨ρ, fm, st, w, _, R, e1, fun ρ1 H1 p1 k1 R1 v rv => T ρ1 H1 _ p1 k1 ⟨R1.s, R1.e.set rv⟩⟩
def MP (K : PySem.W.Frag) (g : Va → Va → Sto → Option (Va × Sto)) (r : TIp) : Prop := MB K g r
theorem ds_aug {i : Nat} {x : Str} {pos' : Pos} {op : Operator} {ti : TIp} {g : Va → Va → Sto → Option (Va × Sto)} (hN : X.N.Nodup) (hi : X.N[i]? = some x) (hx : Loc X.env.scope x) (he : DE X e f) (ho : PIp X op ti) (hm : MB X.K g ti) (hf : X.fn x = true ∨ X.env.scope.names.lookup x = some .local := by first | exact .inl rfl | exact .inr rfl) :
    DS X (.AugAssign (.Name x pos') op e pos) (sAug i g f) := PSi (ps_aug hN hi hx he ho hf) fun D σ H h => by
  obtain ⟨ρ, fm, st, fl, fm', st', R, e, T⟩ := h
  simp only [sAug] at e
  split at e
  · rename_i w0 hw
    simp only [Option.bind_eq_some_iff] at e
    obtain ⟨⟨w, s1⟩, e1, ⟨w2, s2⟩, e2, e3⟩ := e
    cases e3
    obtain ⟨v0, hv0, rv0⟩ := R.e.2 i _ hw
    exact ⟨v0, hv0, ρ, fm, st, w, s1, R, e1, fun ρ1 H1 p1 k1 R1 v rv => hm ρ1 fm s1 σ H1 w0 w v0 v w2 _ _ R1 (RepV.mono p1 k1 _ _ rv0) rv e2
      fun ρ2 H2 p2 k2 R2 z rz => T ρ2 H2 _ (List.IsPrefix.trans p1 p2) (k1.trans k2) ⟨R2.s, R2.e.set rz⟩⟩
  · cases e
theorem ds_ex (he : DE X e f) (hs : swapsWith e none pos.line X.env = pure false := by rfl) : DS X (.Expr e pos) (sEx f) := PSi (ps_expr he hs) fun D σ H h => by
  obtain ⟨ρ, fm, st, fl, fm', st', R, e, T⟩ := h
  simp only [sEx, Option.bind_eq_some_iff] at e
  obtain ⟨⟨w, s1⟩, e1, e2⟩ := e
  cases e2
  exact ⟨ρ, fm, st, w, _, R, e1, fun ρ1 H1 p1 k1 R1 v rv => T ρ1 H1 _ p1 k1 R1⟩
theorem ds_doc {x j pos'} : DS X (.Expr (.Constant (.str x) j pos') pos) sNil := PSi ps_doc fun D σ H h => by
  obtain ⟨ρ, fm, st, fl, fm', st', R, e, T⟩ := h
  cases e
  exact T ρ H σ (List.prefix_refl _) Kp.refl R
theorem ds_ret (he : DE X e f) : DS X (.Return (some e) pos) (sRet f) := PSi (ps_ret he) fun D σ H h => by
  obtain ⟨ρ, fm, st, fl, fm', st', R, e, T⟩ := h
  simp only [sRet, Option.bind_eq_some_iff] at e
  obtain ⟨⟨w, s1⟩, e1, e2⟩ := e
  cases e2
  exact ⟨ρ, fm, st, w, _, R, e1, fun ρ1 H1 p1 k1 R1 v rv => T ρ1 H1 σ p1 k1 R1 v rv⟩
theorem ds_retN : DS X (.Return none pos) sRetN := PSi ps_retN fun D σ H h => by
  obtain ⟨ρ, fm, st, fl, fm', st', R, e, T⟩ := h
  cases e
  exact T ρ H σ (List.prefix_refl _) Kp.refl R .non (by simp only [RepV])
theorem ds_bk : DS X (.Break pos) sBk := PSi ps_break fun D σ H h => by
  obtain ⟨ρ, fm, st, fl, fm', st', R, e, T⟩ := h
  cases e
  exact T ρ H σ (List.prefix_refl _) Kp.refl R
theorem ds_ct : DS X (.Continue pos) sCt := PSi ps_continue fun D σ H h => by
  obtain ⟨ρ, fm, st, fl, fm', st', R, e, T⟩ := h
  cases e
  exact T ρ H σ (List.prefix_refl _) Kp.refl R
theorem ds_pass : DS X (.Pass pos) sNil := PSi ps_pass fun D σ H h => by
  obtain ⟨ρ, fm, st, fl, fm', st', R, e, T⟩ := h
  cases e
  exact T ρ H σ (List.prefix_refl _) Kp.refl R
theorem ds_if (hc : DT X c ft) (ha : DSs X a fs) (hb : DSs X b gs) : DS X (.If c a b pos) (sIf ft fs gs) := PSi (ps_if hc ha hb) fun D σ H h => by
  obtain ⟨ρ, fm, st, fl, fm', st', R, e, T⟩ := h
  simp only [sIf, Option.bind_eq_some_iff] at e
  obtain ⟨⟨w1, s1⟩, e1, e3⟩ := e
  refine ⟨ρ, fm, st, w1, s1, R, e1, fun ρ1 H1 p1 k1 R1 => ?_⟩
  have T' : ∀ ρ2 H2 σ2, ρ1 <+: ρ2 → Kp X.K H1 H2 → Rel X.K ρ2 fm' st' σ2 H2 → Fin X.K D ρ2 σ2 H2 fl := fun ρ2 H2 σ2 p2 k2 R2 => T ρ2 H2 σ2 (List.IsPrefix.trans p1 p2) (k1.trans k2) R2
  cases w1 with
  | true =>
    show (if true = true then _ else _)
    rw [if_pos rfl] at e3 ⊢; exact ⟨ρ1, fm, s1, fl, fm', st', R1, e3, T'⟩
  | false =>
    show (if false = true then _ else _)
    rw [if_neg Bool.false_ne_true] at e3 ⊢; exact ⟨ρ1, fm, s1, fl, fm', st', R1, e3, T'⟩
end

/-! ### targets -/
abbrev Fg := Va → Fm → Option Fm
abbrev Fgs := List Va → Fm → Option Fm
def gN (i : Nat) : Fg := fun w fm => some (fm.set i (some w))
def gsN : Fgs := fun ws fm => match ws with
  | [] => some fm
  | _ => none
def gsC (g : Fg) (h : Fgs) : Fgs := fun ws fm => match ws with
  | w :: r => (g w fm).bind (h r)
  | _ => none
def gT (h : Fgs) : Fg := fun w fm => match w with
  | .tup ws => h ws fm
  | _ => none
def tG (K : PySem.W.Frag) (is : List Nat) (fg : Fg) : TG := fun v σ H Q => ∃ ρ fm st w fm', Rel K ρ fm st σ H ∧ RepV K ρ H w v ∧ fg w fm = some fm' ∧ ∀ σ', Rel K ρ fm' st σ' H → (∀ vs : List Nat, (∀ i ∈ is, i ∈ vs) → wipe σ' vs = wipe σ vs) → Q σ' H
def tGs (K : PySem.W.Frag) (is : List Nat) (fg : Fgs) : TGs := fun v σ H Q => ∃ ρ fm st w fm', Rel K ρ fm st σ H ∧ RepL K ρ H w v ∧ fg w fm = some fm' ∧ ∀ σ', Rel K ρ fm' st σ' H → (∀ vs : List Nat, (∀ i ∈ is, i ∈ vs) → wipe σ' vs = wipe σ vs) → Q σ' H
abbrev DG (X : Cx) (tg : Expr) (is : List Nat) (fg : Fg) : Prop := PG X tg (tG X.K is fg)
abbrev DGs (X : Cx) (tg : List Expr) (is : List Nat) (fg : Fgs) : Prop := PGs X tg (tGs X.K is fg)
theorem wipe_set {σ : L2.St} {i : Nat} {x : Option V} : ∀ {vs : List Nat}, i ∈ vs → wipe (σ.set i x) vs = wipe σ vs
  | [], h => by cases h
  | v :: vs, h => by
    unfold wipe
    by_cases hv : i ∈ vs
    · rw [wipe_set hv]
    · have e : i = v := by rcases List.mem_cons.mp h with h | h; exact h; exact absurd h hv
      subst e
      have key : ∀ (vs : List Nat), i ∉ vs → wipe (σ.set i x) vs = (wipe σ vs).set i x := by
        intro vs
        induction vs with
        | nil => intro _; rfl
        | cons u us ih =>
          intro hn
          have hne : i ≠ u := fun z => hn (by simp [z])
          unfold wipe
          rw [ih (fun z => hn (List.mem_cons_of_mem _ z)), List.set_comm _ _ hne]
      rw [key vs hv, List.set_set]
theorem PGi {X : Cx} {e : Expr} {t t' : TG} (h : PG X e t) (i : ∀ v σ H Q, t' v σ H Q → t v σ H Q) : PG X e t' := ⟨fun pins s σ H v u Q I r hw => h.run pins s σ H v u Q I r (i _ _ _ _ hw)⟩
theorem PGsi {X : Cx} {e : List Expr} {t t' : TGs} (h : PGs X e t) (i : ∀ v σ H Q, t' v σ H Q → t v σ H Q) : PGs X e t' := ⟨fun pins s σ H v u Q I r hw => h.run pins s σ H v u Q I r (i _ _ _ _ hw)⟩
section
variable {X : Cx} {e : Expr} {es : List Expr} {pos : Pos} {is js : List Nat} {fg : Fg} {fgs : Fgs}
theorem dg_n {i : Nat} {x : Str} (hN : X.N.Nodup) (hi : X.N[i]? = some x) (hx : Loc X.env.scope x) (hf : X.fn x = true ∨ X.env.scope.names.lookup x = some .local := by first | exact .inl rfl | exact .inr rfl) : DG X (.Name x pos) [i] (gN i) := PGi (pg_name hN hi hx hf) fun v σ H Q h => by
  obtain ⟨ρ, fm, st, w, fm', R, rv, e, T⟩ := h
  cases e
  exact T _ ⟨R.s, R.e.set rv⟩ fun vs hv => wipe_set (hv i (by simp))
theorem dgs_nil : DGs X [] [] gsN := PGsi pgs_nil fun v σ H Q h => by
  obtain ⟨ρ, fm, st, w, fm', R, rv, e, T⟩ := h
  cases w with
  | nil => cases e; simp only [RepL] at rv; exact ⟨rv, T σ R fun _ _ => rfl⟩
  | cons _ _ => cases e
theorem dgs_cons (h1 : DG X e is fg) (h2 : DGs X es js fgs) (hs : (assignEach (e :: es) X.env).map (·.2) = assign e X.env :: (assignEach es X.env).map (·.2) := by rfl) : DGs X (e :: es) (is ++ js) (gsC fg fgs) := PGsi (pgs_cons h1 h2 hs) fun v σ H Q h => by
  obtain ⟨ρ, fm, st, w, fm', R, rv, e, T⟩ := h
  cases w with
  | nil => cases e
  | cons w r =>
    simp only [gsC, Option.bind_eq_some_iff] at e
    obtain ⟨fm1, e1, e2⟩ := e
    simp only [RepL] at rv
    obtain ⟨x, xs, rfl, rx, rxs⟩ := rv
    exact ⟨x, xs, rfl, ρ, fm, st, w, fm1, R, rx, e1, fun σ1 R1 hw1 => ⟨ρ, fm1, st, r, fm', R1, rxs, e2, fun σ2 R2 hw2 => T σ2 R2 fun vs hv =>
      (hw2 vs fun i hi => hv i (List.mem_append_right _ hi)).trans (hw1 vs fun i hi => hv i (List.mem_append_left _ hi))⟩⟩
theorem dg_t {k : Nat} (hc : X.calm = true) (h : DGs X es is fgs) (hn : (assignEach es X.env).length = es.length := by rfl) (hst : (assignEach es X.env).findIdx? (·.1) = none := by rfl) (hl : ∀ ws fm fm', fgs ws fm = some fm' → ws.length = es.length) : DG X (.Tuple es k pos) is (gT fgs) := PGi (pg_tup hc h hn hst) fun v σ H Q h => by
  obtain ⟨ρ, fm, st, w, fm', R, rv, e, T⟩ := h
  cases w <;> try (cases e; done)
  rename_i ws
  simp only [RepV] at rv
  obtain ⟨a, vs, rfl, hq, rl⟩ := rv
  exact ⟨a, vs, rfl, SqT.of hq, by rw [← rl.length]; exact hl _ _ _ e, ρ, fm, st, ws, fm', R, rl, e, T⟩
end
theorem gsl0 : ∀ ws fm fm', gsN ws fm = some fm' → ws.length = 0 := fun ws fm fm' h => by cases ws <;> simp_all [gsN]
theorem gslc {g : Fg} {h : Fgs} {n : Nat} (hl : ∀ ws fm fm', h ws fm = some fm' → ws.length = n) : ∀ ws fm fm', gsC g h ws fm = some fm' → ws.length = n + 1 := fun ws fm fm' e => by
  cases ws with
  | nil => cases e
  | cons w r =>
    simp only [gsC, Option.bind_eq_some_iff] at e
    obtain ⟨fm1, _, e2⟩ := e
    simp [hl _ _ _ e2]
def sAsg (g : Fg) (f : Ev) : Sm := fun fm st => (f fm st).bind fun p => (g p.1 fm).bind fun fm' => some (.nx, fm', p.2)
theorem ds_asg {X : Cx} {tg e : Expr} {pos : Pos} {f : Ev} {g : Fg} {is : List Nat} (he : DE X e f) (hg : DG X tg is g) (hs : swapsWithSole [tg] e pos.line X.env = pure false := by rfl) (hw : swappedStores [tg] e X.env = pure none := by rfl)
    (h1 : (assignEach [tg] X.env).map (·.2) = [assign tg X.env] := by rfl) : DS X (.Assign [tg] e pos) (sAsg g f) := PSi (ps_asg he hg hs hw h1) fun D σ H h => by
  obtain ⟨ρ, fm, st, fl, fm', st', R, e, T⟩ := h
  simp only [sAsg, Option.bind_eq_some_iff] at e
  obtain ⟨⟨w, s1⟩, e1, fm1, e2, e3⟩ := e
  cases e3
  exact ⟨ρ, fm, st, w, _, R, e1, fun ρ1 H1 p1 k1 R1 v rv => ⟨ρ1, fm, _, w, _, R1, rv, e2, fun σ' R' _ => T ρ1 H1 σ' p1 k1 R'⟩⟩

/-! ### what a loop walks -/
structure Src where
  ws : List Va
  gd : Sto → Prop
abbrev Fi := Fm → Sto → Option (Src × Sto)
def JOk (K : PySem.W.Frag) (ρ0 : List Addr) (H0 : Hp) (S : Src) (J : It) : Prop :=
  ∀ (i : Nat) ρ fm st σ H, ρ0 <+: ρ → Kp K H0 H → Rel K ρ fm st σ H → S.gd st →
    (∀ w, S.ws[i]? = some w → J.go i H ∧ ∀ x H', J.yld i H x H' → Same H H' ∧ Kp K H H' ∧ RepV K ρ H' w x) ∧ (i = S.ws.length → J.stop i H)
def tI (K : PySem.W.Frag) (fi : Fi) : TI := fun σ H R => ∃ ρ fm st S st', Rel K ρ fm st σ H ∧ fi fm st = some (S, st') ∧ ∀ ρ' H', ρ <+: ρ' → Kp K H H' → Rel K ρ' fm st' σ H' → ∀ J, JOk K ρ' H' S J → R J H'
abbrev DI (X : Cx) (tg e : Expr) (fi : Fi) : Prop := PI X tg e (tI X.K fi)
theorem PIi {X : Cx} {tg e : Expr} {t t' : TI} (h : PI X tg e t) (i : ∀ σ H R, t' σ H R → t σ H R) : PI X tg e t' := ⟨fun pins s σ H R I hw => h.run pins s σ H R I (i _ _ _ hw)⟩
section
open Classical
noncomputable def forL (gd : Sto → Prop) (fg : Fg) (body : Sm) : List Va → Sm
  | [] => fun fm st => if gd st then some (.nx, fm, st) else none
  | w :: ws => fun fm st => if gd st then (fg w fm).bind fun fm1 => (body fm1 st).bind fun r => match r.1 with
    | .nx => forL gd fg body ws r.2.1 r.2.2
    | .ct => forL gd fg body ws r.2.1 r.2.2
    | .bk => some (.nx, r.2)
    | .rt v => some (.rt v, r.2) else none
noncomputable def sFor (fi : Fi) (fg : Fg) (body : Sm) : Sm := fun fm st => (fi fm st).bind fun r => forL r.1.gd fg body r.1.ws fm r.2
end
theorem ds_for {X : Cx} {tg iter : Expr} {body : List Stmt} {pos : Pos} {fi : Fi} {fg : Fg} {fb : Sm} {is : List Nat} (hp : PassesOwn (model X.prog X.w) X.A X.env X.xe) (hc : X.calm = true) (hi : DI X tg iter fi) (hg : DG X tg is fg) (hb : DSs X body fb)
    (hs : ∀ x, foldedSetIterable iter X.env x = pure x := by intro _; rfl) : DS X (.For tg iter body [] pos) (sFor fi fg fb) := PSi (ps_for hp hc hi hg hb hs) fun D σ H h => by
  obtain ⟨ρ, fm, st, fl, fm', st', R, e, T⟩ := h
  simp only [sFor, Option.bind_eq_some_iff] at e
  obtain ⟨⟨S, s1⟩, e1, e2⟩ := e
  refine ⟨ρ, fm, st, S, s1, R, e1, fun ρ1 H1 p1 k1 R1 J hJ => ?_⟩
  refine ⟨fun i m σ2 H2 => i + m = S.ws.length ∧ ∃ ρ2 fm2 st2, ρ1 <+: ρ2 ∧ Kp X.K H1 H2 ∧ Rel X.K ρ2 fm2 st2 σ2 H2 ∧ forL S.gd fg fb (S.ws.drop i) fm2 st2 = some (fl, fm', st'),
    ⟨S.ws.length, by omega, ρ1, fm, s1, List.prefix_refl _, Kp.refl, R1, by simpa using e2⟩, ?_⟩
  rintro i m σ2 H2 ⟨hm, ρ2, fm2, st2, p2, k2, R2, e3⟩
  by_cases hi : i < S.ws.length
  · refine .inr ?_
    have hd : S.ws.drop i = S.ws[i] :: S.ws.drop (i + 1) := List.drop_eq_getElem_cons hi
    rw [hd] at e3
    simp only [forL] at e3
    split at e3
    · rename_i hgd
      obtain ⟨hgo, _⟩ := hJ i ρ2 fm2 st2 σ2 H2 p2 k2 R2 hgd
      obtain ⟨go, yld⟩ := hgo S.ws[i] (List.getElem?_eq_getElem hi)
      simp only [Option.bind_eq_some_iff] at e3
      obtain ⟨fm3, e4, ⟨f5, fm5, st5⟩, e5, e6⟩ := e3
      refine ⟨go, fun σ3 H3 => ∃ ρ3 fm3 st3, ρ1 <+: ρ3 ∧ Kp X.K H1 H3 ∧ Rel X.K ρ3 fm3 st3 σ3 H3 ∧ forL S.gd fg fb (S.ws.drop (i + 1)) fm3 st3 = some (fl, fm', st'), fun σ3 H3 h3 => ⟨m - 1, by omega, by omega, h3⟩, fun x H3 hy => ?_⟩
      obtain ⟨sm, k3, rx⟩ := yld x H3 hy
      have R3 : Rel X.K ρ2 fm2 st2 σ2 H3 := R2.mono (List.prefix_refl _) k3 (R2.s.same sm k3)
      refine ⟨ρ2, fm2, st2, S.ws[i], fm3, R3, rx, e4, fun σ4 R4 _ => ?_⟩
      refine ⟨ρ2, fm3, st2, f5, fm5, st5, R4, e5, fun ρ6 H6 σ6 p6 k6 R6 => ?_⟩
      have P6 := List.IsPrefix.trans p2 p6
      have K6 : Kp X.K H1 H6 := k2.trans (k3.trans k6)
      cases f5 with
      | nx => exact ⟨ρ6, fm5, st5, P6, K6, R6, e6⟩
      | ct => exact ⟨ρ6, fm5, st5, P6, K6, R6, e6⟩
      | bk =>
        cases e6
        exact T ρ6 H6 σ6 (List.IsPrefix.trans p1 P6) (k1.trans K6) R6
      | rt v =>
        cases e6
        exact T ρ6 H6 σ6 (List.IsPrefix.trans p1 P6) (k1.trans K6) R6
    · cases e3
  · have ei : i = S.ws.length := by omega
    refine .inl ?_
    rw [ei, List.drop_length] at e3
    simp only [forL] at e3
    split at e3
    · rename_i hgd
      obtain ⟨_, stop⟩ := hJ i ρ2 fm2 st2 σ2 H2 p2 k2 R2 hgd
      cases e3
      exact ⟨stop ei, T ρ2 H2 σ2 (List.IsPrefix.trans p1 p2) (k1.trans k2) R2⟩
    · cases e3

/-! ### while -/
section
open Classical
def whL (c : Et) (body : Sm) : Nat → Sm
  | 0 => fun _ _ => none
  | n + 1 => fun fm st => (c fm st).bind fun p => if p.1 = true then (body fm p.2).bind fun r => match r.1 with
    | .nx => whL c body n r.2.1 r.2.2
    | .ct => whL c body n r.2.1 r.2.2
    | .bk => some (.nx, r.2)
    | .rt v => some (.rt v, r.2) else some (.nx, fm, p.2)
noncomputable def sWh (c : Et) (body : Sm) : Sm := fun fm st => if h : ∃ n r, whL c body n fm st = some r then some (choose (choose_spec h)) else none
theorem whL_mono {c : Et} {body : Sm} : ∀ {n : Nat} {fm : Fm} {st : Sto} {r}, whL c body n fm st = some r → ∀ m, n ≤ m → whL c body m fm st = some r
  | 0, _, _, _, h, _, _ => by cases h
  | n + 1, fm, st, r, h, m, hm => by
    obtain ⟨m, rfl⟩ : ∃ k, m = k + 1 := ⟨m - 1, by omega⟩
    simp only [whL, Option.bind_eq_some_iff] at h ⊢
    obtain ⟨⟨b, s1⟩, e1, e2⟩ := h
    refine ⟨⟨b, s1⟩, e1, ?_⟩
    cases b with
    | false => exact e2
    | true =>
      simp only [if_true, Option.bind_eq_some_iff] at e2 ⊢
      obtain ⟨⟨f2, fm2, s2⟩, e3, e4⟩ := e2
      refine ⟨_, e3, ?_⟩
      cases f2 with
      | nx => exact whL_mono (n := n) e4 m (by omega)
      | ct => exact whL_mono (n := n) e4 m (by omega)
      | bk => exact e4
      | rt v => exact e4
theorem sWh_of {c : Et} {body : Sm} {n : Nat} {fm : Fm} {st : Sto} {r} (h : whL c body n fm st = some r) : sWh c body fm st = some r := by
  have hh : ∃ n r, whL c body n fm st = some r := ⟨n, r, h⟩
  unfold sWh
  rw [dif_pos hh]
  have q := choose_spec (choose_spec hh)
  have a := whL_mono q (max (choose hh) n) (Nat.le_max_left _ _)
  have b := whL_mono h (max (choose hh) n) (Nat.le_max_right _ _)
  rw [a] at b
  exact b
theorem sWh_has {c : Et} {body : Sm} {fm : Fm} {st : Sto} {r} (h : sWh c body fm st = some r) : ∃ n, whL c body n fm st = some r := by
  unfold sWh at h
  split at h
  · rename_i hh
    cases h
    exact ⟨_, choose_spec (choose_spec hh)⟩
  · cases h
end
theorem ds_wh {X : Cx} {c : Expr} {body : List Stmt} {pos : Pos} {fc : Et} {fb : Sm} (hp : PassesOwn (model X.prog X.w) X.A X.env X.xe) (hc : DT X c fc) (hb : DSs X body fb) : DS X (.While c body [] pos) (sWh fc fb) := PSi (ps_while hp hc hb) fun D σ H h => by
  obtain ⟨ρ, fm, st, fl, fm', st', R, e, T⟩ := h
  obtain ⟨n, e⟩ := sWh_has e
  refine ⟨fun m σ2 H2 => ∃ ρ2 fm2 st2, ρ <+: ρ2 ∧ Kp X.K H H2 ∧ Rel X.K ρ2 fm2 st2 σ2 H2 ∧ whL fc fb m fm2 st2 = some (fl, fm', st'), ⟨n, ρ, fm, st, List.prefix_refl _, Kp.refl, R, e⟩, ?_⟩
  rintro m σ2 H2 ⟨ρ2, fm2, st2, p2, k2, R2, e2⟩
  cases m with
  | zero => cases e2
  | succ m =>
    simp only [whL, Option.bind_eq_some_iff] at e2
    obtain ⟨⟨b, s3⟩, e3, e4⟩ := e2
    refine ⟨ρ2, fm2, st2, b, s3, R2, e3, fun ρ4 H4 p4 k4 R4 => ?_⟩
    cases b with
    | false =>
      rw [if_neg Bool.false_ne_true] at e4 ⊢
      cases e4
      exact T ρ4 H4 σ2 (List.IsPrefix.trans p2 p4) (k2.trans k4) R4
    | true =>
      rw [if_pos rfl] at e4 ⊢
      simp only [Option.bind_eq_some_iff] at e4
      obtain ⟨⟨f5, fm5, s5⟩, e5, e6⟩ := e4
      refine ⟨fun σ6 H6 => ∃ ρ6 fm6 st6, ρ <+: ρ6 ∧ Kp X.K H H6 ∧ Rel X.K ρ6 fm6 st6 σ6 H6 ∧ whL fc fb m fm6 st6 = some (fl, fm', st'), fun σ6 H6 h6 => ⟨m, by omega, h6⟩, ?_⟩
      refine ⟨ρ4, fm2, s3, f5, fm5, s5, R4, e5, fun ρ7 H7 σ7 p7 k7 R7 => ?_⟩
      have P7 := List.IsPrefix.trans p2 (List.IsPrefix.trans p4 p7)
      have K7 : Kp X.K H H7 := k2.trans (k4.trans k7)
      cases f5 with
      | nx => exact ⟨ρ7, fm5, s5, P7, K7, R7, e6⟩
      | ct => exact ⟨ρ7, fm5, s5, P7, K7, R7, e6⟩
      | bk => cases e6; exact T ρ7 H7 σ7 P7 K7 R7
      | rt v => cases e6; exact T ρ7 H7 σ7 P7 K7 R7
end
end T3
/-! T3, third part: operators, built-ins, iterators, comprehensions, defs, the law's end -/
namespace T3
open PySem PySem.Spec PyProof.Rows L2
noncomputable section

theorem repB {K : PySem.W.Frag} {ρ : List Addr} {H : Hp} {b : Bool} : RepV K ρ H (.bl b) (.bl b) := by simp only [RepV]
theorem repI {K : PySem.W.Frag} {ρ : List Addr} {H : Hp} {b : Int} : RepV K ρ H (.int b) (.int b) := by simp only [RepV]
theorem repN {K : PySem.W.Frag} {ρ : List Addr} {H : Hp} : RepV K ρ H .non .non := by simp only [RepV]
theorem repS {K : PySem.W.Frag} {ρ : List Addr} {H : Hp} {s : List Nat} : RepV K ρ H (.str s) (.str ⟨s.toArray⟩) := by simp only [RepV]
theorem slen (s : List Nat) : (⟨s.toArray⟩ : Str).length = s.length := by show s.toArray.size = _; simp
theorem sapp (s t : List Nat) : (⟨s.toArray⟩ : Str) ++ ⟨t.toArray⟩ = ⟨(s ++ t).toArray⟩ := by
  show Str.mk (s.toArray ++ t.toArray) = _
  simp

/-! ### arithmetic -/
def gAdd (a b : Va) (st : Sto) : Option (Va × Sto) := match a, b with
  | .int i, .int j => some (.int (i + j), st)
  | .str s, .str t => @ite _ (s.length + t.length ≤ 16777216) (Classical.propDecidable _) (some (.str (s ++ t), st)) none
  | .tup xs, .tup ys => @ite _ (xs.length + ys.length ≤ 16777216) (Classical.propDecidable _) (some (.tup (xs ++ ys), st)) none
  | .ref m, .ref n => match st[m]?, st[n]? with
    | some (.lst xs), some (.lst ys) => @ite _ (xs.length + ys.length ≤ 16777216) (Classical.propDecidable _) (some (.ref st.length, st ++ [.lst (xs ++ ys)])) none
    | _, _ => none
  | _, _ => none
def gSub (a b : Va) (st : Sto) : Option (Va × Sto) := match a, b with
  | .int i, .int j => some (.int (i - j), st)
  | _, _ => none
def gMul (a b : Va) (st : Sto) : Option (Va × Sto) := match a, b with
  | .int i, .int j => @ite _ ((i.natAbs.log2 + j.natAbs.log2 < 1000000 ∨ i.natAbs < 18446744073709551616 ∨ j.natAbs < 18446744073709551616)) (Classical.propDecidable _) (some (.int (i * j), st)) none
  | .ref m, .int k => match st[m]? with
    | some (.lst xs) => @ite _ (-1000000000 ≤ k ∧ k < 1000000000 ∧ xs.length * k.toNat ≤ 16777216) (Classical.propDecidable _) (some (.ref st.length, st ++ [.lst (List.replicate k.toNat xs).flatten])) none
    | _ => none
  | .tup ws, .int k => if k = 1 then some (.tup ws, st) else @ite _ (ws ≠ [] ∧ 2 ≤ k ∧ k ≤ 1000 ∧ ws.length ≤ 1000) (Classical.propDecidable _) (some (.tup (List.replicate k.toNat ws).flatten, st)) (@ite _ (ws ≠ [] ∧ -1000 ≤ k ∧ k ≤ 0) (Classical.propDecidable _) (some (.tup [], st)) none)
  | _, _ => none
def gMod (a b : Va) (st : Sto) : Option (Va × Sto) := match a, b with
  | .int i, .int j => if 0 < j then some (.int (i % j), st) else none
  | _, _ => none
def gDiv (a b : Va) (st : Sto) : Option (Va × Sto) := match a, b with
  | .int i, .int j => @ite _ (0 < j ∧ j.natAbs.log2 < 9000) (Classical.propDecidable _) (some (.int (i / j), st)) none
  | _, _ => none
def gPow (a b : Va) (st : Sto) : Option (Va × Sto) := match a, b with
  | .int i, .int j => @ite _ (0 ≤ j ∧ j ≤ 1000000 ∧ i.natAbs < 18446744073709551616) (Classical.propDecidable _) (some (.int (i ^ j.toNat), st)) none
  | _, _ => none
def gNeg (a : Va) (st : Sto) : Option (Va × Sto) := match a with
  | .int i => some (.int (-i), st)
  | _ => none
section
variable {X : Cx}
theorem lst_of {K : PySem.W.Frag} {ρ : List Addr} {fm : Fm} {st : Sto} {σ : L2.St} {H : Hp} (R : Rel K ρ fm st σ H) {n : Nat} {v : V} {ws : List Va} (rv : RepV K ρ H (.ref n) v) (h : st[n]? = some (.lst ws)) :
    ∃ a vs, v = .ref a ∧ ρ[n]? = some a ∧ H a = some (.lst vs) ∧ RepL K ρ H ws vs := by
  simp only [RepV] at rv
  obtain ⟨a, rfl, e⟩ := rv
  obtain ⟨a', e', vs, hv, rl⟩ := R.s.sto n _ h
  rw [e] at e'; cases e'
  exact ⟨a, vs, rfl, e, hv, rl⟩
theorem rol_of {K : PySem.W.Frag} {ρ : List Addr} {fm : Fm} {st : Sto} {σ : L2.St} {H : Hp} (R : Rel K ρ fm st σ H) {n : Nat} {v : V} {ws : List Va} (rv : RepV K ρ H (.ref n) v) (h : st[n]? = some (.rol ws)) :
    ∃ a vs, v = .ref a ∧ ρ[n]? = some a ∧ SqL K H a vs ∧ RepL K ρ H ws vs := by
  simp only [RepV] at rv
  obtain ⟨a, rfl, e⟩ := rv
  obtain ⟨a', e', vs, hv, rl⟩ := R.s.sto n _ h
  rw [e] at e'; cases e'
  refine ⟨a, vs, rfl, e, ?_, rl⟩
  rcases hv with ⟨o, hv⟩ | (hv | ⟨o, hv⟩) | hv
  · exact .inl (.inr ⟨o, hv⟩)
  · cases hv
  · cases hv
  · exact .inr hv
theorem tup_of {K : PySem.W.Frag} {ρ : List Addr} {H : Hp} {v : V} {ws : List Va} (rv : RepV K ρ H (.tup ws) v) : ∃ a vs, v = .ref a ∧ SqT K H a vs ∧ RepL K ρ H ws vs := by
  simp only [RepV] at rv
  obtain ⟨a, vs, e, h, r⟩ := rv
  exact ⟨a, vs, e, SqT.of h, r⟩
theorem ktp_of {K : PySem.W.Frag} {ρ : List Addr} {H : Hp} {v : V} {ws : List Va} (rv : RepV K ρ H (.ktp ws) v) : ∃ a vs, v = .ref a ∧ SqT K H a vs ∧ RepL K ρ H ws vs := by
  simp only [RepV] at rv
  obtain ⟨a, vs, e, h, r⟩ := rv
  exact ⟨a, vs, e, SqT.const h, r⟩
/-- an operator by two or three rules -/
theorem opAdd : ∃ r, OpR X (binaryOp .Add) r ∧ MB X.K gAdd r := by
  refine ⟨_, (op_add.or (op_add_str.or (op_catA.or op_cat))), ?_⟩
  intro ρ fm st σ H a b x y w st' Q R ra rb e T
  unfold gAdd at e
  split at e
  · simp only [RepV] at ra rb; subst ra; subst rb; cases e
    exact .inl ⟨_, _, rfl, rfl, T.same R _ repI⟩
  · simp only [RepV] at ra rb; subst ra; subst rb
    split at e
    · rename_i s t hz
      cases e
      refine .inr (.inl ⟨_, _, rfl, rfl, by rw [slen, slen, sizeLine_eq]; exact hz, ?_⟩)
      rw [sapp]
      exact T.same R _ repS
    · cases e
  · split at e
    · rename_i xs ys hz
      cases e
      obtain ⟨a, vs, rfl, h1, r1⟩ := tup_of ra
      obtain ⟨b, us, rfl, h2, r2⟩ := tup_of rb
      have l1 := r1.length
      have l2 := r2.length
      refine .inr (.inr (.inl ⟨a, b, vs, us, rfl, rfl, h1, h2, by rw [← r1.length, ← r2.length, sizeLine_eq]; exact hz, fun e1 => ?_, fun _ e2 => ?_, fun _ _ p hp => ?_⟩))
      · subst e1
        have e0 : xs = [] := List.length_eq_zero_iff.mp (by simpa using l1)
        subst e0
        exact T.same R _ rb
      · subst e2
        have e0 : ys = [] := List.length_eq_zero_iff.mp (by simpa using l2)
        subst e0
        rw [List.append_nil] at T
        exact T.same R _ ra
      · refine T.tup R hp _ ?_
        simp only [RepV]
        exact ⟨p, _, rfl, upd_same, RepL.mono (List.prefix_refl _) (Kp.new hp) _ _ (r1.append r2)⟩
    · cases e
  · split at e
    · rename_i xs ys h1 h2
      split at e
      · rename_i hz
        cases e
        obtain ⟨a, vs, rfl, ea, g1, r1⟩ := lst_of R ra h1
        obtain ⟨b, us, rfl, eb, g2, r2⟩ := lst_of R rb h2
        refine .inr (.inr (.inr ⟨a, b, vs, us, rfl, rfl, g1, g2, by rw [← r1.length, ← r2.length, sizeLine_eq]; exact hz, fun p hp => ?_⟩))
        refine T.push R hp (o := .lst (xs ++ ys)) ⟨_, upd_same, RepL.mono (List.prefix_append _ _) (Kp.new hp) _ _ (r1.append r2)⟩ _ (ref_last R.s.rl)
      · cases e
    · cases e
  · cases e
theorem opSub : ∃ r, OpR X (binaryOp .Sub) r ∧ MB X.K gSub r := by
  refine ⟨_, op_sub, ?_⟩
  intro ρ fm st σ H a b x y w st' Q R ra rb e T
  unfold gSub at e
  split at e
  · simp only [RepV] at ra rb; subst ra; subst rb; cases e
    exact ⟨_, _, rfl, rfl, T.same R _ repI⟩
  · cases e
theorem mul1_meets (l : Addr) (its : Array Value) (n : Nat) (dd : Option Addr) (sl : Array (Option Value)) (u : Tok) :
    Meets (Builtin.«tuple.__mul__» ⟨[.ref l, .int 1 u], []⟩) (fun _ R s => s.heap.get? l = some ⟨.type "tuple", dd, .seq its n, sl⟩ ∧ R (.ok (.ret (.ref l))) s) :=
  .of_wp fun prog w A R s hh => by
    obtain ⟨hp, g, d, tk, os⟩ := s
    obtain ⟨hl, hh⟩ := hh
    have f1 := AutoSeq1.idx_int
    wp_walk using wpAny_loadPart' hl
    exact ⟨_, rfl, hh⟩
/-- a tuple, once: itself -/
theorem op_rep1 : OpR X (binaryOp .Mult) (fun x y H Q => ∃ l xs, x = .ref l ∧ y = .int 1 ∧ SqT X.K H l xs ∧ Q (.ref l) H) := by
  intro pins s σ H x y v u Q I rx ry hh
  obtain ⟨l, xs, rfl, rfl, hT, q⟩ := hh
  cases rx
  obtain ⟨t, rfl⟩ := ry
  obtain ⟨its, r, ⟨⟨cls, dd, data, sl⟩, ho, hc, n, hd⟩, _⟩ := I.tuple hT
  simp only at hc hd
  subst hc hd
  exact wpAny_binaryOp_repeat_ref (T := "tuple") (U := "int") (by decide) ⟨_, ho, rfl⟩ (fun s' => typeIs_int s' 1 t) noFill_tuple_mul F.fills_int_mul F.slot_int_rmul repeat_tuple F.slot_int_index.lookup
    (call_meets F.slot_int_rmul (typeIs_int s 1 t) F.entry_int_rmul (F.args_int_rmul_2 _ _) (int_rmul_tuple 1 t l its.toArray n dd sl)
      ⟨ho, rfl, ⟨_, ho, rfl⟩, call_meets F.slot_tuple_mul ⟨_, ho, rfl⟩ F.entry_tuple_mul (F.args_tuple_mul_2 _ _) (mul1_meets l its.toArray n dd sl t) ⟨ho, .ref l, H, I, rfl, q⟩⟩)
theorem mul0_meets (l : Addr) (items : Array Value) (n : Nat) (dd : Option Addr) (sl : Array (Option Value)) (x : Int) (u : Tok) (c0 : (decide (x < -(2 ^ 63)) || decide (x ≥ 2 ^ 63)) = false) (c1 : (items.isEmpty || x == 1) = false) (c2 : (decide (x ≤ 0) || items.isEmpty) = true) :
    Meets (Builtin.«tuple.__mul__» ⟨[.ref l, .int x u], []⟩) (fun _ R s => s.heap.get? l = some { cls := .type "tuple", dict := dd, data := .seq items n, slots := sl } ∧
      R (.ok (.ret (Value.ref s.heap.objs.size))) { s with heap := s.heap.push { cls := Value.type "tuple", data := Data.seq #[] }, toks := s.toks }) :=
  .of_wp fun prog w A R s h => by
    obtain ⟨hp, g, d, tk, os⟩ := s
    obtain ⟨hl, h⟩ := h
    have f1 := AutoSeq1.idx_int
    wp_walk using wpAny_loadPart' hl
    repeat (first
      | (refine wpAny_ite_false (decide_eq_false (by rw [c0]; exact Bool.false_ne_true)) ?_; wp_walk using wpAny_loadPart' hl)
      | (refine wpAny_ite_false (decide_eq_false (by rw [c1]; exact Bool.false_ne_true)) ?_; wp_walk using wpAny_loadPart' hl)
      | (refine wpAny_ite_true (decide_eq_true c2) ?_; wp_walk using wpAny_loadPart' hl))
    exact ⟨_, rfl, h⟩
/-- a tuple that is not empty, no time: the empty one -/
theorem op_rep0 : OpR X (binaryOp .Mult) (fun x y H Q => ∃ l k xs, x = .ref l ∧ y = .int k ∧ SqT X.K H l xs ∧ xs ≠ [] ∧ -1000 ≤ k ∧ k ≤ 0 ∧ ∀ p, H p = none → Q (.ref p) (upd H p (.tup []))) := by
  intro pins s σ H x y v u Q I rx ry hh
  obtain ⟨l, k, xs, rfl, rfl, hT, hne, h1, h2, q⟩ := hh
  cases rx
  obtain ⟨t, rfl⟩ := ry
  obtain ⟨its, r, ⟨⟨cls, dd, data, sl⟩, ho, hc, n, hd⟩, _⟩ := I.tuple hT
  simp only at hc hd
  subst hc hd
  have hn : its ≠ [] := fun e => hne (by
    have := r.length
    rw [e] at this
    exact List.eq_nil_of_length_eq_zero this)
  have hi : its.toArray.isEmpty = false := by
    cases its with
    | nil => exact absurd rfl hn
    | cons a b => rfl
  have c0 : (decide (k < -(2 ^ 63)) || decide (k ≥ 2 ^ 63)) = false := by
    rw [decide_eq_false (by omega), decide_eq_false (by omega)] <;> rfl
  have c1 : (its.toArray.isEmpty || k == 1) = false := by
    rw [hi, Bool.false_or]
    exact beq_eq_false_iff_ne.mpr (by omega)
  have c2 : (decide (k ≤ 0) || its.toArray.isEmpty) = true := by
    rw [decide_eq_true h2]; rfl
  refine wpAny_binaryOp_repeat_ref (T := "tuple") (U := "int") (by decide) ⟨_, ho, rfl⟩ (fun s' => typeIs_int s' k t) noFill_tuple_mul F.fills_int_mul F.slot_int_rmul repeat_tuple F.slot_int_index.lookup
    (call_meets F.slot_int_rmul (typeIs_int s k t) F.entry_int_rmul (F.args_int_rmul_2 _ _) (int_rmul_tuple k t l its.toArray n dd sl)
      ⟨ho, rfl, ⟨_, ho, rfl⟩, call_meets F.slot_tuple_mul ⟨_, ho, rfl⟩ F.entry_tuple_mul (F.args_tuple_mul_2 _ _) (mul0_meets l its.toArray n dd sl k t c0 c1 c2) ⟨ho, ?_⟩⟩)
  refine ⟨.ref s.heap.objs.size, _, I.laid (t' := s.toks) (o := .tup []) (fun b ob q => Heap.get?_push_of_some _ q) (Nat.le_refl _) ?_, rfl, q _ (I.hok.fresh (Nat.le_refl _))⟩
  exact ⟨Nat.zero_le _, [], .nil, IsTup.new _ _⟩
theorem opMul : ∃ r, OpR X (binaryOp .Mult) r ∧ MB X.K gMul r := by
  refine ⟨_, (op_mul.or (op_mulW.or (op_rep.or (op_repT.or (op_rep1.or op_rep0))))), ?_⟩
  intro ρ fm st σ H a b x y w st' Q R ra rb e T
  unfold gMul at e
  split at e
  · simp only [RepV] at ra rb; subst ra; subst rb
    split at e
    · rename_i i j hz
      cases e
      rcases hz with hz | hz | hz
      · exact .inr (.inl ⟨_, _, rfl, rfl, hz, T.same R _ repI⟩)
      · exact .inl ⟨_, _, rfl, rfl, .inl (by omega), T.same R _ repI⟩
      · exact .inl ⟨_, _, rfl, rfl, .inr (by omega), T.same R _ repI⟩
    · cases e
  · split at e
    · rename_i xs h1
      split at e
      · rename_i hz
        cases e
        obtain ⟨a, vs, rfl, ea, g1, r1⟩ := lst_of R ra h1
        simp only [RepV] at rb; subst rb
        refine .inr (.inr (.inl ⟨a, _, vs, rfl, rfl, g1, by omega, by omega, by rw [← r1.length, sizeLine_eq]; exact hz.2.2, fun p hp => ?_⟩))
        have rr : ∀ n : Nat, RepL X.K ρ H (List.replicate n xs).flatten (List.replicate n vs).flatten := by
          intro n
          induction n with
          | zero => exact RepL.nil
          | succ n ih => rw [List.replicate_succ, List.replicate_succ, List.flatten_cons, List.flatten_cons]; exact r1.append ih
        exact T.push R hp (o := .lst _) ⟨_, upd_same, RepL.mono (List.prefix_append _ _) (Kp.new hp) _ _ (rr _)⟩ _ (ref_last R.s.rl)
      · cases e
    · cases e
  · simp only [RepV] at rb; subst rb
    obtain ⟨a, vs, rfl, h1, r1⟩ := tup_of ra
    split at e
    · rename_i hk
      cases e; subst hk
      exact .inr (.inr (.inr (.inr (.inl ⟨a, vs, rfl, rfl, h1, T.same R _ ra⟩))))
    · split at e
      · rename_i ws k _ hz
        cases e
        have rr : ∀ n : Nat, RepL X.K ρ H (List.replicate n ws).flatten (List.replicate n vs).flatten := by
          intro n
          induction n with
          | zero => exact RepL.nil
          | succ n ih => rw [List.replicate_succ, List.replicate_succ, List.flatten_cons, List.flatten_cons]; exact r1.append ih
        refine .inr (.inr (.inr (.inl ⟨a, k, vs, rfl, rfl, h1, ?_, hz.2.1, hz.2.2.1, by rw [← r1.length]; exact hz.2.2.2, fun p hp => T.tup R hp _ ?_⟩)))
        · intro z; subst z
          have := r1.length
          exact hz.1 (List.length_eq_zero_iff.mp (by simpa using this))
        · simp only [RepV]
          exact ⟨p, _, rfl, upd_same, RepL.mono (List.prefix_refl _) (Kp.new hp) _ _ (rr _)⟩
      · split at e
        · rename_i ws k _ _ hz
          cases e
          refine .inr (.inr (.inr (.inr (.inr ⟨a, k, vs, rfl, rfl, h1, ?_, hz.2.1, hz.2.2, fun p hp => T.tup R hp _ ?_⟩))))
          · intro z; subst z
            have := r1.length
            exact hz.1 (List.length_eq_zero_iff.mp (by simpa using this))
          · simp only [RepV]
            exact ⟨p, [], rfl, upd_same, RepL.nil⟩
        · cases e
  · cases e
theorem opMod : ∃ r, OpR X (binaryOp .Mod) r ∧ MB X.K gMod r := by
  refine ⟨_, op_mod, ?_⟩
  intro ρ fm st σ H a b x y w st' Q R ra rb e T
  unfold gMod at e
  split at e
  · simp only [RepV] at ra rb; subst ra; subst rb
    split at e
    · rename_i hz
      cases e
      exact ⟨_, _, rfl, rfl, hz, T.same R _ repI⟩
    · cases e
  · cases e
theorem opDiv : ∃ r, OpR X (binaryOp .FloorDiv) r ∧ MB X.K gDiv r := by
  refine ⟨_, op_fdivW, ?_⟩
  intro ρ fm st σ H a b x y w st' Q R ra rb e T
  unfold gDiv at e
  split at e
  · simp only [RepV] at ra rb; subst ra; subst rb
    split at e
    · rename_i hz
      cases e
      exact ⟨_, _, rfl, rfl, hz, T.same R _ repI⟩
    · cases e
  · cases e
theorem opPow : ∃ r, OpR X (binaryOp .Pow) r ∧ MB X.K gPow r := by
  refine ⟨_, op_pow, ?_⟩
  intro ρ fm st σ H a b x y w st' Q R ra rb e T
  unfold gPow at e
  split at e
  · simp only [RepV] at ra rb; subst ra; subst rb
    split at e
    · rename_i hz
      cases e
      exact ⟨_, _, rfl, rfl, ⟨hz.1, hz.2.1, by omega⟩, T.same R _ repI⟩
    · cases e
  · cases e
theorem unNeg : ∃ r, UnR X (unaryOp .USub) r ∧ MU X.K gNeg r := by
  refine ⟨_, un_neg, ?_⟩
  intro ρ fm st σ H a x w st' Q R ra e T
  unfold gNeg at e
  split at e
  · simp only [RepV] at ra; subst ra; cases e
    exact ⟨_, rfl, T.same R _ repI⟩
  · cases e
section
variable {a b : Expr} {f1 f2 : Ev} {pos : Pos}
theorem de_add (ha : DE X a f1) (hb : DE X b f2) : DE X (.BinOp a .Add b pos) (eB gAdd f1 f2) := let ⟨_, h1, h2⟩ := opAdd; de_op h1 h2 ha hb
theorem de_sub (ha : DE X a f1) (hb : DE X b f2) : DE X (.BinOp a .Sub b pos) (eB gSub f1 f2) := let ⟨_, h1, h2⟩ := opSub; de_op h1 h2 ha hb
theorem de_mul (ha : DE X a f1) (hb : DE X b f2) : DE X (.BinOp a .Mult b pos) (eB gMul f1 f2) := let ⟨_, h1, h2⟩ := opMul; de_op h1 h2 ha hb
theorem de_mod (ha : DE X a f1) (hb : DE X b f2) : DE X (.BinOp a .Mod b pos) (eB gMod f1 f2) := let ⟨_, h1, h2⟩ := opMod; de_op h1 h2 ha hb
theorem de_div (ha : DE X a f1) (hb : DE X b f2) : DE X (.BinOp a .FloorDiv b pos) (eB gDiv f1 f2) := let ⟨_, h1, h2⟩ := opDiv; de_op h1 h2 ha hb
theorem de_pow (ha : DE X a f1) (hb : DE X b f2) : DE X (.BinOp a .Pow b pos) (eB gPow f1 f2) := let ⟨_, h1, h2⟩ := opPow; de_op h1 h2 ha hb
theorem de_neg (ha : DE X a f1) : DE X (.UnaryOp .USub a pos) (eU gNeg f1) := let ⟨_, h1, h2⟩ := unNeg; de_un h1 h2 ha
end
end
end
end T3
/-! T3, fourth part: comparisons, subscripts, iterators, comprehensions, calls of defs, defs, the law's end -/
namespace T3
open PySem PySem.Spec PyProof.Rows L2
noncomputable section

/-! ### comparisons -/
mutual
def toPy : Va → Option PyData
  | .non => some .none
  | .bl b => some (.bool b)
  | .int i => some (.int i)
  | .str s => some (.str ⟨s.toArray⟩)
  | .tup ws => (toPyL ws).map .tuple
  | _ => none
def toPyL : List Va → Option (List PyData)
  | [] => some []
  | w :: ws => (toPy w).bind fun d => (toPyL ws).map (d :: ·)
end
/-- a value's data, a list of the store too -/
def pyOf (w : Va) (st : Sto) : Option PyData := match w with
  | .ref n => match st[n]? with
    | some (.lst ws) => (toPyL ws).map .list
    | some (.rol ws) => (toPyL ws).map .list
    | _ => none
  | w => toPy w
def eqVa (a b : Va) (st : Sto) : Option Bool := match a, b with
  | .non, .non => some true
  | .int i, .int j => some (decide (i = j))
  | .bl i, .bl j => some (decide (i = j))
  | .str s, .str t => some (decide (s = t))
  | .non, .int _ => some false
  | .int _, .non => some false
  | .non, .bl _ => some false
  | .bl _, .non => some false
  | .non, .str _ => some false
  | .str _, .non => some false
  | .int _, .str _ => some false
  | .str _, .int _ => some false
  | .bl _, .str _ => some false
  | .str _, .bl _ => some false
  | a, b => (pyOf a st).bind fun d => (pyOf b st).bind fun e => if SeqAt.shaped d = true ∧ SeqAt.shaped e = true then some (PyData.eqv d e) else none
def gEq (a b : Va) (st : Sto) : Option (Va × Sto) := (eqVa a b st).map fun r => (.bl r, st)
def gNe (a b : Va) (st : Sto) : Option (Va × Sto) := (eqVa a b st).map fun r => (.bl (!r), st)
def gLt (a b : Va) (st : Sto) : Option (Va × Sto) := match a, b with
  | .int i, .int j => some (.bl (decide (i < j)), st)
  | .str s, .str t => some (.bl (decide (s < t)), st)
  | _, _ => none
def gLe (a b : Va) (st : Sto) : Option (Va × Sto) := match a, b with
  | .int i, .int j => some (.bl (decide (i ≤ j)), st)
  | .str s, .str t => some (.bl (!decide (t < s)), st)
  | _, _ => none
def gGt (a b : Va) (st : Sto) : Option (Va × Sto) := match a, b with
  | .int i, .int j => some (.bl (decide (j < i)), st)
  | .str s, .str t => some (.bl (decide (t < s)), st)
  | _, _ => none
def gGe (a b : Va) (st : Sto) : Option (Va × Sto) := match a, b with
  | .int i, .int j => some (.bl (decide (j ≤ i)), st)
  | .str s, .str t => some (.bl (!decide (s < t)), st)
  | _, _ => none
def isNon : Va → Bool
  | .non => true
  | _ => false
def gIs (a b : Va) (st : Sto) : Option (Va × Sto) := match a, b with
  | a, .non => some (.bl (isNon a), st)
  | .bl i, .bl j => some (.bl (decide (i = j)), st)
  | _, _ => none
def gIsN (a b : Va) (st : Sto) : Option (Va × Sto) := match a, b with
  | a, .non => some (.bl (!isNon a), st)
  | .bl i, .bl j => some (.bl (!decide (i = j)), st)
  | _, _ => none
section
variable {K : PySem.W.Frag} {ρ : List Addr} {H : Hp}
mutual
theorem toPy_dp : ∀ (w : Va) (v : V) (d : PyData), RepV K ρ H w v → toPy w = some d → Dp K H v d
  | .non, _, _, r, e => by simp only [RepV] at r; subst r; cases e; exact .non
  | .bl b, _, _, r, e => by simp only [RepV] at r; subst r; cases e; exact .bl b
  | .int b, _, _, r, e => by simp only [RepV] at r; subst r; cases e; exact .int b
  | .str b, _, _, r, e => by simp only [RepV] at r; subst r; cases e; exact .str _
  | .tup ws, _, _, r, e => by
    simp only [RepV] at r
    obtain ⟨a, vs, rfl, h, rl⟩ := r
    simp only [toPy, Option.map_eq_some_iff] at e
    obtain ⟨ds, e, rfl⟩ := e
    exact .tup (SqT.of h) (toPyL_dp ws vs ds rl e)
  | .ktp _, _, _, r, e => by simp [toPy] at e
  | .ref _, _, _, r, e => by simp [toPy] at e
  | .ty _, _, _, r, e => by simp [toPy] at e
theorem toPyL_dp : ∀ (ws : List Va) (vs : List V) (ds : List PyData), RepL K ρ H ws vs → toPyL ws = some ds → DpAll K H vs ds
  | [], _, _, r, e => by simp only [RepL] at r; subst r; cases e; exact .nil
  | w :: ws, _, _, r, e => by
    simp only [RepL] at r
    obtain ⟨v, vs, rfl, r1, r2⟩ := r
    simp only [toPyL, Option.bind_eq_some_iff, Option.map_eq_some_iff] at e
    obtain ⟨d, e1, ds, e2, rfl⟩ := e
    exact .cons (toPy_dp w v d r1 e1) (toPyL_dp ws vs ds r2 e2)
end
theorem pyOf_dp {fm : Fm} {st : Sto} {σ : L2.St} {w : Va} {v : V} {d : PyData} (R : Rel K ρ fm st σ H) (r : RepV K ρ H w v) (e : pyOf w st = some d) : Dp K H v d := by
  cases w with
  | ref n =>
    simp only [pyOf] at e
    split at e
    · rename_i ws h
      obtain ⟨a, vs, rfl, ea, g1, r1⟩ := lst_of R r h
      simp only [Option.map_eq_some_iff] at e
      obtain ⟨ds, e, rfl⟩ := e
      exact .lst (SqL.of g1) (toPyL_dp _ _ _ r1 e)
    · rename_i ws h
      obtain ⟨a, vs, rfl, ea, g1, r1⟩ := rol_of R r h
      simp only [Option.map_eq_some_iff] at e
      obtain ⟨ds, e, rfl⟩ := e
      exact .lst g1 (toPyL_dp _ _ _ r1 e)
    · cases e
  | non => exact toPy_dp _ _ _ r e
  | bl _ => exact toPy_dp _ _ _ r e
  | int _ => exact toPy_dp _ _ _ r e
  | str _ => exact toPy_dp _ _ _ r e
  | tup _ => exact toPy_dp _ _ _ r e
  | ktp _ => exact toPy_dp _ _ _ r e
  | ty _ => exact toPy_dp _ _ _ r e
theorem dec_str2 {s t : List Nat} : decide (V.str ⟨s.toArray⟩ = V.str ⟨t.toArray⟩) = decide (s = t) := by
  rw [decide_eq_decide]
  constructor
  · intro h; injection h with h; injection h with h; simpa using congrArg Array.toList h
  · intro h; rw [h]
theorem isNon_of {w : Va} {v : V} (r : RepV K ρ H w v) : decide (v = .non) = isNon w := by
  cases w <;> simp only [RepV] at r <;> (try subst r) <;> simp [isNon]
  · obtain ⟨a, vs, rfl, _⟩ := r; simp
  · obtain ⟨a, vs, rfl, _⟩ := r; simp
  · obtain ⟨a, rfl, _⟩ := r; simp
end
section
variable {X : Cx}
theorem eqCase {K : PySem.W.Frag} {ρ : List Addr} {fm : Fm} {st : Sto} {σ : L2.St} {H : Hp} {a b : Va} {x y : V} {r : Bool} (R : Rel K ρ fm st σ H) (ra : RepV K ρ H a x) (rb : RepV K ρ H b y) (e : eqVa a b st = some r) :
    (scal x y = true ∧ decide (x = y) = r) ∨ ∃ d e, Dp K H x d ∧ Dp K H y e ∧ SeqAt.shaped d = true ∧ SeqAt.shaped e = true ∧ PyData.eqv d e = r := by
  unfold eqVa at e
  split at e
  all_goals first
    | (simp only [RepV] at ra rb; subst ra; subst rb; cases e; exact .inl ⟨rfl, rfl⟩)
    | (simp only [RepV] at ra rb; subst ra; subst rb; cases e; exact .inl ⟨rfl, by simp⟩)
    | (simp only [RepV] at ra rb; subst ra; subst rb; cases e; exact .inl ⟨rfl, dec_str2⟩)
    | (simp only [Option.bind_eq_some_iff] at e
       obtain ⟨d, e1, d', e2, e3⟩ := e
       split at e3
       · rename_i hz
         cases e3
         exact .inr ⟨d, d', pyOf_dp R ra e1, pyOf_dp R rb e2, hz.1, hz.2, rfl⟩
       · cases e3)
theorem cmpEq (hu : X.A.units + 64 < cLine) : ∃ r, OpR X (compareOp .Eq) r ∧ MB X.K gEq r := by
  refine ⟨_, op_eq.or (op_eqD hu), ?_⟩
  intro ρ fm st σ H a b x y w st' Q R ra rb e T
  simp only [gEq, Option.map_eq_some_iff] at e
  obtain ⟨r, e, e2⟩ := e
  cases e2
  rcases eqCase R ra rb e with ⟨h1, h2⟩ | ⟨d, d', h1, h2, h3, h4, h5⟩
  · exact .inl ⟨h1, by rw [h2]; exact T.same R _ repB⟩
  · exact .inr ⟨d, d', h1, h2, h3, h4, by rw [h5]; exact T.same R _ repB⟩
theorem cmpNe (hu : X.A.units + 64 < cLine) : ∃ r, OpR X (compareOp .NotEq) r ∧ MB X.K gNe r := by
  refine ⟨_, op_ne.or (op_neD hu), ?_⟩
  intro ρ fm st σ H a b x y w st' Q R ra rb e T
  simp only [gNe, Option.map_eq_some_iff] at e
  obtain ⟨r, e, e2⟩ := e
  cases e2
  rcases eqCase R ra rb e with ⟨h1, h2⟩ | ⟨d, d', h1, h2, h3, h4, h5⟩
  · exact .inl ⟨h1, by rw [h2]; exact T.same R _ repB⟩
  · exact .inr ⟨d, d', h1, h2, h3, h4, by rw [h5]; exact T.same R _ repB⟩
theorem cmpLt : ∃ r, OpR X (compareOp .Lt) r ∧ MB X.K gLt r := by
  refine ⟨_, op_lt.or op_lt_str, ?_⟩
  intro ρ fm st σ H a b x y w st' Q R ra rb e T
  unfold gLt at e
  split at e
  · simp only [RepV] at ra rb; subst ra; subst rb; cases e; exact .inl ⟨_, _, rfl, rfl, T.same R _ repB⟩
  · simp only [RepV] at ra rb; subst ra; subst rb; cases e; exact .inr ⟨_, _, rfl, rfl, T.same R _ (by simp only [RepV])⟩
  · cases e
theorem cmpLe : ∃ r, OpR X (compareOp .LtE) r ∧ MB X.K gLe r := by
  refine ⟨_, op_le.or op_le_str, ?_⟩
  intro ρ fm st σ H a b x y w st' Q R ra rb e T
  unfold gLe at e
  split at e
  · simp only [RepV] at ra rb; subst ra; subst rb; cases e; exact .inl ⟨_, _, rfl, rfl, T.same R _ repB⟩
  · simp only [RepV] at ra rb; subst ra; subst rb; cases e; exact .inr ⟨_, _, rfl, rfl, T.same R _ (by simp only [RepV])⟩
  · cases e
theorem cmpGt : ∃ r, OpR X (compareOp .Gt) r ∧ MB X.K gGt r := by
  refine ⟨_, op_gt.or op_gt_str, ?_⟩
  intro ρ fm st σ H a b x y w st' Q R ra rb e T
  unfold gGt at e
  split at e
  · simp only [RepV] at ra rb; subst ra; subst rb; cases e; exact .inl ⟨_, _, rfl, rfl, T.same R _ repB⟩
  · simp only [RepV] at ra rb; subst ra; subst rb; cases e; exact .inr ⟨_, _, rfl, rfl, T.same R _ (by simp only [RepV])⟩
  · cases e
theorem cmpGe : ∃ r, OpR X (compareOp .GtE) r ∧ MB X.K gGe r := by
  refine ⟨_, op_ge.or op_ge_str, ?_⟩
  intro ρ fm st σ H a b x y w st' Q R ra rb e T
  unfold gGe at e
  split at e
  · simp only [RepV] at ra rb; subst ra; subst rb; cases e; exact .inl ⟨_, _, rfl, rfl, T.same R _ repB⟩
  · simp only [RepV] at ra rb; subst ra; subst rb; cases e; exact .inr ⟨_, _, rfl, rfl, T.same R _ (by simp only [RepV])⟩
  · cases e
theorem cmpIs : ∃ r, OpR X (compareOp .Is) r ∧ MB X.K gIs r := by
  refine ⟨_, op_isN.or op_isBl, ?_⟩
  intro ρ fm st σ H a b x y w st' Q R ra rb e T
  unfold gIs at e
  split at e
  · simp only [RepV] at rb; cases e; exact .inl ⟨rb, by rw [isNon_of ra]; exact T.same R _ repB⟩
  · simp only [RepV] at ra rb; cases e; exact .inr ⟨_, _, ra, rb, T.same R _ repB⟩
  · cases e
theorem cmpIsN : ∃ r, OpR X (compareOp .IsNot) r ∧ MB X.K gIsN r := by
  refine ⟨_, op_notN.or op_notBl, ?_⟩
  intro ρ fm st σ H a b x y w st' Q R ra rb e T
  unfold gIsN at e
  split at e
  · simp only [RepV] at rb; cases e; exact .inl ⟨rb, by rw [isNon_of ra]; exact T.same R _ repB⟩
  · simp only [RepV] at ra rb; cases e; exact .inr ⟨_, _, ra, rb, T.same R _ repB⟩
  · cases e
end
end
end T3
/-! T3, fifth part: subscripts, iterators, comprehensions, calls, defs, the law's end -/
namespace T3
open PySem PySem.Spec PyProof.Rows L2
noncomputable section

/-! ### either of two readings -/
theorem PE.orr {X : Cx} {e : Expr} {t u : TE} (h : PE X e t) (h' : PE X e u) : PE X e (fun σ H Q => t σ H Q ∨ u σ H Q) := ⟨fun pins s σ H Q I q => q.elim (h.run pins s σ H Q I) (h'.run pins s σ H Q I)⟩
theorem PI.orr {X : Cx} {tg e : Expr} {t u : TI} (h : PI X tg e t) (h' : PI X tg e u) : PI X tg e (fun σ H Q => t σ H Q ∨ u σ H Q) := ⟨fun pins s σ H Q I q => q.elim (h.run pins s σ H Q I) (h'.run pins s σ H Q I)⟩
theorem PS.orr {X : Cx} {e : Stmt} {t u : TS} (h : PS X e t) (h' : PS X e u) : PS X e (fun D σ H => t D σ H ∨ u D σ H) := ⟨fun pins s σ H D I q => q.elim (h.run pins s σ H D I) (h'.run pins s σ H D I)⟩

/-! ### keys -/
def keyOf : Va → Option Key
  | .int i => some (.inl i)
  | .str s => some (.inr ⟨s.toArray⟩)
  | _ => none
def keysOf : List Va → Option (List Key)
  | [] => some []
  | w :: ws => (keyOf w).bind fun k => (keysOf ws).map (k :: ·)
theorem keyOf_rep {K : PySem.W.Frag} {ρ : List Addr} {H : Hp} {w : Va} {v : V} {k : Key} (r : RepV K ρ H w v) (e : keyOf w = some k) : v = kV k := by
  cases w <;> simp [keyOf] at e <;> subst e <;> simpa only [RepV, kV] using r
theorem keysOf_rep {K : PySem.W.Frag} {ρ : List Addr} {H : Hp} : ∀ {ws : List Va} {vs : List V} {k : List Key}, RepL K ρ H ws vs → keysOf ws = some k → vs = k.map kV
  | [], _, _, r, e => by simp only [RepL] at r; cases e; exact r
  | w :: ws, _, _, r, e => by
    simp only [RepL] at r
    obtain ⟨v, vs, rfl, r1, r2⟩ := r
    simp only [keysOf, Option.bind_eq_some_iff, Option.map_eq_some_iff] at e
    obtain ⟨k, e1, ks, e2, rfl⟩ := e
    rw [List.map_cons, keyOf_rep r1 e1, keysOf_rep r2 e2]
section
variable {κ : Type} [DecidableEq κ]
def dGet (kvs : List (κ × Va)) (k : κ) : Option Va := (kvs.find? fun p => decide (p.1 = k)).map (·.2)
def dPut (kvs : List (κ × Va)) (k : κ) (v : Va) : List (κ × Va) := if kvs.any (fun p => decide (p.1 = k)) then kvs.map (fun p => if p.1 = k then (p.1, v) else p) else kvs ++ [(k, v)]
theorem dGet_rep {K : PySem.W.Frag} {ρ : List Addr} {H : Hp} {k : κ} : ∀ {kvs : List (κ × Va)} {ks : List (κ × V)}, ks.map (·.1) = kvs.map (·.1) → RepL K ρ H (kvs.map (·.2)) (ks.map (·.2)) →
    match dGet kvs k with
    | some w => ∃ v, valV ks k = some v ∧ RepV K ρ H w v
    | none => valV ks k = none
  | [], ks, m, r => by
    have : ks = [] := by simpa using m
    subst this; rfl
  | p :: kvs, [], m, _ => by simp at m
  | p :: kvs, q :: ks, m, r => by
    simp only [List.map_cons, List.cons.injEq] at m
    simp only [List.map_cons, RepL] at r
    obtain ⟨v, vs, e, r1, r2⟩ := r
    simp only [List.cons.injEq] at e
    obtain ⟨e1, e2⟩ := e
    subst e1; subst e2
    have ih := dGet_rep (k := k) m.2 r2
    by_cases h : p.1 = k
    · have h' : q.1 = k := m.1.trans h
      have : dGet (p :: kvs) k = some p.2 := by simp [dGet, List.find?_cons, h]
      rw [this]
      exact ⟨q.2, valV_pos h', r1⟩
    · have h' : ¬ q.1 = k := fun z => h (m.1 ▸ z)
      have : dGet (p :: kvs) k = dGet kvs k := by simp [dGet, List.find?_cons, h]
      rw [this, valV_neg h']
      exact ih
theorem any_keys {k : κ} : ∀ {kvs : List (κ × Va)} {ks : List (κ × V)}, ks.map (·.1) = kvs.map (·.1) → (ks.any fun p => decide (p.1 = k)) = (kvs.any fun p => decide (p.1 = k))
  | [], ks, m => by have : ks = [] := by simpa using m
                    subst this; rfl
  | p :: kvs, [], m => by simp at m
  | p :: kvs, q :: ks, m => by
    simp only [List.map_cons, List.cons.injEq] at m
    simp only [List.any_cons, any_keys m.2, m.1]
theorem dPut_rep {K : PySem.W.Frag} {ρ : List Addr} {H : Hp} {k : κ} {w : Va} {v : V} (rw' : RepV K ρ H w v) {kvs : List (κ × Va)} {ks : List (κ × V)} (m : ks.map (·.1) = kvs.map (·.1)) (r : RepL K ρ H (kvs.map (·.2)) (ks.map (·.2))) :
    (putK ks k v).map (·.1) = (dPut kvs k w).map (·.1) ∧ RepL K ρ H ((dPut kvs k w).map (·.2)) ((putK ks k v).map (·.2)) := by
  unfold putK dPut
  rw [any_keys m]
  split
  · rename_i hany; clear hany
    induction kvs generalizing ks with
    | nil =>
      have : ks = [] := by simpa using m
      subst this; exact ⟨rfl, RepL.nil⟩
    | cons p kvs ih =>
      cases ks with
      | nil => simp at m
      | cons q ks =>
        simp only [List.map_cons, List.cons.injEq] at m
        simp only [List.map_cons, RepL] at r
        obtain ⟨v', vs, e, r1, r2⟩ := r
        simp only [List.cons.injEq] at e
        obtain ⟨e1, e2⟩ := e
        subst e1; subst e2
        obtain ⟨i1, i2⟩ := ih m.2 r2
        by_cases h : p.1 = k
        · have h' : q.1 = k := m.1.trans h
          simp only [List.map_cons, h, h', if_true]
          exact ⟨by rw [i1], RepL.cons rw' i2⟩
        · have h' : ¬ q.1 = k := fun z => h (m.1 ▸ z)
          simp only [List.map_cons, h, h', if_false]
          exact ⟨by rw [i1, m.1], RepL.cons r1 i2⟩
  · simp only [List.map_append, m]
    exact ⟨rfl, RepL.append r (RepL.one rw')⟩
end

/-! ### subscripts -/
def pickW (ws : List Va) (i : Int) (st : Sto) : Option (Va × Sto) := (atI ws i).map fun w => (w, st)
/-- a dict's entry -/
def dicAt (o : Ob) (k : Va) : Option (Option Va) := match o, k with
  | .dic kvs, k => (keyOf k).map (dGet kvs)
  | .dit kvs, .tup ks => (keysOf ks).map (dGet kvs)
  | _, _ => none
def gIx (a b : Va) (st : Sto) : Option (Va × Sto) := match a, b with
  | .tup ws, .int i => pickW ws i st
  | .str s, .int i => @ite _ (s.length ≤ 16777216) (Classical.propDecidable _) ((atI s i).map fun c => (.str [c], st)) none
  | .ref n, b => match st[n]?, b with
    | some (.lst ws), .int i => pickW ws i st
    | some (.rol ws), .int i => pickW ws i st
    | some o, k => (dicAt o k).bind fun r => r.map fun w => (w, st)
    | _, _ => none
  | _, _ => none
theorem atI_rep {K : PySem.W.Frag} {ρ : List Addr} {H : Hp} {ws : List Va} {vs : List V} {i : Int} {w : Va} (r : RepL K ρ H ws vs) (e : atI ws i = some w) : ∃ v, atI vs i = some v ∧ RepV K ρ H w v := by
  unfold atI at e ⊢
  rw [← r.length]
  simp only [Option.bind_eq_some_iff] at e ⊢
  obtain ⟨j, e1, e2⟩ := e
  obtain ⟨v, e3, rv⟩ := r.get e2
  exact ⟨v, ⟨j, e1, e3⟩, rv⟩
section
variable {X : Cx} {a b e o : Expr} {es : List Expr} {f1 f2 f fo : Ev} {fs : Evs} {pos p apos cpos : Pos}
/-- what a dict of the store gives: its keys are ints or texts -/
theorem dic_get {K : PySem.W.Frag} {ρ : List Addr} {fm : Fm} {st : Sto} {σ : L2.St} {H : Hp} (R : Rel K ρ fm st σ H) {n : Nat} {v : V} {kvs : List (Key × Va)} (rv : RepV K ρ H (.ref n) v) (h : st[n]? = some (.dic kvs)) :
    ∃ a ks, v = .ref a ∧ ρ[n]? = some a ∧ H a = some (.dK ks) ∧ ks.map (·.1) = kvs.map (·.1) ∧ RepL K ρ H (kvs.map (·.2)) (ks.map (·.2)) := by
  simp only [RepV] at rv
  obtain ⟨a, rfl, e⟩ := rv
  obtain ⟨a', e', ks, hv, m, rl⟩ := R.s.sto n _ h
  rw [e] at e'; cases e'
  exact ⟨a, ks, rfl, e, hv, m, rl⟩
theorem dit_get {K : PySem.W.Frag} {ρ : List Addr} {fm : Fm} {st : Sto} {σ : L2.St} {H : Hp} (R : Rel K ρ fm st σ H) {n : Nat} {v : V} {kvs : List (List Key × Va)} (rv : RepV K ρ H (.ref n) v) (h : st[n]? = some (.dit kvs)) :
    ∃ a ks, v = .ref a ∧ ρ[n]? = some a ∧ H a = some (.dT ks) ∧ ks.map (·.1) = kvs.map (·.1) ∧ RepL K ρ H (kvs.map (·.2)) (ks.map (·.2)) := by
  simp only [RepV] at rv
  obtain ⟨a, rfl, e⟩ := rv
  obtain ⟨a', e', ks, hv, m, rl⟩ := R.s.sto n _ h
  rw [e] at e'; cases e'
  exact ⟨a, ks, rfl, e, hv, m, rl⟩
/-- what a dict gives at a key -/
theorem dic_at {K : PySem.W.Frag} {ρ : List Addr} {fm : Fm} {st : Sto} {σ : L2.St} {H : Hp} (R : Rel K ρ fm st σ H) {n : Nat} {v z : V} {o : Ob} {k : Va} {r : Option Va} (rv : RepV K ρ H (.ref n) v) (h : st[n]? = some o) (rk : RepV K ρ H k z) (e : dicAt o k = some r) :
    ∃ a q, v = .ref a ∧ DGet H a z q ∧ match r with
      | some w => ∃ v, q = some v ∧ RepV K ρ H w v
      | none => q = none := by
  unfold dicAt at e
  split at e
  · rename_i kvs
    simp only [Option.map_eq_some_iff] at e
    obtain ⟨k', ek, er⟩ := e
    obtain ⟨a, ks, rfl, ea, g1, m, r1⟩ := dic_get R rv h
    have hv := keyOf_rep rk ek
    subst hv
    have q := dGet_rep (k := k') m r1
    rw [er] at q
    refine ⟨a, valV ks k', rfl, .inl ⟨ks, k', .inl g1, rfl, rfl⟩, ?_⟩
    cases r with
    | none => exact q
    | some w => exact q
  · rename_i kvs kk
    simp only [Option.map_eq_some_iff] at e
    obtain ⟨k', ek, er⟩ := e
    obtain ⟨a, ks, rfl, ea, g1, m, r1⟩ := dit_get R rv h
    simp only [RepV] at rk
    obtain ⟨b, vs, rfl, hb, rl⟩ := rk
    have hv := keysOf_rep rl ek
    subst hv
    have q := dGet_rep (k := k') m r1
    rw [er] at q
    refine ⟨a, valV ks k', rfl, .inr ⟨ks, k', b, .inl g1, rfl, hb, rfl⟩, ?_⟩
    cases r with
    | none => exact q
    | some w => exact q
  · cases e
theorem de_ix2 (ha : DE X a f1) (hb : DE X b f2) (hu : X.A.units + 1 < cLine) (hs : PlainIx b := by exact fun _ _ => rfl) : DE X (.Subscript a b pos) (eB gIx f1 f2) := PEi (PE.orr (pe_ix ix_seq ha hb hs) (pe_dget hu ha hb hs)) fun σ H Q h => by
  obtain ⟨ρ, fm, st, w, st', R, e, T⟩ := h
  simp only [eB, Option.bind_eq_some_iff] at e
  obtain ⟨⟨x, s1⟩, e1, ⟨y, s2⟩, e2, e3⟩ := e
  dsimp only at e2 e3
  by_cases hd : ∃ (n : Nat) (o : Ob) (q : Va), x = .ref n ∧ s2[n]? = some o ∧ dicAt o y = some (some q) ∧ (w, st') = (q, s2)
  · obtain ⟨n, o, q, rfl, hn, hq, e4⟩ := hd
    cases e4
    refine .inr ⟨ρ, fm, st, _, s1, R, e1, fun ρ1 H1 p1 k1 R1 x rx => ⟨ρ1, fm, s1, y, st', R1, e2, fun ρ2 H2 p2 k2 R2 z rz => ?_⟩⟩
    obtain ⟨a, q', rfl, dg, v, rfl, rv⟩ := dic_at R2 (RepV.mono p2 k2 _ _ rx) hn rz hq
    exact ⟨a, v, rfl, dg, (T.then (List.IsPrefix.trans p1 p2) (k1.trans k2)).same R2 v rv⟩
  · refine .inl ⟨ρ, fm, st, x, s1, R, e1, fun ρ1 H1 p1 k1 R1 u rx => ⟨ρ1, fm, s1, y, s2, R1, e2, fun ρ2 H2 p2 k2 R2 z rz => ?_⟩⟩
    have rx := RepV.mono p2 k2 _ _ rx
    have T := T.then (List.IsPrefix.trans p1 p2) (k1.trans k2)
    unfold gIx at e3
    split at e3
    · simp only [pickW, Option.map_eq_some_iff] at e3
      obtain ⟨q, eq, e4⟩ := e3
      cases e4
      obtain ⟨a, vs, rfl, h1, r1⟩ := tup_of rx
      simp only [RepV] at rz
      obtain ⟨v, ev, rv⟩ := atI_rep r1 eq
      exact .inr (.inl ⟨a, vs, _, v, rfl, rz, h1, ev, T.same R2 v rv⟩)
    · split at e3
      · rename_i s i hz
        simp only [Option.map_eq_some_iff] at e3
        obtain ⟨q, eq, e4⟩ := e3
        cases e4
        simp only [RepV] at rx rz
        exact .inr (.inr ⟨_, _, q, rx, rz, by rw [slen, sizeLine_eq]; exact hz, by simpa using eq, T.same R2 _ repS⟩)
      · cases e3
    · split at e3
      · rename_i h1
        simp only [pickW, Option.map_eq_some_iff] at e3
        obtain ⟨q, eq, e4⟩ := e3
        cases e4
        obtain ⟨a, vs, rfl, ea, g1, r1⟩ := lst_of R2 rx h1
        simp only [RepV] at rz
        obtain ⟨v, ev, rv⟩ := atI_rep r1 eq
        exact .inl ⟨a, vs, _, v, rfl, rz, SqL.of g1, ev, T.same R2 v rv⟩
      · rename_i h1
        simp only [pickW, Option.map_eq_some_iff] at e3
        obtain ⟨q, eq, e4⟩ := e3
        cases e4
        obtain ⟨a, vs, rfl, ea, g1, r1⟩ := rol_of R2 rx h1
        simp only [RepV] at rz
        obtain ⟨v, ev, rv⟩ := atI_rep r1 eq
        exact .inl ⟨a, vs, _, v, rfl, rz, g1, ev, T.same R2 v rv⟩
      · rename_i o ho _ _
        simp only [Option.bind_eq_some_iff, Option.map_eq_some_iff] at e3
        obtain ⟨r, er, q, rfl, e4⟩ := e3
        exact absurd ⟨_, o, q, rfl, ho, er, e4.symm⟩ hd
      · cases e3
    · cases e3
end

/-! ### iterators -/
def strW (s : List Nat) : List Va := s.map fun c => .str [c]
def srcOf (w : Va) (st : Sto) : Option Src := match w with
  | .tup ws => some ⟨ws, fun _ => True⟩
  | .ktp ws => some ⟨ws, fun _ => True⟩
  | .str s => some ⟨strW s, fun _ => True⟩
  | .ref n => match st[n]? with
    | some (.lst ws) => some ⟨ws, fun st => st[n]? = some (.lst ws)⟩
    | some (.rol ws) => some ⟨ws, fun st => st[n]? = some (.rol ws)⟩
    | _ => none
  | _ => none
def iA (f : Ev) : Fi := fun fm st => (f fm st).bind fun p => (srcOf p.1 p.2).map fun S => (S, p.2)
def rngW (lo : Int) (n : Nat) : List Va := (List.range n).map fun (k : Nat) => Va.int (lo + (k : Int))
def iR1 (g : Ev) : Fi := fun fm st => (g fm st).bind fun p => match p.1 with
  | .int j => @ite _ (-1000000000 ≤ j ∧ j < 1000000000) (Classical.propDecidable _) (some (⟨rngW 0 j.toNat, fun _ => True⟩, p.2)) none
  | _ => none
def iR2 (f g : Ev) : Fi := fun fm st => (f fm st).bind fun p => (g fm p.2).bind fun q => match p.1, q.1 with
  | .int i, .int j => @ite _ (-1000000000 ≤ i ∧ i < 1000000000 ∧ -1000000000 ≤ j ∧ j < 1000000000) (Classical.propDecidable _) (some (⟨rngW i (j - i).toNat, fun _ => True⟩, q.2)) none
  | _, _ => none
theorem jok_range {K : PySem.W.Frag} {ρ : List Addr} {H : Hp} {lo : Int} {n : Nat} : JOk K ρ H ⟨rngW lo n, fun _ => True⟩ (Itr lo n) := by
  intro i ρ' fm st σ H' hp hk R _
  refine ⟨fun w hw => ⟨?_, fun x H2 ⟨e1, e2⟩ => ?_⟩, fun e => ?_⟩
  · have := (List.getElem?_eq_some_iff.mp hw).1
    simp [rngW] at this
    exact this
  · subst e1; subst e2
    refine ⟨fun _ _ h => h, Kp.refl, ?_⟩
    simp only [rngW, List.getElem?_map, Option.map_eq_some_iff] at hw
    obtain ⟨k, hk, rfl⟩ := hw
    have hl := (List.getElem?_eq_some_iff.mp hk)
    simp at hl
    obtain ⟨h1, h2⟩ := hl
    subst h2
    simp only [RepV]
  · simp [rngW] at e
    show n ≤ i
    omega
theorem jok_list {K : PySem.W.Frag} {ρ : List Addr} {H : Hp} {n : Nat} {a : Addr} {ws : List Va} (ha : ρ[n]? = some a) : JOk K ρ H ⟨ws, fun st => st[n]? = some (.lst ws)⟩ (Itl K a) := by
  intro i ρ' fm st σ H' hp hk R hg
  obtain ⟨b, vs, e, ea, g1, r1⟩ := lst_of R (v := .ref a) (by simp only [RepV]; exact ⟨a, rfl, pre_get hp ha⟩) hg
  cases e
  refine ⟨fun w hw => ?_, fun e => ⟨vs, SqL.of g1, by rw [← r1.length]; simp [e]⟩⟩
  obtain ⟨v, hv, rv⟩ := r1.get hw
  refine ⟨⟨vs, v, SqL.of g1, hv⟩, fun x H2 ⟨e1, e2⟩ => ?_⟩
  subst e1
  have := e2 vs (SqL.of g1)
  rw [hv] at this; cases this
  exact ⟨fun _ _ h => h, Kp.refl, rv⟩
theorem jok_rol {K : PySem.W.Frag} {ρ : List Addr} {H : Hp} {n : Nat} {a : Addr} {ws : List Va} (ha : ρ[n]? = some a) : JOk K ρ H ⟨ws, fun st => st[n]? = some (.rol ws)⟩ (Itl K a) := by
  intro i ρ' fm st σ H' hp hk R hg
  obtain ⟨b, vs, e, ea, g1, r1⟩ := rol_of R (v := .ref a) (by simp only [RepV]; exact ⟨a, rfl, pre_get hp ha⟩) hg
  cases e
  refine ⟨fun w hw => ?_, fun e => ⟨vs, g1, by rw [← r1.length]; simp [e]⟩⟩
  obtain ⟨v, hv, rv⟩ := r1.get hw
  refine ⟨⟨vs, v, g1, hv⟩, fun x H2 ⟨e1, e2⟩ => ?_⟩
  subst e1
  have := e2 vs g1
  rw [hv] at this; cases this
  exact ⟨fun _ _ h => h, Kp.refl, rv⟩
theorem jok_tup {K : PySem.W.Frag} {ρ : List Addr} {H : Hp} {a : Addr} {ws : List Va} {vs : List V} (h : H a = some (.tup vs) ∨ SqT K (fun _ => none) a vs) (r : RepL K ρ H ws vs) : JOk K ρ H ⟨ws, fun _ => True⟩ (Itt K a) := by
  intro i ρ' fm st σ H' hp hk R _
  have g1 : SqT K H' a vs := h.elim (fun h => SqT.of (hk _ _ h)) SqT.const
  have r1 := RepL.mono hp hk _ _ r
  refine ⟨fun w hw => ?_, fun e => ⟨vs, g1, by rw [← r1.length]; simp [e]⟩⟩
  obtain ⟨v, hv, rv⟩ := r1.get hw
  refine ⟨⟨vs, v, g1, hv⟩, fun x H2 ⟨e1, e2⟩ => ?_⟩
  subst e1
  have := e2 vs g1
  rw [hv] at this; cases this
  exact ⟨fun _ _ h => h, Kp.refl, rv⟩
theorem jok_str {K : PySem.W.Frag} {ρ : List Addr} {H : Hp} {s : List Nat} : JOk K ρ H ⟨strW s, fun _ => True⟩ (Its ⟨s.toArray⟩) := by
  intro i ρ' fm st σ H' hp hk R _
  refine ⟨fun w hw => ⟨?_, fun x H2 ⟨e1, c, e2, e3⟩ => ?_⟩, fun e => ?_⟩
  · have := (List.getElem?_eq_some_iff.mp hw).1
    show i < s.toArray.size
    simpa [strW] using this
  · subst e1; subst e3
    simp only [strW, List.getElem?_map, Option.map_eq_some_iff] at hw
    obtain ⟨k, hk, rfl⟩ := hw
    have : c = k := by simpa [hk] using e2.symm
    subst this
    exact ⟨fun _ _ h => h, Kp.refl, by simp only [RepV]⟩
  · simp [strW] at e
    show s.toArray.size ≤ i
    simp [e]
section
variable {X : Cx} {tg e a b : Expr} {f g : Ev} {fs : Evs} {p pos : Pos}
theorem di_a (he : DE X e f) : DI X tg e (iA f) := PIi (PI.orr (pi_list he) (PI.orr (pi_tup he) (pi_str he))) fun σ H R h => by
  obtain ⟨ρ, fm, st, S, st', Rr, e, T⟩ := h
  simp only [iA, Option.bind_eq_some_iff, Option.map_eq_some_iff] at e
  obtain ⟨⟨w, s1⟩, e1, S', e2, e3⟩ := e
  cases e3
  dsimp only at e2 T
  unfold srcOf at e2
  split at e2
  · cases e2
    refine .inr (.inl ⟨ρ, fm, st, _, s1, Rr, e1, fun ρ1 H1 p1 k1 R1 x rx => ?_⟩)
    simp only [RepV] at rx
    obtain ⟨a, vs, rfl, h1, r1⟩ := rx
    exact ⟨a, rfl, ⟨vs, SqT.of h1⟩, T ρ1 H1 p1 k1 R1 _ (jok_tup (.inl h1) r1)⟩
  · cases e2
    refine .inr (.inl ⟨ρ, fm, st, _, s1, Rr, e1, fun ρ1 H1 p1 k1 R1 x rx => ?_⟩)
    simp only [RepV] at rx
    obtain ⟨a, vs, rfl, h1, r1⟩ := rx
    exact ⟨a, rfl, ⟨vs, SqT.const h1⟩, T ρ1 H1 p1 k1 R1 _ (jok_tup (.inr h1) r1)⟩
  · cases e2
    refine .inr (.inr ⟨ρ, fm, st, _, s1, Rr, e1, fun ρ1 H1 p1 k1 R1 x rx => ?_⟩)
    simp only [RepV] at rx
    exact ⟨_, rx, T ρ1 H1 p1 k1 R1 _ jok_str⟩
  · split at e2
    · rename_i hn
      cases e2
      refine .inl ⟨ρ, fm, st, _, s1, Rr, e1, fun ρ1 H1 p1 k1 R1 x rx => ?_⟩
      obtain ⟨a, vs, rfl, ea, g1, r1⟩ := lst_of R1 rx hn
      exact ⟨a, rfl, ⟨vs, SqL.of g1⟩, T ρ1 H1 p1 k1 R1 _ (jok_list ea)⟩
    · rename_i hn
      cases e2
      refine .inl ⟨ρ, fm, st, _, s1, Rr, e1, fun ρ1 H1 p1 k1 R1 x rx => ?_⟩
      obtain ⟨a, vs, rfl, ea, g1, r1⟩ := rol_of R1 rx hn
      exact ⟨a, rfl, ⟨vs, g1⟩, T ρ1 H1 p1 k1 R1 _ (jok_rol ea)⟩
    · cases e2
  · cases e2
theorem di_r1 (hg : Gl X "range") (hm : X.mg "range" = none) (ha : DE X a f) (hs : starEach [a] X.env = [(false, eval a X.env)] := by rfl) : DI X tg (.Call (.Name "range" p) [a] [] pos) (iR1 f) := PIi (pi_range1 hg hm (da_cons ha da_nil hs) hs) fun σ H R h => by
  obtain ⟨ρ, fm, st, S, st', Rr, e, T⟩ := h
  simp only [iR1, Option.bind_eq_some_iff] at e
  obtain ⟨⟨w, s1⟩, e1, e2⟩ := e
  dsimp only at e2
  refine ⟨ρ, fm, st, [w], s1, Rr, by simp [aC, aN, e1], fun ρ1 H1 p1 k1 R1 xs rx => ?_⟩
  split at e2
  · split at e2
    · rename_i hz
      cases e2
      simp only [RepL, RepV] at rx
      obtain ⟨v, r, rfl, rfl, rfl⟩ := rx
      exact ⟨_, rfl, by omega, by omega, T ρ1 H1 p1 k1 R1 _ jok_range⟩
    · cases e2
  · cases e2
theorem di_r2 (hg : Gl X "range") (hm : X.mg "range" = none) (ha : DE X a f) (hb : DE X b g) (hs : starEach [a, b] X.env = [(false, eval a X.env), (false, eval b X.env)] := by rfl) (hs2 : starEach [b] X.env = [(false, eval b X.env)] := by rfl) : DI X tg (.Call (.Name "range" p) [a, b] [] pos) (iR2 f g) := PIi (pi_range2 hg hm (da_cons ha (da_cons hb da_nil hs2) (by rw [hs, hs2])) hs hs2) fun σ H R h => by
  obtain ⟨ρ, fm, st, S, st', Rr, e, T⟩ := h
  simp only [iR2, Option.bind_eq_some_iff] at e
  obtain ⟨⟨w, s1⟩, e1, ⟨w2, s2⟩, e2, e3⟩ := e
  dsimp only at e2 e3
  refine ⟨ρ, fm, st, [w, w2], s2, Rr, by simp [aC, aN, e1, e2], fun ρ1 H1 p1 k1 R1 xs rx => ?_⟩
  split at e3
  · split at e3
    · rename_i hz
      cases e3
      simp only [RepL, RepV] at rx
      obtain ⟨v, r, rfl, rfl, v2, r2, rfl, rfl, rfl⟩ := rx
      exact ⟨_, _, rfl, ⟨by omega, by omega, by omega, by omega⟩, T ρ1 H1 p1 k1 R1 _ jok_range⟩
    · cases e3
  · cases e3
end

/-! ### comprehensions -/
def wip (fm : Fm) : List Nat → Fm
  | [] => fm
  | v :: vs => (wip fm vs).set v none
theorem wip_len (fm : Fm) : ∀ vs, (wip fm vs).length = fm.length
  | [] => rfl
  | v :: vs => by unfold wip; rw [List.length_set, wip_len fm vs]
theorem wip_get {fm : Fm} {i : Nat} {w : Va} : ∀ {vs : List Nat}, (wip fm vs)[i]? = some (some w) → fm[i]? = some (some w) ∧ i ∉ vs
  | [], h => ⟨h, by simp⟩
  | v :: vs, h => by
    unfold wip at h
    by_cases e : v = i
    · subst e
      by_cases hl : v < (wip fm vs).length
      · rw [List.getElem?_set_self hl] at h; cases h
      · rw [List.getElem?_eq_none_iff.mpr (by rw [List.length_set]; omega)] at h; cases h
    · rw [List.getElem?_set_ne e] at h
      obtain ⟨a, b⟩ := wip_get h
      exact ⟨a, by simp [b]; exact fun z => e z.symm⟩
theorem wipe_get {σ : L2.St} {i : Nat} : ∀ {vs : List Nat}, i ∉ vs → (wipe σ vs)[i]? = σ[i]?
  | [], _ => rfl
  | v :: vs, h => by
    have h1 : v ≠ i := fun z => h (by simp [z])
    have h2 : i ∉ vs := fun z => h (List.mem_cons_of_mem _ z)
    unfold wipe
    rw [List.getElem?_set_ne h1]
    exact wipe_get h2
theorem wipe_in {σ : L2.St} {i : Nat} (hi : i < σ.length) : ∀ {vs : List Nat}, i ∈ vs → (wipe σ vs)[i]? = some none
  | [], h => by cases h
  | v :: vs, h => by
    unfold wipe
    by_cases e : v = i
    · subst e; exact List.getElem?_set_self (by rw [wipe_length]; exact hi)
    · rw [List.getElem?_set_ne e]
      exact wipe_in hi (by rcases List.mem_cons.mp h with h | h; exact absurd h.symm e; exact h)
theorem wipe_wipe (σ : L2.St) (vs : List Nat) : wipe (wipe σ vs) vs = wipe σ vs := by
  apply List.ext_getElem?
  intro i
  by_cases hi : i < σ.length
  · by_cases hv : i ∈ vs
    · rw [wipe_in (by rw [wipe_length]; exact hi) hv, wipe_in hi hv]
    · rw [wipe_get hv, wipe_get hv]
  · rw [List.getElem?_eq_none_iff.mpr (by rw [wipe_length, wipe_length]; omega), List.getElem?_eq_none_iff.mpr (by rw [wipe_length]; omega)]
theorem ERel.wip {K : PySem.W.Frag} {ρ : List Addr} {fm : Fm} {σ : L2.St} {H : Hp} (h : ERel K ρ fm σ H) (vs : List Nat) : ERel K ρ (wip fm vs) (wipe σ vs) H :=
  ⟨by rw [wip_len, wipe_length]; exact h.1, fun i w e => by
    obtain ⟨a, b⟩ := wip_get e
    obtain ⟨v, hv, rv⟩ := h.2 i w a
    exact ⟨v, by rw [wipe_get b]; exact hv, rv⟩⟩
section
open Classical
noncomputable def lcL (gd : Sto → Prop) (fg : Fg) (ft : Et) (fe : Ev) (n : Nat) : List Va → Fm → Sto → Option Sto
  | [] => fun _ st => if gd st then some st else none
  | w :: ws => fun fm st => if gd st then (fg w fm).bind fun fm1 => (ft fm1 st).bind fun b => if b.1 = true then (fe fm1 b.2).bind fun y => match y.2[n]? with
      | some (.lst acc) => @ite _ (acc.length < 16777216) (Classical.propDecidable _) (lcL gd fg ft fe n ws fm (y.2.set n (.lst (acc ++ [y.1])))) none
      | _ => none else lcL gd fg ft fe n ws fm b.2 else none
noncomputable def eLc (fi : Fi) (fg : Fg) (ft : Et) (fe : Ev) (vs : List Nat) : Ev := fun fm st => (fi fm st).bind fun r => (lcL r.1.gd fg ft fe r.2.length r.1.ws (wip fm vs) (r.2 ++ [.lst []])).map fun st' => (.ref r.2.length, st')
end
def bYes : Et := fun _ st => some (true, st)
abbrev DTs (X : Cx) (ifs : List Expr) (f : Et) : Prop := PTs X ifs (tDt X.K f)
theorem dts_nil {X : Cx} : DTs X [] bYes := ⟨fun pins s σ H Q I h => by
  obtain ⟨ρ, fm, st, b, st', R, e, T⟩ := h
  cases e
  exact pts_nil.run pins s σ H Q I (T.same R)⟩
theorem dts_one {X : Cx} {c : Expr} {f : Et} (h : DT X c f) : DTs X [c] f := pts_one h
theorem tLc_of {K : PySem.W.Frag} {fi : Fi} {fg : Fg} {ft : Et} {fe : Ev} {is vs : List Nat} (hsub : ∀ i ∈ is, i ∈ vs) {σ : L2.St} {H : Hp} {Q : VK} (h : tD K (eLc fi fg ft fe vs) σ H Q) : tLc (tI K fi) (tG K is fg) (tDt K ft) (tD K fe) vs σ H Q := by
  obtain ⟨ρ, fm, st, w, st', R, e, T⟩ := h
  simp only [eLc, Option.bind_eq_some_iff, Option.map_eq_some_iff] at e
  obtain ⟨⟨S, s1⟩, e1, st'', e2, e3⟩ := e
  cases e3
  dsimp only at e2 T
  refine ⟨ρ, fm, st, S, s1, R, e1, fun ρ1 H1 p1 k1 R1 J hJ D hD => ?_⟩
  have hk0 : Kp K H1 (upd H1 D (.lst [])) := Kp.new hD
  have hlen : ρ1.length = s1.length := R1.s.rl
  have R2 : Rel K (ρ1 ++ [D]) fm (s1 ++ [.lst []]) σ (upd H1 D (.lst [])) := R1.mono (List.prefix_append _ _) hk0 (R1.s.push hD (o := .lst []) ⟨[], upd_same, RepL.nil⟩)
  have hDn : (ρ1 ++ [D])[s1.length]? = some D := by rw [← hlen, List.getElem?_append_right (Nat.le_refl _)]; simp
  refine ⟨fun i m H2 => i + m = S.ws.length ∧ ∃ ρ2 st2, (ρ1 ++ [D]) <+: ρ2 ∧ Kp K H1 H2 ∧ SRel K ρ2 st2 H2 ∧ lcL S.gd fg ft fe s1.length (S.ws.drop i) (wip fm vs) st2 = some st', ⟨S.ws.length, by omega, _, _, List.prefix_refl _, hk0, R2.s, by simpa using e2⟩, ?_⟩
  rintro i m H2 ⟨hm, ρ2, st2, p2, k2, S2, e3⟩
  have P2 := List.IsPrefix.trans (List.prefix_append ρ1 [D]) p2
  have E2 : ERel K ρ2 fm σ H2 := R1.e.mono P2 k2
  by_cases hi : i < S.ws.length
  · refine .inr ?_
    have hd : S.ws.drop i = S.ws[i] :: S.ws.drop (i + 1) := List.drop_eq_getElem_cons hi
    rw [hd] at e3
    simp only [lcL] at e3
    split at e3
    · rename_i hgd
      obtain ⟨hgo, _⟩ := hJ i ρ2 _ st2 _ H2 P2 k2 ⟨S2, E2⟩ hgd
      obtain ⟨go, yld⟩ := hgo S.ws[i] (List.getElem?_eq_getElem hi)
      simp only [Option.bind_eq_some_iff] at e3
      obtain ⟨fm3, e4, ⟨b, s5⟩, e5, e6⟩ := e3
      dsimp only at e6
      refine ⟨go, fun H3 => ∃ ρ3 st3, (ρ1 ++ [D]) <+: ρ3 ∧ Kp K H1 H3 ∧ SRel K ρ3 st3 H3 ∧ lcL S.gd fg ft fe s1.length (S.ws.drop (i + 1)) (wip fm vs) st3 = some st', fun H3 h3 => ⟨m - 1, by omega, by omega, h3⟩, fun x H3 hy => ?_⟩
      obtain ⟨sm, k3, rx⟩ := yld x H3 hy
      have S3 := S2.same sm k3
      have E3 := (E2.mono (List.prefix_refl _) k3).wip vs
      refine ⟨ρ2, _, st2, S.ws[i], fm3, ⟨S3, E3⟩, rx, e4, fun σ4 R4 hw => ⟨(hw vs hsub).trans (wipe_wipe σ vs), ?_⟩⟩
      refine ⟨ρ2, fm3, st2, b, s5, R4, e5, fun ρ5 H5 p5 k5 R5 => ?_⟩
      cases b with
      | false =>
        rw [if_neg Bool.false_ne_true] at e6 ⊢
        exact ⟨ρ5, s5, List.IsPrefix.trans p2 p5, k2.trans (k3.trans k5), R5.s, e6⟩
      | true =>
        rw [if_pos rfl] at e6 ⊢
        simp only [Option.bind_eq_some_iff] at e6
        obtain ⟨⟨y, s6⟩, e7, e8⟩ := e6
        dsimp only at e8
        refine ⟨ρ5, fm3, s5, y, s6, R5, e7, fun ρ6 H6 p6 k6 R6 z rz => ?_⟩
        split at e8
        · rename_i acc hacc
          split at e8
          · rename_i hz
            have hDn6 : ρ6[s1.length]? = some D := pre_get (List.IsPrefix.trans p2 (List.IsPrefix.trans p5 p6)) hDn
            obtain ⟨a, vsx, ea, ea2, g1, r1⟩ := lst_of R6 (v := .ref D) (by simp only [RepV]; exact ⟨D, rfl, hDn6⟩) hacc
            cases ea
            refine ⟨vsx, g1, by rw [← r1.length, sizeLine_eq]; exact hz, ?_⟩
            have hk7 : Kp K H6 (upd H6 D (.lst (vsx ++ [z]))) := Kp.upd (fun xs q => by rw [g1] at q; cases q)
            obtain ⟨S7, k7⟩ := R6.s.write (o' := .lst (acc ++ [y])) hacc hDn6 rfl rfl ⟨_, upd_same, RepL.mono (List.prefix_refl _) hk7 _ _ (r1.append (RepL.one rz))⟩
            exact ⟨ρ6, _, List.IsPrefix.trans p2 (List.IsPrefix.trans p5 p6), k2.trans (k3.trans (k5.trans (k6.trans k7))), S7, e8⟩
          · cases e8
        · cases e8
    · cases e3
  · have ei : i = S.ws.length := by omega
    refine .inl ?_
    rw [ei, List.drop_length] at e3
    simp only [lcL] at e3
    split at e3
    · rename_i hgd
      obtain ⟨_, stop⟩ := hJ i ρ2 _ st2 _ H2 P2 k2 ⟨S2, E2⟩ hgd
      cases e3
      refine ⟨stop ei, T ρ2 H2 (List.IsPrefix.trans p1 P2) (k1.trans k2) ⟨S2, E2⟩ (.ref D) ?_⟩
      simp only [RepV]
      exact ⟨D, rfl, pre_get p2 hDn⟩
    · cases e3
section
variable {X : Cx} {elt tg iter : Expr} {ifs : List Expr} {scope : Scope} {own : List (Str × Nat)} {pos : Pos} {fi : Fi} {fg : Fg} {ft : Et} {fe : Ev} {is : List Nat}
theorem de_lc (vs : List Nat) (hc : X.calm = true) (hN : X.N.Nodup) (hi : DI X tg iter fi) (ok : BlkOk X.N X.env.scope scope own)
    (hg : ∀ (s : Shared) (H : Hp) (C : Addr) (cl : List (Str × Addr)) (fp : List Addr), DG (X.blk s H scope (compEnvC scope cl C X.env) fp) tg is fg) (ht : ∀ (s : Shared) (H : Hp) (C : Addr) (cl : List (Str × Addr)) (fp : List Addr), DTs (X.blk s H scope (compEnvC scope cl C X.env) fp) ifs ft)
    (he : ∀ (s : Shared) (H : Hp) (C : Addr) (cl : List (Str × Addr)) (fp : List Addr), DE (X.blk s H scope (compEnvC scope cl C X.env) fp) elt fe) (hvs : own.map (·.2) = vs) (hsub : ∀ i ∈ is, i ∈ vs) (hs : ∀ x, foldedSetIterable iter X.env x = pure x := by intro _; rfl) :
    DE X (.ListComp elt [⟨tg, iter, ifs, 0⟩] scope pos) (eLc fi fg ft fe vs) := PEi (pe_lc hc hN hi ok hg ht he hs) fun _ _ _ h => by rw [hvs]; exact tLc_of hsub h
theorem ds_lc (vs : List Nat) {i : Nat} {y : Str} {py spos : Pos} (hc : X.calm = true) (hN : X.N.Nodup) (hy : X.N[i]? = some y) (hyl : X.env.scope.names.lookup y = some .local)
    (hsw : swapsWith (.ListComp elt [⟨tg, iter, ifs, 0⟩] scope pos) (some (.Name y py)) spos.line X.env = pure true) (hi : DI X tg iter fi) (ok : BlkOk X.N X.env.scope scope own)
    (hg : ∀ (s : Shared) (H : Hp) (C : Addr) (cl : List (Str × Addr)) (fp : List Addr), DG (X.blk s H scope (compEnvC scope cl C X.env) fp) tg is fg) (ht : ∀ (s : Shared) (H : Hp) (C : Addr) (cl : List (Str × Addr)) (fp : List Addr), DTs (X.blk s H scope (compEnvC scope cl C X.env) fp) ifs ft)
    (he : ∀ (s : Shared) (H : Hp) (C : Addr) (cl : List (Str × Addr)) (fp : List Addr), DE (X.blk s H scope (compEnvC scope cl C X.env) fp) elt fe) (hvs : own.map (·.2) = vs) (hsub : ∀ i ∈ is, i ∈ vs) (hs : ∀ x, foldedSetIterable iter X.env x = pure x := by intro _; rfl) :
    DS X (.Assign [.Name y py] (.ListComp elt [⟨tg, iter, ifs, 0⟩] scope pos) spos) (sSet i (eLc fi fg ft fe vs)) := PSi (ps_setLc hc hN hy hyl hsw hi ok hg ht he hs) fun D σ H h => by
  obtain ⟨ρ, fm, st, fl, fm', st', R, e, T⟩ := h
  simp only [sSet, Option.bind_eq_some_iff] at e
  obtain ⟨⟨w, s1⟩, e1, e2⟩ := e
  cases e2
  rw [hvs]
  exact tLc_of hsub ⟨ρ, fm, st, w, _, R, e1, fun ρ1 H1 p1 k1 R1 v rv => T ρ1 H1 _ p1 k1 ⟨R1.s, R1.e.set rv⟩⟩
end
end
end T3
/-! T3, sixth part: built-ins, methods, dicts, slices -/
namespace T3
open PySem PySem.Spec PyProof.Rows L2
noncomputable section

/-! ### built-ins -/
def lenW (w : Va) (st : Sto) : Option Nat := match w with
  | .str s => @ite _ (s.length ≤ 16777216) (Classical.propDecidable _) (some s.length) none
  | .tup ws => some ws.length
  | .ktp ws => some ws.length
  | .ref n => match st[n]? with
    | some (.lst ws) => some ws.length
    | some (.rol ws) => some ws.length
    | some (.dic kvs) => some kvs.length
    | _ => none
  | _ => none
def gLen (ws : List Va) (st : Sto) : Option (Va × Sto) := match ws with
  | [w] => (lenW w st).map fun n => (.int n, st)
  | _ => none
def gInt (ws : List Va) (st : Sto) : Option (Va × Sto) := match ws with
  | [.int i] => some (.int i, st)
  | [.bl b] => some (.int (if b then 1 else 0), st)
  | _ => none
def gOrd (ws : List Va) (st : Sto) : Option (Va × Sto) := match ws with
  | [.str [c]] => some (.int c, st)
  | _ => none
def gMin (ws : List Va) (st : Sto) : Option (Va × Sto) := match ws with
  | [.int i, .int j] => some (.int (if j < i then j else i), st)
  | _ => none
def gMax (ws : List Va) (st : Sto) : Option (Va × Sto) := match ws with
  | [.int i, .int j] => some (.int (if j > i then j else i), st)
  | _ => none
def gAbs (ws : List Va) (st : Sto) : Option (Va × Sto) := match ws with
  | [.int i] => some (.int (if i < 0 then -i else i), st)
  | _ => none
def intsOf : List Va → Option (List Int)
  | [] => some []
  | .int i :: ws => (intsOf ws).map (i :: ·)
  | _ => none
def blsOf : List Va → Option (List Bool)
  | [] => some []
  | .bl i :: ws => (blsOf ws).map (i :: ·)
  | _ => none
def strsOf : List Va → Option (List (List Nat))
  | [] => some []
  | .str i :: ws => (strsOf ws).map (i :: ·)
  | _ => none
/-- the items of a list of the store -/
def itemsOf (w : Va) (st : Sto) : Option (List Va) := match w with
  | .ref n => match st[n]? with
    | some (.lst ws) => some ws
    | some (.rol ws) => some ws
    | _ => none
  | _ => none
def gSum (ws : List Va) (st : Sto) : Option (Va × Sto) := match ws with
  | [w] => (itemsOf w st).bind fun xs => (intsOf xs).map fun ns => (.int ns.sum, st)
  | _ => none
def gAll (ws : List Va) (st : Sto) : Option (Va × Sto) := match ws with
  | [w] => (itemsOf w st).bind fun xs => (blsOf xs).map fun ns => (.bl (ns.all id), st)
  | _ => none
def gAny (ws : List Va) (st : Sto) : Option (Va × Sto) := match ws with
  | [w] => (itemsOf w st).bind fun xs => (blsOf xs).map fun ns => (.bl (ns.any id), st)
  | _ => none
def gTuple (ws : List Va) (st : Sto) : Option (Va × Sto) := match ws with
  | [.tup ws] => some (.tup ws, st)
  | [w] => (itemsOf w st).map fun xs => (.tup xs, st)
  | _ => none
def gList (ws : List Va) (st : Sto) : Option (Va × Sto) := match ws with
  | [.str s] => @ite _ (s.length ≤ 16777216) (Classical.propDecidable _) (some (.ref st.length, st ++ [.lst (strW s)])) none
  | [.tup ws] => some (.ref st.length, st ++ [.lst ws])
  | [.ktp ws] => some (.ref st.length, st ++ [.lst ws])
  | [w] => (itemsOf w st).map fun xs => (.ref st.length, st ++ [.lst xs])
  | _ => none
/-- the class of a value -/
def tyN (w : Va) (st : Sto) : Option String := match w with
  | .non => some "NoneType"
  | .bl _ => some "bool"
  | .int _ => some "int"
  | .str _ => some "str"
  | .tup _ => some "tuple"
  | .ref n => match st[n]? with
    | some (.lst _) => some "list"
    | some (.dic _) => some "dict"
    | some (.dit _) => some "dict"
    | _ => none
  | _ => none
def gIsi (ws : List Va) (st : Sto) : Option (Va × Sto) := match ws with
  | [w, .ty n] => (tyN w st).bind fun t => (kitB t n).map fun b => (.bl b, st)
  | _ => none
section
variable {K : PySem.W.Frag} {ρ : List Addr} {H : Hp} {fm : Fm} {st : Sto} {σ : L2.St}
theorem ints_rep : ∀ {ws : List Va} {ns : List Int} {vs : List V}, intsOf ws = some ns → RepL K ρ H ws vs → vs = ns.map V.int
  | [], _, _, e, r => by cases e; simp only [RepL] at r; exact r
  | w :: ws, _, _, e, r => by
    simp only [RepL] at r
    obtain ⟨v, vs, rfl, r1, r2⟩ := r
    cases w <;> simp [intsOf] at e
    obtain ⟨ns, e, rfl⟩ := e
    simp only [RepV] at r1
    rw [r1, ints_rep e r2]; rfl
theorem bls_rep : ∀ {ws : List Va} {ns : List Bool} {vs : List V}, blsOf ws = some ns → RepL K ρ H ws vs → vs = ns.map V.bl
  | [], _, _, e, r => by cases e; simp only [RepL] at r; exact r
  | w :: ws, _, _, e, r => by
    simp only [RepL] at r
    obtain ⟨v, vs, rfl, r1, r2⟩ := r
    cases w <;> simp [blsOf] at e
    obtain ⟨ns, e, rfl⟩ := e
    simp only [RepV] at r1
    rw [r1, bls_rep e r2]; rfl
theorem strs_rep : ∀ {ws : List Va} {ns : List (List Nat)} {vs : List V}, strsOf ws = some ns → RepL K ρ H ws vs → vs = (ns.map fun s => (⟨s.toArray⟩ : Str)).map V.str
  | [], _, _, e, r => by cases e; simp only [RepL] at r; exact r
  | w :: ws, _, _, e, r => by
    simp only [RepL] at r
    obtain ⟨v, vs, rfl, r1, r2⟩ := r
    cases w <;> simp [strsOf] at e
    obtain ⟨ns, e, rfl⟩ := e
    simp only [RepV] at r1
    rw [r1, strs_rep e r2]; rfl
theorem items_rep {w : Va} {v : V} {xs : List Va} (R : Rel K ρ fm st σ H) (r : RepV K ρ H w v) (e : itemsOf w st = some xs) : ∃ a vs, v = .ref a ∧ SqL K H a vs ∧ RepL K ρ H xs vs := by
  unfold itemsOf at e
  split at e
  · split at e
    · rename_i h
      cases e
      obtain ⟨a, vs, rfl, _, g, rl⟩ := lst_of R r h
      exact ⟨a, vs, rfl, SqL.of g, rl⟩
    · rename_i h
      cases e
      obtain ⟨a, vs, rfl, _, g, rl⟩ := rol_of R r h
      exact ⟨a, vs, rfl, g, rl⟩
    · cases e
  · cases e
theorem rep1 {w : Va} {vs : List V} (r : RepL K ρ H [w] vs) : ∃ v, vs = [v] ∧ RepV K ρ H w v := by
  simp only [RepL] at r
  obtain ⟨v, r, rfl, h, rfl⟩ := r
  exact ⟨v, rfl, h⟩
theorem rep2 {w x : Va} {vs : List V} (r : RepL K ρ H [w, x] vs) : ∃ v u, vs = [v, u] ∧ RepV K ρ H w v ∧ RepV K ρ H x u := by
  simp only [RepL] at r
  obtain ⟨v, r, rfl, h, u, r', rfl, h', rfl⟩ := r
  exact ⟨v, u, rfl, h, h'⟩
end
section
variable {X : Cx} {e : Expr} {es : List Expr} {fs : Evs} {p pos : Pos}
theorem cLen : ∃ r, CallR X (.builtin "len") r ∧ ML X.K gLen r := by
  refine ⟨_, call_len.or call_lenD, ?_⟩
  intro ρ fm st σ H ws vs w st' Q R rl e T
  unfold gLen at e
  split at e
  · simp only [Option.map_eq_some_iff] at e
    obtain ⟨n, e, e2⟩ := e
    cases e2
    obtain ⟨v, rfl, rv⟩ := rep1 rl
    unfold lenW at e
    split at e
    · split at e
      · rename_i hz
        cases e
        simp only [RepV] at rv; subst rv
        exact .inl ⟨_, _, rfl, ⟨by rw [slen, sizeLine_eq]; exact hz, (slen _).symm⟩, T.same R _ repI⟩
      · cases e
    · cases e
      obtain ⟨a, vs, rfl, h1, r1⟩ := tup_of rv
      exact .inl ⟨_, _, rfl, .inr ⟨vs, h1, r1.length⟩, T.same R _ repI⟩
    · cases e
      obtain ⟨a, vs, rfl, h1, r1⟩ := ktp_of rv
      exact .inl ⟨_, _, rfl, .inr ⟨vs, h1, r1.length⟩, T.same R _ repI⟩
    · split at e
      · rename_i h
        cases e
        obtain ⟨a, vs, rfl, _, g, r1⟩ := lst_of R rv h
        exact .inl ⟨_, _, rfl, .inl ⟨vs, SqL.of g, r1.length⟩, T.same R _ repI⟩
      · rename_i h
        cases e
        obtain ⟨a, vs, rfl, _, g, r1⟩ := rol_of R rv h
        exact .inl ⟨_, _, rfl, .inl ⟨vs, g, r1.length⟩, T.same R _ repI⟩
      · rename_i kvs h
        cases e
        obtain ⟨a, ks, rfl, _, g, m, r1⟩ := dic_get R rv h
        have hl := congrArg List.length m
        simp only [List.length_map] at hl
        exact .inr ⟨a, ks, rfl, g, by rw [hl]; exact T.same R _ repI⟩
      · cases e
    · cases e
  · cases e
theorem cInt : ∃ r, CallR X (.type "int") r ∧ ML X.K gInt r := by
  refine ⟨_, call_int1, ?_⟩
  intro ρ fm st σ H ws vs w st' Q R rl e T
  unfold gInt at e
  split at e
  · cases e
    obtain ⟨v, rfl, rv⟩ := rep1 rl
    simp only [RepV] at rv; subst rv
    exact .inl ⟨_, rfl, T.same R _ repI⟩
  · cases e
    obtain ⟨v, rfl, rv⟩ := rep1 rl
    simp only [RepV] at rv; subst rv
    exact .inr ⟨_, rfl, T.same R _ repI⟩
  · cases e
theorem cOrd : ∃ r, CallR X (.builtin "ord") r ∧ ML X.K gOrd r := by
  refine ⟨_, call_ord, ?_⟩
  intro ρ fm st σ H ws vs w st' Q R rl e T
  unfold gOrd at e
  split at e
  · cases e
    obtain ⟨v, rfl, rv⟩ := rep1 rl
    simp only [RepV] at rv; subst rv
    exact ⟨_, rfl, rfl, T.same R _ repI⟩
  · cases e
theorem cMin (hc : X.calm = true) : ∃ r, CallR X (.builtin "min") r ∧ ML X.K gMin r := by
  refine ⟨_, call_min2 hc, ?_⟩
  intro ρ fm st σ H ws vs w st' Q R rl e T
  unfold gMin at e
  split at e
  · cases e
    obtain ⟨v, u, rfl, rv, ru⟩ := rep2 rl
    simp only [RepV] at rv ru; subst rv; subst ru
    exact ⟨_, _, rfl, T.same R _ repI⟩
  · cases e
theorem cMax (hc : X.calm = true) : ∃ r, CallR X (.builtin "max") r ∧ ML X.K gMax r := by
  refine ⟨_, call_max2 hc, ?_⟩
  intro ρ fm st σ H ws vs w st' Q R rl e T
  unfold gMax at e
  split at e
  · cases e
    obtain ⟨v, u, rfl, rv, ru⟩ := rep2 rl
    simp only [RepV] at rv ru; subst rv; subst ru
    exact ⟨_, _, rfl, T.same R _ repI⟩
  · cases e
theorem cAbs : ∃ r, CallR X (.builtin "abs") r ∧ ML X.K gAbs r := by
  refine ⟨_, call_abs, ?_⟩
  intro ρ fm st σ H ws vs w st' Q R rl e T
  unfold gAbs at e
  split at e
  · cases e
    obtain ⟨v, rfl, rv⟩ := rep1 rl
    simp only [RepV] at rv; subst rv
    exact ⟨_, rfl, T.same R _ repI⟩
  · cases e
theorem cSum (hc : X.calm = true) : ∃ r, CallR X (.builtin "sum") r ∧ ML X.K gSum r := by
  refine ⟨_, cr_sum hc, ?_⟩
  intro ρ fm st σ H ws vs w st' Q R rl e T
  unfold gSum at e
  split at e
  · simp only [Option.bind_eq_some_iff, Option.map_eq_some_iff] at e
    obtain ⟨xs, e1, ns, e2, e3⟩ := e
    cases e3
    obtain ⟨v, rfl, rv⟩ := rep1 rl
    obtain ⟨a, vs, rfl, g, r1⟩ := items_rep R rv e1
    exact ⟨a, ns, rfl, by rw [← ints_rep e2 r1]; exact g, T.same R _ repI⟩
  · cases e
theorem cAll (hc : X.calm = true) : ∃ r, CallR X (.builtin "all") r ∧ ML X.K gAll r := by
  refine ⟨_, cr_all hc, ?_⟩
  intro ρ fm st σ H ws vs w st' Q R rl e T
  unfold gAll at e
  split at e
  · simp only [Option.bind_eq_some_iff, Option.map_eq_some_iff] at e
    obtain ⟨xs, e1, ns, e2, e3⟩ := e
    cases e3
    obtain ⟨v, rfl, rv⟩ := rep1 rl
    obtain ⟨a, vs, rfl, g, r1⟩ := items_rep R rv e1
    exact ⟨a, ns, rfl, by rw [← bls_rep e2 r1]; exact g, T.same R _ repB⟩
  · cases e
theorem cAny (hc : X.calm = true) : ∃ r, CallR X (.builtin "any") r ∧ ML X.K gAny r := by
  refine ⟨_, cr_any hc, ?_⟩
  intro ρ fm st σ H ws vs w st' Q R rl e T
  unfold gAny at e
  split at e
  · simp only [Option.bind_eq_some_iff, Option.map_eq_some_iff] at e
    obtain ⟨xs, e1, ns, e2, e3⟩ := e
    cases e3
    obtain ⟨v, rfl, rv⟩ := rep1 rl
    obtain ⟨a, vs, rfl, g, r1⟩ := items_rep R rv e1
    exact ⟨a, ns, rfl, by rw [← bls_rep e2 r1]; exact g, T.same R _ repB⟩
  · cases e
theorem cTuple : ∃ r, CallR X (.type "tuple") r ∧ ML X.K gTuple r := by
  refine ⟨_, call_tuple_of, ?_⟩
  intro ρ fm st σ H ws vs w st' Q R rl e T
  unfold gTuple at e
  split at e
  · cases e
    obtain ⟨v, rfl, rv⟩ := rep1 rl
    obtain ⟨a, vs, rfl, h1, r1⟩ := tup_of rv
    exact ⟨a, vs, rfl, .inr ⟨h1, T.same R _ rv⟩⟩
  · simp only [Option.map_eq_some_iff] at e
    obtain ⟨xs, e1, e2⟩ := e
    cases e2
    obtain ⟨v, rfl, rv⟩ := rep1 rl
    obtain ⟨a, vs, rfl, g, r1⟩ := items_rep R rv e1
    refine ⟨a, vs, rfl, .inl ⟨g, fun l hl => T.tup R hl _ ?_⟩⟩
    simp only [RepV]
    exact ⟨l, vs, rfl, upd_same, RepL.mono (List.prefix_refl _) (Kp.new hl) _ _ r1⟩
  · cases e
/-- list(s) -/
theorem call_list_s (hc : X.calm = true) : CallR X (.type "list") (fun xs H Q => ∃ x : Str, xs = [.str x] ∧ x.length ≤ sizeLine ∧ ∀ l, H l = none → Q (.ref l) (upd H l (.lst (x.cps.toList.map fun c => V.str ⟨#[c]⟩)))) := by
  intro pins s σ H xs us Q I r hh
  obtain ⟨x, rfl, hz, q⟩ := hh
  obtain ⟨u, rfl, ru⟩ := vals1 r
  obtain ⟨t, rfl⟩ := ru
  refine call_list_str (I.ok.hd hc) x t (fun h' tk acc c' hk e hi => ?_) hz
  refine ⟨.ref s.heap.objs.size, upd H s.heap.objs.size (.lst (x.cps.toList.map fun c => V.str ⟨#[c]⟩)), I.laid hk (Nat.le_refl _) (show ObjOk X.prog X.w _ _ _ (.lst _) from ⟨?_, acc.toList, c', vals_of_at ?_ ?_, by rw [Array.toArray_toList]; exact e⟩), rfl, q _ (I.hok.fresh (Nat.le_refl _))⟩
  · rw [List.length_map]; simpa [Str.length] using hz
  · rw [List.length_map, Array.length_toList, Array.length_toList, hi.1]
  · intro j v w e1 e2
    have hw : acc[j]? = some w := by rw [← Array.getElem?_toList]; exact e2
    have hs := hi.2 j w hw
    rw [List.getElem?_map] at e1
    simp only [Option.map_eq_some_iff] at e1
    obtain ⟨c, hc, rfl⟩ := e1
    obtain ⟨c2, tk', h1, h2⟩ := hs
    have hc2 : x.cps.toList[j]? = some c2 := by rw [Array.getElem?_toList]; exact h1
    rw [hc] at hc2; cases hc2
    exact ⟨tk', h2⟩
theorem cList (hc : X.calm = true) : ∃ r, CallR X (.type "list") r ∧ ML X.K gList r := by
  refine ⟨_, call_list_of.or (call_list_s hc), ?_⟩
  intro ρ fm st σ H ws vs w st' Q R rl e T
  have key : ∀ (xs : List Va) (us : List V) (l : Addr), H l = none → RepL X.K ρ H xs us → (w, st') = (Va.ref st.length, st ++ [Ob.lst xs]) → Q (.ref l) (upd H l (.lst us)) := by
    intro xs us l hl r1 e
    cases e
    exact T.push R hl (o := .lst xs) ⟨us, upd_same, RepL.mono (List.prefix_append _ _) (Kp.new hl) _ _ r1⟩ _ (ref_last R.s.rl)
  unfold gList at e
  split at e
  · split at e
    · rename_i s hz
      obtain ⟨v, rfl, rv⟩ := rep1 rl
      simp only [RepV] at rv
      refine .inr ⟨_, by rw [rv], by rw [slen, sizeLine_eq]; exact hz, fun l hl => ?_⟩
      refine key (strW s) _ l hl ?_ (by cases e; rfl)
      have : ∀ s : List Nat, RepL X.K ρ H (strW s) (s.map fun c => V.str ⟨#[c]⟩) := by
        intro s
        induction s with
        | nil => exact RepL.nil
        | cons c s ih => exact RepL.cons (by simp only [RepV]) ih
      simpa using this s
    · cases e
  · obtain ⟨v, rfl, rv⟩ := rep1 rl
    obtain ⟨a, vs, rfl, h1, r1⟩ := tup_of rv
    exact .inl ⟨a, vs, rfl, .inr h1, fun l hl => key _ _ l hl r1 (by cases e; rfl)⟩
  · obtain ⟨v, rfl, rv⟩ := rep1 rl
    obtain ⟨a, vs, rfl, h1, r1⟩ := ktp_of rv
    exact .inl ⟨a, vs, rfl, .inr h1, fun l hl => key _ _ l hl r1 (by cases e; rfl)⟩
  · simp only [Option.map_eq_some_iff] at e
    obtain ⟨xs, e1, e2⟩ := e
    obtain ⟨v, rfl, rv⟩ := rep1 rl
    obtain ⟨a, vs, rfl, g, r1⟩ := items_rep R rv e1
    exact .inl ⟨a, vs, rfl, .inl g, fun l hl => key _ _ l hl r1 e2.symm⟩
  · cases e
theorem cIsi : ∃ r, CallR X (.builtin "isinstance") r ∧ ML X.K gIsi r := by
  refine ⟨_, call_isi, ?_⟩
  intro ρ fm st σ H ws vs w st' Q R rl e T
  unfold gIsi at e
  split at e
  · rename_i w n
    simp only [Option.bind_eq_some_iff, Option.map_eq_some_iff] at e
    obtain ⟨t, e1, b, e2, e3⟩ := e
    cases e3
    obtain ⟨v, u, rfl, rv, ru⟩ := rep2 rl
    simp only [RepV] at ru; subst ru
    refine ⟨v, _, .type t, _, b, rfl, .ty n, ?_, kit_ty e2, T.same R _ repB⟩
    unfold tyN at e1
    split at e1
    · cases e1; simp only [RepV] at rv; subst rv; exact .base .non
    · cases e1; simp only [RepV] at rv; subst rv; exact .base (.bl _)
    · cases e1; simp only [RepV] at rv; subst rv; exact .base (.int _)
    · cases e1; simp only [RepV] at rv; subst rv; exact .base (.str _)
    · cases e1; simp only [RepV] at rv
      obtain ⟨a, vs, rfl, h, _⟩ := rv
      exact .base (.tup h)
    · split at e1
      · rename_i h
        cases e1
        obtain ⟨a, vs, rfl, _, g, r1⟩ := lst_of R rv h
        exact .base (.lst g)
      · rename_i h
        cases e1
        obtain ⟨a, vs, rfl, _, g, m, r1⟩ := dic_get R rv h
        exact .base (.dK g)
      · rename_i h
        cases e1
        obtain ⟨a, vs, rfl, _, g, m, r1⟩ := dit_get R rv h
        exact .base (.dT g)
      · cases e1
    · cases e1
  · cases e
end
/-- T, a built-in class as a value -/
theorem de_ty {X : Cx} {x : Str} {n : String} {pos : Pos} (hg : Gl X x) (hm : X.mg x = none) (hv : bootBuiltins x = some (.type n)) (hn : x ≠ "__name__" := by decide) (hd : (x == ("__debug__" : Str)) = false := by decide) : DE X (.Name x pos) (eC (.ty n)) :=
  de_c (v := .ty n) (pe_bltn hg hm hv rfl hn hd) fun _ _ => by simp only [RepV]
end
end T3
/-! T3, seventh part: methods, dicts, slices, calls of defs, defs, the law's end -/
namespace T3
open PySem PySem.Spec PyProof.Rows L2
noncomputable section

/-! ### methods -/
def hasTy (T : String) (w : Va) (st : Sto) : Bool := match w with
  | .str _ => T == "str"
  | .ref n => match st[n]? with
    | some (.lst _) => T == "list"
    | some (.rol _) => T == "list"
    | some (.dic _) => T == "dict"
    | some (.dit _) => T == "dict"
    | _ => false
  | _ => false
def eMt (T : String) (g : Va → List Va → Sto → Option (Va × Sto)) (f : Ev) (fa : Evs) : Ev := fun fm st => (f fm st).bind fun p => if hasTy T p.1 p.2 = true then (fa fm p.2).bind fun q => g p.1 q.1 q.2 else none
section
variable {X : Cx} {o e : Expr} {es : List Expr} {f fo : Ev} {fs : Evs} {apos cpos pos : Pos} {name : Str}
theorem hasTy_of {K : PySem.W.Frag} {ρ : List Addr} {fm : Fm} {st : Sto} {σ : L2.St} {H : Hp} {T : String} {w : Va} {v : V} (R : Rel K ρ fm st σ H) (rv : RepV K ρ H w v) (h : hasTy T w st = true) : tyV K T v H := by
  unfold hasTy at h
  split at h
  · simp only [RepV] at rv; subst rv; simpa [tyV] using h
  · split at h
    · rename_i hn
      obtain ⟨a, vs, rfl, _, g, _⟩ := lst_of R rv hn
      exact .inl ⟨by simpa using h, vs, SqL.of g⟩
    · rename_i hn
      obtain ⟨a, vs, rfl, _, g, _⟩ := rol_of R rv hn
      exact .inl ⟨by simpa using h, vs, g⟩
    · rename_i hn
      obtain ⟨a, vs, rfl, _, g, _⟩ := dic_get R rv hn
      exact .inr (.inr (.inl ⟨by simpa using h, .inl ⟨vs, g⟩⟩))
    · rename_i hn
      obtain ⟨a, vs, rfl, _, g, _⟩ := dit_get R rv hn
      exact .inr (.inr (.inl ⟨by simpa using h, .inr ⟨vs, g⟩⟩))
    · cases h
  · cases h
theorem de_mt {T id : String} {r : V → List V → Hp → VK → Prop} {g : Va → List Va → Sto → Option (Va × Sto)} (pa : PlainAttrs T) (slot : Slot T name id) (hty : typeOf (.builtin id) = pure (.type "method_descriptor")) (hm : MtR X id r) (hg : MM X.K g r) (ho : DE X o fo) (ha : DA X (e :: es) fs)
    (hbase : attributeBase o name X.env (eval o X.env) = eval o X.env := by rfl)
    (hfew : ((backTo cpos (starEach (e :: es) X.env)).all (fun x => !x.1) && (backToKw cpos (keywordEach [] X.env)).all (fun x => x.1.isSome)
      && decide ((e :: es).length + ([] : List Keyword).length + (if ([] : List Keyword).isEmpty then 0 else 1) < 30)) = true := by rfl)
    (hline : (apos.endLine == cpos.line) = true := by rfl) (hs : starEach (e :: es) X.env = (false, eval e X.env) :: starEach es X.env := by rfl) (hplain : (backTo cpos (starEach es X.env)).any (·.1) = false := by rfl) :
    DE X (.Call (.Attribute o name apos) (e :: es) [] cpos) (eMt T g fo fs) := PEi (pe_bm pa slot hty hm ho ha hbase hfew hline hs hplain) fun σ H Q h => by
  obtain ⟨ρ, fm, st, w, st', R, e, T0⟩ := h
  simp only [eMt, Option.bind_eq_some_iff] at e
  obtain ⟨⟨x, s1⟩, e1, e2⟩ := e
  split at e2
  · rename_i ht
    simp only [Option.bind_eq_some_iff] at e2
    obtain ⟨⟨ws, s2⟩, e3, e4⟩ := e2
    exact ⟨ρ, fm, st, x, s1, R, e1, fun ρ1 H1 p1 k1 R1 v rv => ⟨hasTy_of R1 rv ht, ρ1, fm, s1, ws, s2, R1, e3, fun ρ2 H2 p2 k2 R2 vs rvs =>
      hg _ _ _ _ _ _ _ _ _ _ _ _ R2 (RepV.mono p2 k2 _ _ rv) rvs e4 (T0.then (List.IsPrefix.trans p1 p2) (k1.trans k2))⟩⟩
  · cases e2
theorem de_mt0 {T id : String} {r : V → List V → Hp → VK → Prop} {g : Va → List Va → Sto → Option (Va × Sto)} (pa : PlainAttrs T) (slot : Slot T name id) (hty : typeOf (.builtin id) = pure (.type "method_descriptor")) (hm : MtR X id r) (hg : MM X.K g r) (ho : DE X o fo)
    (hbase : attributeBase o name X.env (eval o X.env) = eval o X.env := by rfl) (hline : (apos.endLine == cpos.line) = true := by rfl) :
    DE X (.Call (.Attribute o name apos) [] [] cpos) (eMt T g fo aN) := PEi (pe_bm0 pa slot hty hm ho hbase hline) fun σ H Q h => by
  obtain ⟨ρ, fm, st, w, st', R, e, T0⟩ := h
  simp only [eMt, Option.bind_eq_some_iff] at e
  obtain ⟨⟨x, s1⟩, e1, e2⟩ := e
  split at e2
  · rename_i ht
    simp only [Option.bind_eq_some_iff] at e2
    obtain ⟨⟨ws, s2⟩, e3, e4⟩ := e2
    cases e3
    exact ⟨ρ, fm, st, x, s1, R, e1, fun ρ1 H1 p1 k1 R1 v rv => ⟨hasTy_of R1 rv ht, hg _ _ _ _ _ _ _ _ _ _ _ _ R1 rv RepL.nil e4 (T0.then p1 k1)⟩⟩
  · cases e2
def gApp (w : Va) (ws : List Va) (st : Sto) : Option (Va × Sto) := match w, ws with
  | .ref n, [y] => match st[n]? with
    | some (.lst xs) => @ite _ (xs.length < 16777216) (Classical.propDecidable _) (some (.non, st.set n (.lst (xs ++ [y])))) none
    | _ => none
  | _, _ => none
theorem mApp : MM X.K gApp rAppend := by
  intro ρ fm st σ H a ws x vs w st' Q R ra rl e T
  unfold gApp at e
  split at e
  · split at e
    · rename_i xs hn
      split at e
      · rename_i hz
        cases e
        obtain ⟨a, vs, rfl, ea, g, r1⟩ := lst_of R ra hn
        obtain ⟨v, rfl, rv⟩ := rep1 rl
        refine ⟨a, vs, v, rfl, rfl, g, by rw [← r1.length, sizeLine_eq]; exact hz, ?_⟩
        have hk : Kp X.K H (upd H a (.lst (vs ++ [v]))) := Kp.upd (fun xs q => by rw [g] at q; cases q)
        exact T.write R hn ea rfl rfl ⟨_, upd_same, RepL.mono (List.prefix_refl _) hk _ _ (r1.append (RepL.one rv))⟩ _ repN
      · cases e
    · cases e
  · cases e
/-- xs.append(e) -/
theorem de_app (ho : DE X o fo) (he : DE X e f) (hbase : attributeBase o "append" X.env (eval o X.env) = eval o X.env := by rfl)
    (hfew : ((backTo cpos (starEach [e] X.env)).all (fun x => !x.1) && (backToKw cpos (keywordEach [] X.env)).all (fun x => x.1.isSome)
      && decide (([e] : List Expr).length + ([] : List Keyword).length + (if ([] : List Keyword).isEmpty then 0 else 1) < 30)) = true := by rfl)
    (hline : (apos.endLine == cpos.line) = true := by rfl) (hs : starEach [e] X.env = (false, eval e X.env) :: starEach [] X.env := by rfl) :
    DE X (.Call (.Attribute o "append" apos) [e] [] cpos) (eMt "list" gApp fo (aC f aN)) :=
  de_mt PySem.F.plainAttrs_list PySem.F.slot_list_append PySem.F.type_list_append mt_append mApp ho (da_cons he da_nil hs) hbase hfew hline hs
def joinN (s : List Nat) : List (List Nat) → List Nat
  | [] => []
  | [p] => p
  | p :: q :: r => p ++ (s ++ joinN s (q :: r))
def gJoin (w : Va) (ws : List Va) (st : Sto) : Option (Va × Sto) := match w, ws with
  | .str s, [y] => (itemsOf y st).bind fun xs => (strsOf xs).bind fun ps => @ite _ ((ps.map (·.length)).sum + ps.length * s.length ≤ 16777216) (Classical.propDecidable _) (some (.str (joinN s ps), st)) none
  | _, _ => none
theorem join_tl (s : List Nat) : ∀ ps : List (List Nat), TL.joinL (TL.tl ⟨s.toArray⟩) ((ps.map fun p => (⟨p.toArray⟩ : Str)).map TL.tl) = joinN s ps
  | [] => rfl
  | [_] => by simp [TL.joinL, joinN, TL.tl]
  | p :: q :: r => by
    have ih := join_tl s (q :: r)
    simp only [List.map_cons] at ih ⊢
    rw [TL.joinL, ih, joinN]
theorem mJoin : MM X.K gJoin (fun x xs H Q => ∃ a p, ∃ ys : List Str, x = .str a ∧ xs = [.ref p] ∧ (SqL X.K H p (ys.map V.str) ∨ SqT X.K H p (ys.map V.str)) ∧
    (ys.map (·.length)).sum + ys.length * a.length ≤ 16777216 ∧ Q (.str (Txt.join a ys)) H) := by
  intro ρ fm st σ H a ws x vs w st' Q R ra rl e T
  unfold gJoin at e
  split at e
  · rename_i s y
    simp only [Option.bind_eq_some_iff] at e
    obtain ⟨xs, e1, ps, e2, e3⟩ := e
    split at e3
    · rename_i hz
      cases e3
      obtain ⟨v, rfl, rv⟩ := rep1 rl
      obtain ⟨a, us, rfl, g, r1⟩ := items_rep R rv e1
      simp only [RepV] at ra
      have hs := strs_rep e2 r1
      subst hs
      refine ⟨_, a, ps.map fun s => (⟨s.toArray⟩ : Str), ra, rfl, .inl g, ?_, ?_⟩
      · rw [slen, List.length_map, List.map_map]
        have : ((fun s : Str => s.length) ∘ fun s : List Nat => (⟨s.toArray⟩ : Str)) = fun s => s.length := by funext s; exact slen s
        rw [this]; exact hz
      · have hj : Txt.join ⟨s.toArray⟩ (ps.map fun s => (⟨s.toArray⟩ : Str)) = ⟨(joinN s ps).toArray⟩ := by
          rw [TL.join_eq, ← join_tl s ps, ← TL.tl_join]
        rw [hj]
        exact T.same R _ repS
    · cases e3
  · cases e
theorem de_join (ho : DE X o fo) (he : DE X e f) (hbase : attributeBase o "join" X.env (eval o X.env) = eval o X.env := by rfl)
    (hfew : ((backTo cpos (starEach [e] X.env)).all (fun x => !x.1) && (backToKw cpos (keywordEach [] X.env)).all (fun x => x.1.isSome)
      && decide (([e] : List Expr).length + ([] : List Keyword).length + (if ([] : List Keyword).isEmpty then 0 else 1) < 30)) = true := by rfl)
    (hline : (apos.endLine == cpos.line) = true := by rfl) (hs : starEach [e] X.env = (false, eval e X.env) :: starEach [] X.env := by rfl) :
    DE X (.Call (.Attribute o "join" apos) [e] [] cpos) (eMt "str" gJoin fo (aC f aN)) :=
  de_mt PySem.F.plainAttrs_str PySem.F.slot_str_join PySem.F.type_str_join mt_join mJoin ho (da_cons he da_nil hs) hbase hfew hline hs
/-- s.index(t), t found -/
def gIndex (w : Va) (ws : List Va) (st : Sto) : Option (Va × Sto) := match w, ws with
  | .str s, [.str t] => (Txt.index0 ⟨s.toArray⟩ ⟨t.toArray⟩).map fun (k : Nat) => (.int (k : Int), st)
  | _, _ => none
theorem mt_index1 : MtR X "str.index" (fun x xs H Q => ∃ (a b : Str) (k : Nat), x = .str a ∧ xs = [.str b] ∧ Txt.index0 a b = some k ∧ Q (.int (k : Nat)) H) := by
  intro pins s σ H x xs v us Q I rx rs h
  obtain ⟨a, b, k, rfl, rfl, hk, q⟩ := h
  obtain ⟨t, rfl⟩ := rx
  cases rs with
  | cons r1 rs =>
    cases rs
    obtain ⟨u, rfl⟩ := r1
    unfold Txt.index0 at hk
    cases ho : Builtin.Str.occurrences a b 0 a.length 1 with
    | nil => rw [ho] at hk; cases hk
    | cons k' rest =>
      rw [ho] at hk
      cases hk
      exact PySem.SC.index ho ⟨.int (k : Nat), H, I.tok _, ⟨_, rfl⟩, q⟩
theorem mIndex : MM X.K gIndex (fun x xs H Q => ∃ (a b : Str) (k : Nat), x = .str a ∧ xs = [.str b] ∧ Txt.index0 a b = some k ∧ Q (.int (k : Nat)) H) := by
  intro ρ fm st σ H a ws x vs w st' Q R ra rl e T
  unfold gIndex at e
  split at e
  · simp only [Option.map_eq_some_iff] at e
    obtain ⟨k, e1, e2⟩ := e
    cases e2
    obtain ⟨v, rfl, rv⟩ := rep1 rl
    simp only [RepV] at ra rv; subst ra; subst rv
    exact ⟨_, _, k, rfl, rfl, e1, T.same R _ repI⟩
  · cases e
theorem de_index (ho : DE X o fo) (he : DE X e f) (hbase : attributeBase o "index" X.env (eval o X.env) = eval o X.env := by rfl)
    (hfew : ((backTo cpos (starEach [e] X.env)).all (fun x => !x.1) && (backToKw cpos (keywordEach [] X.env)).all (fun x => x.1.isSome)
      && decide (([e] : List Expr).length + ([] : List Keyword).length + (if ([] : List Keyword).isEmpty then 0 else 1) < 30)) = true := by rfl)
    (hline : (apos.endLine == cpos.line) = true := by rfl) (hs : starEach [e] X.env = (false, eval e X.env) :: starEach [] X.env := by rfl) :
    DE X (.Call (.Attribute o "index" apos) [e] [] cpos) (eMt "str" gIndex fo (aC f aN)) :=
  de_mt PySem.F.plainAttrs_str PySem.F.slot_str_index PySem.F.type_str_index mt_index1 mIndex ho (da_cons he da_nil hs) hbase hfew hline hs
end

/-! ### dicts -/
def kcs : List (Va × Va) → Option (List (Key × Va))
  | [] => some []
  | p :: r => (keyOf p.1).bind fun k => (kcs r).map ((k, p.2) :: ·)
def mrg (acc : List (Key × Va)) (more : List (Key × Va)) : List (Key × Va) := more.foldl (fun a p => dPut a p.1 p.2) acc
/-- the pairs of a display, from the left -/
abbrev Eps := Fm → Sto → Option (List (Va × Va) × Sto)
def pN : Eps := fun _ st => some ([], st)
def pC (f g : Ev) (r : Eps) : Eps := fun fm st => (f fm st).bind fun p => (g fm p.2).bind fun q => (r fm q.2).bind fun t => some ((p.1, q.1) :: t.1, t.2)
/-- a display: the dict is the first new thing -/
def eDic (fp : Eps) : Ev := fun fm st => (fp fm (st ++ [.dic []])).bind fun p => match p.2[st.length]? with
  | some (.dic []) => (kcs p.1).bind fun kvs => @ite _ (kvs.length ≤ 15) (Classical.propDecidable _) (some (.ref st.length, p.2.set st.length (.dic (mrg [] kvs)))) none
  | _ => none
def eDic0 : Ev := fun _ st => some (.ref st.length, st ++ [.dic []])
def eDit0 : Ev := fun _ st => some (.ref st.length, st ++ [.dit []])
section
variable {X : Cx} {o i e k v : Expr} {f g fo fi fv : Ev} {pos pos' : Pos}
theorem de_dic0 : DE X (.Dict [] [] pos) eDic0 := PEi pe_dnewK fun σ H Q h => by
  obtain ⟨ρ, fm, st, w, st', R, e, T⟩ := h
  cases e
  exact fun p hp => T.push R hp (o := .dic []) ⟨[], upd_same, rfl, RepL.nil⟩ _ (ref_last R.s.rl)
theorem de_dit0 : DE X (.Dict [] [] pos) eDit0 := PEi pe_dnewT fun σ H Q h => by
  obtain ⟨ρ, fm, st, w, st', R, e, T⟩ := h
  cases e
  exact fun p hp => T.push R hp (o := .dit []) ⟨[], upd_same, rfl, RepL.nil⟩ _ (ref_last R.s.rl)
def PrR (K : PySem.W.Frag) (ρ : List Addr) (H : Hp) : List (Va × Va) → List (V × V) → Prop
  | [], vs => vs = []
  | p :: r, vs => ∃ u t, vs = u :: t ∧ RepV K ρ H p.1 u.1 ∧ RepV K ρ H p.2 u.2 ∧ PrR K ρ H r t
structure DPs (X : Cx) (pos : Pos) (ks : List (Option Expr)) (vs : List Expr) (fp : Eps) : Prop where
  ex : ∃ trs, PPs X pos ks vs trs ∧ ∀ σ H (Q : List (V × V) → Hp → Prop) ρ fm st ws st', Rel X.K ρ fm st σ H → fp fm st = some (ws, st') →
    Th X.K ρ fm σ H st' (fun ρ' H' => ∀ us, PrR X.K ρ' H' ws us → Q us H') → tPairs trs σ H Q
theorem PrR.mono {K : PySem.W.Frag} {ρ ρ' : List Addr} {H H' : Hp} (hp : ρ <+: ρ') (hk : Kp K H H') : ∀ {ws : List (Va × Va)} {us : List (V × V)}, PrR K ρ H ws us → PrR K ρ' H' ws us
  | [], _, h => h
  | p :: r, _, ⟨u, t, e, a, b, c⟩ => ⟨u, t, e, RepV.mono hp hk _ _ a, RepV.mono hp hk _ _ b, PrR.mono hp hk c⟩
theorem dps_nil : DPs X pos [] [] pN := ⟨[], pps_nil, fun σ H Q ρ fm st ws st' R e T => by
  cases e
  exact T.same R [] rfl⟩
theorem dps_cons {ks : List (Option Expr)} {vs : List Expr} {fp : Eps} (hk : DE X k f) (hv : DE X v g) (hr : DPs X pos ks vs fp) : DPs X pos (some k :: ks) (v :: vs) (pC f g fp) := by
  obtain ⟨trs, h1, h2⟩ := hr.ex
  refine ⟨_, pps_cons hk hv h1, fun σ H Q ρ fm st ws st' R e T => ?_⟩
  simp only [pC, Option.bind_eq_some_iff] at e
  obtain ⟨⟨a, s1⟩, e1, ⟨b, s2⟩, e2, ⟨r, s3⟩, e3, e4⟩ := e
  cases e4
  refine ⟨ρ, fm, st, a, s1, R, e1, fun ρ1 H1 p1 k1 R1 x rx => ⟨ρ1, fm, s1, b, s2, R1, e2, fun ρ2 H2 p2 k2 R2 y ry => ?_⟩⟩
  refine h2 σ H2 _ ρ2 fm s2 r _ R2 e3 fun ρ3 H3 p3 k3 R3 us ru => ?_
  exact T ρ3 H3 (List.IsPrefix.trans p1 (List.IsPrefix.trans p2 p3)) (k1.trans (k2.trans k3)) R3 ((x, y) :: us)
    ⟨(x, y), us, rfl, RepV.mono p3 k3 _ _ (RepV.mono p2 k2 _ _ rx), RepV.mono p3 k3 _ _ ry, ru⟩
theorem kcs_rep {K : PySem.W.Frag} {ρ : List Addr} {H : Hp} : ∀ {ws : List (Va × Va)} {us : List (V × V)} {kvs : List (Key × Va)}, PrR K ρ H ws us → kcs ws = some kvs →
    ∃ ks : List (Key × V), us = ks.map (fun kv => (kV kv.1, kv.2)) ∧ ks.map (·.1) = kvs.map (·.1) ∧ RepL K ρ H (kvs.map (·.2)) (ks.map (·.2))
  | [], _, _, h, e => by cases e; simp only [PrR] at h; exact ⟨[], h, rfl, RepL.nil⟩
  | p :: r, _, _, h, e => by
    simp only [PrR] at h
    obtain ⟨u, t, rfl, h1, h2, h3⟩ := h
    simp only [kcs, Option.bind_eq_some_iff, Option.map_eq_some_iff] at e
    obtain ⟨k, ek, kv, er, rfl⟩ := e
    obtain ⟨ks, rfl, m, rl⟩ := kcs_rep h3 er
    refine ⟨(k, u.2) :: ks, ?_, by simp [m], RepL.cons h2 rl⟩
    have := keyOf_rep h1 ek
    simp [← this]
theorem mrg_rep {K : PySem.W.Frag} {ρ : List Addr} {H : Hp} : ∀ {more : List (Key × Va)} {mk : List (Key × V)} {acc : List (Key × Va)} {ak : List (Key × V)}, mk.map (·.1) = more.map (·.1) → RepL K ρ H (more.map (·.2)) (mk.map (·.2)) →
    ak.map (·.1) = acc.map (·.1) → RepL K ρ H (acc.map (·.2)) (ak.map (·.2)) → (mergeK ak mk).map (·.1) = (mrg acc more).map (·.1) ∧ RepL K ρ H ((mrg acc more).map (·.2)) ((mergeK ak mk).map (·.2))
  | [], mk, acc, ak, m, r, m2, r2 => by
    have : mk = [] := by simpa using m
    subst this; exact ⟨m2, r2⟩
  | p :: more, [], _, _, m, _, _, _ => by simp at m
  | p :: more, q :: mk, acc, ak, m, r, m2, r2 => by
    simp only [List.map_cons, List.cons.injEq] at m
    simp only [List.map_cons, RepL] at r
    obtain ⟨v', vs, e, r1, r3⟩ := r
    simp only [List.cons.injEq] at e
    obtain ⟨e1, e2⟩ := e
    subst e1; subst e2
    obtain ⟨a, b⟩ := dPut_rep (k := p.1) r1 m2 r2
    show (mergeK (putK ak q.1 q.2) mk).map (·.1) = _ ∧ RepL K ρ H _ ((mergeK (putK ak q.1 q.2) mk).map (·.2))
    rw [m.1]
    exact mrg_rep (more := more) (mk := mk) m.2 r3 a b
theorem de_dic {ks : List (Option Expr)} {vs : List Expr} {fp : Eps} (h : DPs X pos ks vs fp) (hall : ks.all (·.isSome) = true) (hl : ks.length = vs.length) (h0 : ks ≠ []) (h15 : ks.length ≤ 15) : DE X (.Dict ks vs pos) (eDic fp) := by
  obtain ⟨trs, h1, h2⟩ := h.ex
  refine PEi (pe_disp h1 hall hl h0 h15) fun σ H Q h => ?_
  obtain ⟨ρ, fm, st, w, st', R, e, T⟩ := h
  simp only [eDic, Option.bind_eq_some_iff] at e
  obtain ⟨⟨ws, s1⟩, e1, e2⟩ := e
  dsimp only at e2
  split at e2
  · rename_i hn
    simp only [Option.bind_eq_some_iff] at e2
    obtain ⟨kvs, e3, e4⟩ := e2
    split at e4
    · rename_i hz
      cases e4
      intro p hp
      have hk0 : Kp X.K H (upd H p (.dK [])) := Kp.new hp
      have R1 : Rel X.K (ρ ++ [p]) fm (st ++ [.dic []]) σ (upd H p (.dK [])) := R.mono (List.prefix_append _ _) hk0 (R.s.push hp (o := .dic []) ⟨[], upd_same, rfl, RepL.nil⟩)
      refine h2 σ _ _ _ fm _ ws s1 R1 e1 fun ρ2 H2 p2 k2 R2 us ru => ?_
      have hpn : (ρ ++ [p])[st.length]? = some p := by rw [← R.s.rl, List.getElem?_append_right (Nat.le_refl _)]; simp
      have hpn2 := pre_get p2 hpn
      obtain ⟨ks, e5, m, r⟩ := kcs_rep ru e3
      obtain ⟨a, ks0, ea, ea2, g, m0, r0⟩ := dic_get R2 (v := .ref p) (by simp only [RepV]; exact ⟨p, rfl, hpn2⟩) hn
      cases ea
      have : ks0 = [] := by simpa using m0
      subst this
      have hk3 : Kp X.K H2 (upd H2 p (.dK (mergeK [] ks))) := Kp.upd (fun xs q => by rw [g] at q; cases q)
      obtain ⟨m3, r3⟩ := mrg_rep m r (acc := []) (ak := []) rfl RepL.nil
      have hlen := congrArg List.length m
      simp only [List.length_map] at hlen
      obtain ⟨S, kS⟩ := R2.s.write (o' := .dic (mrg [] kvs)) hn hpn2 rfl rfl ⟨_, upd_same, m3, RepL.mono (List.prefix_refl _) hk3 _ _ r3⟩
      refine ⟨g, ks, e5, by rw [hlen]; exact hz, ?_⟩
      have P := List.IsPrefix.trans (List.prefix_append ρ [p]) p2
      refine T ρ2 _ P (hk0.trans (k2.trans kS)) ⟨S, R.e.mono P (hk0.trans (k2.trans kS))⟩ (.ref p) ?_
      simp only [RepV]
      exact ⟨p, rfl, hpn2⟩
    · cases e4
  · cases e2
/-- a store at a place -/
def setW (o i v : Va) (st : Sto) : Option Sto := match o with
  | .ref n => match st[n]? with
    | some (.lst ws) => match i with
      | .int k => (ixN ws.length k).map fun j => st.set n (.lst (ws.set j v))
      | _ => none
    | some (.dic kvs) => (keyOf i).bind fun k => @ite _ (kvs.length < 16777216) (Classical.propDecidable _) (some (st.set n (.dic (dPut kvs k v)))) none
    | some (.dit kvs) => match i with
      | .tup ks => (keysOf ks).bind fun k => @ite _ (kvs.length < 16777216) (Classical.propDecidable _) (some (st.set n (.dit (dPut kvs k v)))) none
      | _ => none
    | _ => none
  | _ => none
def sPut (fo fi fv : Ev) : Sm := fun fm st => (fv fm st).bind fun v => (fo fm v.2).bind fun o => (fi fm o.2).bind fun i => (setW o.1 i.1 v.1 i.2).map fun st' => (.nx, fm, st')
theorem ds_put (ho : DE X o fo) (hi : DE X i fi) (hv : DE X e fv) (hu : X.A.units + 1 < cLine) (hs : swapsWith e (some (.Subscript o i pos')) pos.line X.env = pure false := by rfl) (hs1 : swapsWithSole [.Subscript o i pos'] e pos.line X.env = pure false := by rfl) (hw : swappedStores [.Subscript o i pos'] e X.env = pure none := by rfl)
    (h1 : (assignEach [.Subscript o i pos'] X.env).map (·.2) = [assign (.Subscript o i pos') X.env] := by rfl)
    (ha : ∀ v, assign (.Subscript o i pos') X.env v = (do
      let ov ← holding [v] (eval o X.env)
      let iv ← holding [v, ov] (eval i X.env)
      standAt pos'
      holding [v, ov, iv] (setItem ov iv v)
      release [v, ov, iv] []) := by intro _; rfl) : DS X (.Assign [.Subscript o i pos'] e pos) (sPut fo fi fv) :=
  PSi (PS.orr (ps_asg hv (pg_sub ho hi set_list ha) hs1 hw h1) (ps_dput hu ho hi hv hs)) fun D σ H h => by
  obtain ⟨ρ, fm, st, fl, fm', st', R, e, T⟩ := h
  simp only [sPut, Option.bind_eq_some_iff, Option.map_eq_some_iff] at e
  obtain ⟨⟨v, s1⟩, e1, ⟨o, s2⟩, e2, ⟨i, s3⟩, e3, s4, e4, e5⟩ := e
  cases e5
  dsimp only at e2 e3 e4
  unfold setW at e4
  split at e4
  · rename_i n
    split at e4
    · rename_i ws hn
      split at e4
      · simp only [Option.map_eq_some_iff] at e4
        obtain ⟨j, ej, e6⟩ := e4
        subst e6
        refine .inl ⟨ρ, fm, st, v, s1, R, e1, fun ρ1 H1 p1 k1 R1 x rx => ⟨ρ1, fm, s1, _, s2, R1, e2, fun ρ2 H2 p2 k2 R2 y ry => ⟨ρ2, fm, s2, _, s3, R2, e3, fun ρ3 H3 p3 k3 R3 z rz => ?_⟩⟩⟩
        obtain ⟨a, vs, rfl, ea, g, r1⟩ := lst_of R3 (RepV.mono p3 k3 _ _ ry) hn
        simp only [RepV] at rz
        have hk4 : Kp X.K H3 (upd H3 a (.lst (vs.set j x))) := Kp.upd (fun xs q => by rw [g] at q; cases q)
        refine ⟨a, vs, _, j, rfl, rz, g, by rw [← r1.length]; exact ej, ?_⟩
        obtain ⟨S, kS⟩ := R3.s.write (o' := .lst (ws.set j v)) hn ea rfl rfl ⟨_, upd_same, RepL.mono (List.prefix_refl _) hk4 _ _ (r1.set (RepV.mono p3 k3 _ _ (RepV.mono p2 k2 _ _ rx)))⟩
        exact T ρ3 _ σ (List.IsPrefix.trans p1 (List.IsPrefix.trans p2 p3)) (k1.trans (k2.trans (k3.trans kS))) ⟨S, R3.e.mono (List.prefix_refl _) kS⟩
      · cases e4
    · rename_i kvs hn
      simp only [Option.bind_eq_some_iff] at e4
      obtain ⟨k, ek, e6⟩ := e4
      split at e6
      · rename_i hz
        cases e6
        refine .inr ⟨ρ, fm, st, v, s1, R, e1, fun ρ1 H1 p1 k1 R1 x rx => ⟨ρ1, fm, s1, _, s2, R1, e2, fun ρ2 H2 p2 k2 R2 y ry => ⟨ρ2, fm, s2, _, s3, R2, e3, fun ρ3 H3 p3 k3 R3 z rz => ?_⟩⟩⟩
        obtain ⟨a, ks, rfl, ea, g, m, r1⟩ := dic_get R3 (RepV.mono p3 k3 _ _ ry) hn
        have hv := keyOf_rep rz ek
        subst hv
        have hlen := congrArg List.length m
        simp only [List.length_map] at hlen
        have hk4 : Kp X.K H3 (upd H3 a (.dK (putK ks k x))) := Kp.upd (fun xs q => by rw [g] at q; cases q)
        refine ⟨a, _, rfl, DPut.k g (by rw [hlen, sizeLine_eq]; exact hz), ?_⟩
        obtain ⟨m3, r3⟩ := dPut_rep (k := k) (RepV.mono p3 k3 _ _ (RepV.mono p2 k2 _ _ rx)) m r1
        obtain ⟨S, kS⟩ := R3.s.write (o' := .dic (dPut kvs k v)) hn ea rfl rfl ⟨_, upd_same, m3, RepL.mono (List.prefix_refl _) hk4 _ _ r3⟩
        exact T ρ3 _ σ (List.IsPrefix.trans p1 (List.IsPrefix.trans p2 p3)) (k1.trans (k2.trans (k3.trans kS))) ⟨S, R3.e.mono (List.prefix_refl _) kS⟩
      · cases e6
    · rename_i kvs hn
      split at e4
      · rename_i kk
        simp only [Option.bind_eq_some_iff] at e4
        obtain ⟨k, ek, e6⟩ := e4
        split at e6
        · rename_i hz
          cases e6
          refine .inr ⟨ρ, fm, st, v, s1, R, e1, fun ρ1 H1 p1 k1 R1 x rx => ⟨ρ1, fm, s1, _, s2, R1, e2, fun ρ2 H2 p2 k2 R2 y ry => ⟨ρ2, fm, s2, _, s3, R2, e3, fun ρ3 H3 p3 k3 R3 z rz => ?_⟩⟩⟩
          obtain ⟨a, ks, rfl, ea, g, m, r1⟩ := dit_get R3 (RepV.mono p3 k3 _ _ ry) hn
          simp only [RepV] at rz
          obtain ⟨b, vs, rfl, hb, rl⟩ := rz
          have hv := keysOf_rep rl ek
          subst hv
          have hlen := congrArg List.length m
          simp only [List.length_map] at hlen
          have hk4 : Kp X.K H3 (upd H3 a (.dT (putK ks k x))) := Kp.upd (fun xs q => by rw [g] at q; cases q)
          refine ⟨a, _, rfl, DPut.t g hb (by rw [hlen, sizeLine_eq]; exact hz), ?_⟩
          obtain ⟨m3, r3⟩ := dPut_rep (k := k) (RepV.mono p3 k3 _ _ (RepV.mono p2 k2 _ _ rx)) m r1
          obtain ⟨S, kS⟩ := R3.s.write (o' := .dit (dPut kvs k v)) hn ea rfl rfl ⟨_, upd_same, m3, RepL.mono (List.prefix_refl _) hk4 _ _ r3⟩
          exact T ρ3 _ σ (List.IsPrefix.trans p1 (List.IsPrefix.trans p2 p3)) (k1.trans (k2.trans (k3.trans kS))) ⟨S, R3.e.mono (List.prefix_refl _) kS⟩
        · cases e6
      · cases e4
    · cases e4
  · cases e4
end
end
end T3
/-! T3, eighth part: slices, calls of defs, defs, the law's end -/
namespace T3
open PySem PySem.Spec PyProof.Rows L2
noncomputable section

/-! ### slices -/
def cutL {α : Type} (xs : List α) (lo hi : Option Int) : List α := (xs.drop (HT.sIx xs.length 0 lo)).take (HT.sIx xs.length xs.length hi - HT.sIx xs.length 0 lo)
abbrev Ep := Fm → Sto → Option (Option Int × Sto)
def pNo : Ep := fun _ st => some (none, st)
def pSo (f : Ev) : Ep := fun fm st => (f fm st).bind fun p => match p.1 with
  | .int i => some (some i, p.2)
  | _ => none
def gCut (w : Va) (lo hi : Option Int) (st : Sto) : Option (Va × Sto) := match w with
  | .str s => @ite _ (s.length ≤ 16777216) (Classical.propDecidable _) (some (.str (cutL s lo hi), st)) none
  | .tup ws => some (.tup (cutL ws lo hi), st)
  | w => (itemsOf w st).map fun ws => (.ref st.length, st ++ [.lst (cutL ws lo hi)])
def eCut (f : Ev) (a b : Ep) : Ev := fun fm st => (f fm st).bind fun p => (a fm p.2).bind fun q => (b fm q.2).bind fun r => gCut p.1 q.1 r.1 r.2
def tP (K : PySem.W.Frag) (f : Ep) : TO := fun σ H Q => ∃ ρ fm st i st', Rel K ρ fm st σ H ∧ f fm st = some (i, st') ∧ Th K ρ fm σ H st' fun _ H' => Q i H'
abbrev DP (X : Cx) (e : Option Expr) (f : Ep) : Prop := PO X e (tP X.K f)
theorem POi {X : Cx} {e : Option Expr} {t t' : TO} (h : PO X e t) (i : ∀ σ H Q, t' σ H Q → t σ H Q) : PO X e t' := ⟨fun pins s σ H Q I hw => h.run pins s σ H Q I (i _ _ _ hw)⟩
section
variable {X : Cx} {e : Expr} {f : Ev} {fa fb : Ep} {lo hi : Option Expr} {p2 pos : Pos}
theorem dp_no : DP X none pNo := POi po_none fun σ H Q h => by
  obtain ⟨ρ, fm, st, w, st', R, e, T⟩ := h
  cases e
  exact T.same R
theorem dp_so (h : DE X e f) : DP X (some e) (pSo f) := POi (po_some h) fun σ H Q h => by
  obtain ⟨ρ, fm, st, w, st', R, e, T⟩ := h
  simp only [pSo, Option.bind_eq_some_iff] at e
  obtain ⟨⟨x, s1⟩, e1, e2⟩ := e
  dsimp only at e2
  split at e2
  · cases e2
    refine ⟨ρ, fm, st, _, _, R, e1, fun ρ1 H1 p1 k1 R1 v rv => ?_⟩
    simp only [RepV] at rv
    exact ⟨_, rv, T ρ1 H1 p1 k1 R1⟩
  · cases e2
theorem cutL_map {α β : Type} (g : α → β) (xs : List α) (lo hi : Option Int) : cutL (xs.map g) lo hi = (cutL xs lo hi).map g := by
  simp only [cutL, List.length_map, List.map_take, List.map_drop]
theorem cutL_rep {K : PySem.W.Frag} {ρ : List Addr} {H : Hp} {ws : List Va} {vs : List V} (r : RepL K ρ H ws vs) (lo hi : Option Int) : RepL K ρ H (cutL ws lo hi) (cutV vs lo hi) := by
  unfold cutL cutV
  rw [r.length]
  exact (r.drop _).take _
theorem de_cut (he : DE X e f) (ha : DP X lo fa) (hb : DP X hi fb) : DE X (.Subscript e (.Slice lo hi none p2) pos) (eCut f fa fb) := PEi (pe_slice (sl_list.or (sl_tupA.or sl_str)) he ha hb) fun σ H Q h => by
  obtain ⟨ρ, fm, st, w, st', R, e, T⟩ := h
  simp only [eCut, Option.bind_eq_some_iff] at e
  obtain ⟨⟨x, s1⟩, e1, ⟨i, s2⟩, e2, ⟨j, s3⟩, e3, e4⟩ := e
  dsimp only at e2 e3 e4
  refine ⟨ρ, fm, st, x, s1, R, e1, fun ρ1 H1 p1 k1 R1 v rv => ⟨ρ1, fm, s1, i, s2, R1, e2, fun ρ2 H2 p2 k2 R2 => ⟨ρ2, fm, s2, j, s3, R2, e3, fun ρ3 H3 p3 k3 R3 => ?_⟩⟩⟩
  replace rv := RepV.mono p3 k3 _ _ (RepV.mono p2 k2 _ _ rv)
  replace T := T.then (List.IsPrefix.trans p1 (List.IsPrefix.trans p2 p3)) (k1.trans (k2.trans k3))
  unfold gCut at e4
  split at e4
  · split at e4
    · rename_i s hz
      cases e4
      simp only [RepV] at rv
      refine .inr (.inr ⟨_, rv, by rw [slen, sizeLine_eq]; exact hz, ?_⟩)
      have : cutS (⟨s.toArray⟩ : Str) i j = ⟨(cutL s i j).toArray⟩ := by
        unfold cutS cutL
        rw [slen]
      rw [this]
      exact T.same R3 _ repS
    · cases e4
  · rename_i ws
    cases e4
    obtain ⟨a, vs, rfl, h1, r1⟩ := tup_of rv
    refine .inr (.inl ⟨a, vs, rfl, h1, fun hw => ?_, fun _ p hp => ?_⟩)
    · have : cutL ws i j = ws := by
        unfold cutL
        rw [r1.length, hw.1, hw.2, List.drop_zero, Nat.sub_zero, ← r1.length]
        exact List.take_length
      rw [this] at T
      exact T.same R3 _ rv
    · refine T.tup R3 hp _ ?_
      simp only [RepV]
      exact ⟨p, _, rfl, upd_same, RepL.mono (List.prefix_refl _) (Kp.new hp) _ _ (cutL_rep r1 i j)⟩
  · simp only [Option.map_eq_some_iff] at e4
    obtain ⟨ws, e5, e6⟩ := e4
    cases e6
    obtain ⟨a, vs, rfl, g, r1⟩ := items_rep R3 rv e5
    exact .inl ⟨a, vs, rfl, g, fun p hp => T.push R3 hp (o := .lst _) ⟨_, upd_same, RepL.mono (List.prefix_append _ _) (Kp.new hp) _ _ (cutL_rep r1 i j)⟩ _ (ref_last R3.s.rl)⟩
end
/-! s[::-1], xs[::-1] -/
theorem sub_rev (a : Array Nat) : ((List.range a.size).map fun k => a.getD (a.size - 1 - k) 0) = a.toList.reverse := by
  apply List.ext_getElem
  · simp
  · intro i h1 h2
    simp at h1
    have : a.size - 1 - i < a.size := by omega
    simp [Array.getD, this]
def tRevS (te : TE) : TE := fun σ H Q => te σ H fun x H1 => ∃ z, x = .str z ∧ z.length ≤ sizeLine ∧ Q (.str ⟨z.cps.toList.reverse.toArray⟩) H1
theorem pe_revS {X : Cx} {e : Expr} {te : TE} {k : Nat} {p1 p2 p3 pos : Pos} (he : PE X e te) : PE X (.Subscript e (.Slice none none (some (.UnaryOp .USub (.Constant (.int 1) k p1) p2)) p3) pos) (tRevS te) := by
  refine ⟨fun pins s σ H Q I h => Subscript_ (thn (he.run pins s σ H _ I h) fun v s1 ⟨x, H1, I1, r1, z, ex, hz, q⟩ => ?_)⟩
  subst ex
  obtain ⟨t, rfl⟩ := r1
  have hst : PO X (some (.UnaryOp .USub (.Constant (.int 1) k p1) p2)) (tPart (tUn (rU fun i => .int (-i)) (tC (.int 1)))) := po_some (pe_un un_neg pe_int)
  refine wpAny_Slice (thn (po_none.run pins s1 σ H1 (fun o H2 => o = none ∧ H2 = H1) I1 ⟨rfl, rfl⟩) fun vl s2 ⟨l, H2, I2, pl, el, e2⟩ => ?_)
  subst el; subst e2
  refine thn (po_none.run pins s2 σ H2 (fun o H3 => o = none ∧ H3 = H2) I2 ⟨rfl, rfl⟩) fun vu s3 ⟨u, H3, I3, pu, eu, e3⟩ => ?_
  subst eu; subst e3
  refine thn (hst.run pins s3 σ H3 (fun o H4 => o = some (-1) ∧ H4 = H3) I3 ⟨1, rfl, -1, rfl, rfl, rfl⟩) fun vs s4 ⟨o, H4, I4, ps, eo, e4⟩ => ?_
  subst eo; subst e4
  have I5 : Inv X pins σ H4 { s4 with heap := s4.heap.push { cls := .type "slice", data := .fields #[vl, vu, vs] } } := I4.kept (t' := s4.toks) fun b ob q => Heap.get?_push_of_some _ q
  obtain ⟨l, el, elo⟩ := IsPart.raw pl
  obtain ⟨u, eu, euo⟩ := IsPart.raw pu
  obtain ⟨st, es, eso⟩ := IsPart.raw ps
  have hl : l = none := by simpa using elo
  have hu : u = none := by simpa using euo
  obtain ⟨⟨m, tm⟩, rfl, em⟩ := Option.map_eq_some_iff.mp eso
  have hm : m = -1 := em
  subst hl; subst hu; subst el; subst eu; subst es; subst hm
  show wpAny (model X.prog X.w) X.A (subscriptTail e (.Slice none none (some (.UnaryOp .USub (.Constant (.int 1) k p1) p2)) p3) (.str z t) (.ref s4.heap.objs.size)) (EP X pins σ Q) X.xe _
  refine tail_any (ops := [.str z t, .ref s4.heap.objs.size]) (typeIs_str _ _ _) F.slot_str_getitem.lookup ?_ (by with_unfolding_all rfl)
  refine wpAny_getItem_str_slice (l := none) (u := none) (st := some (-1, tm)) ⟨_, Heap.get?_push_size _ rfl, rfl, rfl⟩ rfl ?_
  have hp : Builtin.Str.strSliceIndices none none (-1) z.length = (List.range z.length).map fun k => z.length - 1 - k := picked_rev _
  have hx : ((Builtin.Str.strSliceIndices none none (-1) z.length).filterMap (z.cps[·]?)) = z.cps.toList.reverse := by
    rw [hp, filterMap_get, List.map_map]
    · exact sub_rev z.cps
    · intro i hi
      obtain ⟨k, hk, rfl⟩ := List.mem_map.mp hi
      have hk' : k < z.length := List.mem_range.mp hk
      show z.length - 1 - k < z.length
      omega
  show Made.post (if ((-1 : Int) == 1 && (Builtin.Str.strSliceIndices none none (-1) z.length).length == z.length) = true then Made.val (.str z t)
    else Made.str ⟨((Builtin.Str.strSliceIndices none none (-1) z.length).filterMap (z.cps[·]?)).toArray⟩) (EP X pins σ Q) _
  rw [hx, if_neg (by rw [show ((-1 : Int) == 1) = false from rfl, Bool.false_and]; exact Bool.false_ne_true)]
  exact ⟨by show z.cps.toList.reverse.toArray.size ≤ sizeLine; simpa [Str.length] using hz, .str _, H4, I5.tok _, ⟨_, rfl⟩, q⟩
def gRev (w : Va) (st : Sto) : Option (Va × Sto) := match w with
  | .str s => @ite _ (s.length ≤ 16777216) (Classical.propDecidable _) (some (.str s.reverse, st)) none
  | w => (itemsOf w st).map fun ws => (.ref st.length, st ++ [.lst ws.reverse])
theorem de_rev {X : Cx} {e : Expr} {f : Ev} {k : Nat} {p1 p2 p3 pos : Pos} (he : DE X e f) : DE X (.Subscript e (.Slice none none (some (.UnaryOp .USub (.Constant (.int 1) k p1) p2)) p3) pos) (eU gRev f) := PEi (PE.orr (pe_revS he) (pe_revL he)) fun σ H Q h => by
  obtain ⟨ρ, fm, st, w, st', R, e, T⟩ := h
  simp only [eU, Option.bind_eq_some_iff] at e
  obtain ⟨⟨x, s1⟩, e1, e2⟩ := e
  dsimp only at e2
  unfold gRev at e2
  split at e2
  · split at e2
    · rename_i s hz
      cases e2
      refine .inl ⟨ρ, fm, st, _, _, R, e1, fun ρ1 H1 p1 k1 R1 v rv => ?_⟩
      simp only [RepV] at rv
      exact ⟨_, rv, by rw [slen, sizeLine_eq]; exact hz, by simpa using (T.then p1 k1).same R1 _ repS⟩
    · cases e2
  · simp only [Option.map_eq_some_iff] at e2
    obtain ⟨ws, e5, e6⟩ := e2
    cases e6
    refine .inr ⟨ρ, fm, st, _, _, R, e1, fun ρ1 H1 p1 k1 R1 v rv => ?_⟩
    obtain ⟨a, vs, rfl, g, r1⟩ := items_rep R1 rv e5
    exact ⟨a, vs, rfl, g, fun p hp => (T.then p1 k1).push R1 hp (o := .lst _) ⟨_, upd_same, RepL.mono (List.prefix_append _ _) (Kp.new hp) _ _ r1.reverse⟩ _ (ref_last R1.s.rl)⟩

/-! ### calls of defs -/
def spD (K : PySem.W.Frag) (f : Fn) (np : Nat) : Sp := fun vs H Q _ => vs.length = np ∧ ∃ ρ st ws w st', SRel K ρ st H ∧ RepL K ρ H ws vs ∧ f ws st = some (w, st') ∧
  ∀ ρ' H', ρ <+: ρ' → Kp K H H' → SRel K ρ' st' H' → ∀ v, RepV K ρ' H' w v → Q v H'
def eCall (np : Nat) (f : Fn) (fa : Evs) : Ev := fun fm st => (fa fm st).bind fun p => if p.1.length = np then f p.1 p.2 else none
theorem spD_of {K : PySem.W.Frag} {f : Fn} {np : Nat} {fa : Evs} {E : XK} {σ : L2.St} {H : Hp} {Q : VK} (h : tD K (eCall np f fa) σ H Q) : tCall (spD K f np) [] E (tDs K fa) σ H Q := by
  obtain ⟨ρ, fm, st, w, st', R, e, T⟩ := h
  simp only [eCall, Option.bind_eq_some_iff] at e
  obtain ⟨⟨ws, s1⟩, e1, e2⟩ := e
  dsimp only at e2
  split at e2
  · rename_i hn
    refine ⟨ρ, fm, st, ws, s1, R, e1, fun ρ1 H1 p1 k1 R1 vs rv => ?_⟩
    show spD K f np (vs ++ []) H1 Q E
    rw [List.append_nil]
    exact ⟨by rw [← rv.length]; exact hn, ρ1, s1, ws, w, st', R1.s, rv, e2, fun ρ2 H2 p2 k2 S2 => (T.then p1 k1) ρ2 H2 p2 k2 ⟨S2, R1.e.mono p2 k2⟩⟩
  · cases e2
theorem de_call {X : Cx} {k : Nat} {f : Addr} {fd : FuncData} {ps : List Str} {fn : Fn} {np : Nat} {x : Str} {p pos : Pos} {e : Expr} {es : List Expr} {fa : Evs} (F : FnOk X.prog X.w X.K X.mg X.base CX0 k f fd ps (spD X.K fn np)) (hr : Room k X.A) (hg : Gl X x) (hm : X.mg x = some (.ref f)) (hk : PySem.W.keepIn X.K (.ref f) = true) (hb : Binds X.K fd ps [])
    (ha : DA X (e :: es) fa) (hdb : (x == ("__debug__" : Str)) = false := by decide) (he : starEach (e :: es) X.env = (false, eval e X.env) :: starEach es X.env := by rfl) (hpl : (backTo pos (starEach es X.env)).any (·.1) = false := by rfl) :
    DE X (.Call (.Name x p) (e :: es) [] pos) (eCall np fn fa) := PEi (pe_call F hr hg hm hk hb .nil pass0 ha hdb he hpl) fun _ _ _ h => spD_of h
/-- what is left of the store behind a call -/
def KeepOk (st st' : Sto) : Prop := ∀ (i : Nat) o, i < st.length → st'[i]? = some o → st[i]? = some o ∨ o.und st.length = true
section
open Classical
noncomputable def fin (st : Sto) (w : Va) (st' : Sto) : Va × Sto := if w.und st.length = true ∧ KeepOk st st' then (w, st'.take st.length) else (w, st')
noncomputable def fn (N np : Nat) (body : Sm) : Fn := fun ws st => if ws.length = np then (body (ws.map some ++ List.replicate (N - np) none) st).bind fun r => match r.1 with
  | .nx => some (fin st .non r.2.2)
  | .rt w => some (fin st w r.2.2)
  | _ => none else none
theorem fin_ok {K : PySem.W.Frag} {ρ ρ' : List Addr} {st st' : Sto} {H H' : Hp} {w : Va} {v : V} (S : SRel K ρ st H) (hp : ρ <+: ρ') (S' : SRel K ρ' st' H') (rv : RepV K ρ' H' w v) :
    ∃ ρ2, ρ <+: ρ2 ∧ SRel K ρ2 (fin st w st').2 H' ∧ RepV K ρ2 H' (fin st w st').1 v := by
  unfold fin
  split
  · rename_i h
    obtain ⟨h1, h2⟩ := h
    have hle : ρ.length ≤ ρ'.length := hp.length_le
    have hr : ρ'.take st.length = ρ := by
      obtain ⟨t, rfl⟩ := hp
      rw [← S.rl]; simp
    refine ⟨ρ'.take st.length, by rw [hr]; exact List.prefix_refl _, ⟨?_, fun i o e => ?_, fun i j a o o' e1 e2 e3 e4 m1 m2 => ?_, S'.tb⟩, RepV.cut w v h1 rv⟩
    · rw [List.length_take, List.length_take, S'.rl]
    · have hi : i < (st'.take st.length).length := (List.getElem?_eq_some_iff.mp e).1
      rw [List.length_take] at hi
      have hi' : i < st.length := by omega
      have e' : st'[i]? = some o := by
        rw [List.getElem?_take] at e
        simpa [hi'] using e
      obtain ⟨a, ea, ro⟩ := S'.sto i o e'
      have hu : o.und st.length = true := by
        rcases h2 i o hi' e' with q | q
        · obtain ⟨b, eb, r0⟩ := S.sto i o q
          rw [← S.rl]
          cases o with
          | lst ws => obtain ⟨vs, _, r⟩ := r0; exact RepL.has ws vs r
          | rol ws => obtain ⟨vs, _, r⟩ := r0; exact RepL.has ws vs r
          | dic kvs => obtain ⟨ks, _, _, r⟩ := r0; exact RepL.has _ _ r
          | dit kvs => obtain ⟨ks, _, _, r⟩ := r0; exact RepL.has _ _ r
        · exact q
      refine ⟨a, by rw [List.getElem?_take]; simp [hi', ea], ?_⟩
      cases o with
      | lst ws => obtain ⟨vs, q, r⟩ := ro; exact ⟨vs, q, RepL.cut _ _ hu r⟩
      | rol ws => obtain ⟨vs, q, r⟩ := ro; exact ⟨vs, q, RepL.cut _ _ hu r⟩
      | dic kvs => obtain ⟨ks, q, m, r⟩ := ro; exact ⟨ks, q, m, RepL.cut _ _ hu r⟩
      | dit kvs => obtain ⟨ks, q, m, r⟩ := ro; exact ⟨ks, q, m, RepL.cut _ _ hu r⟩
    · have tk : ∀ {α : Type} {l : List α} {i : Nat} {x : α}, (l.take st.length)[i]? = some x → l[i]? = some x := by
        intro α l i x e
        rw [List.getElem?_take] at e
        split at e
        · exact e
        · cases e
      exact S'.inj i j a o o' (tk e1) (tk e2) (tk e3) (tk e4) m1 m2
  · exact ⟨ρ', hp, S', rv⟩
end
theorem ok_defC {P : Program} {w : World} {K : PySem.W.Frag} {mg : Str → Option Value} {base : Heap} {x qual : Str} {s : Stmt} {f : Addr} {fd : FuncData} {N ps : List Str} {k : Nat} {body : Sm} {n np : Nat} (F : Fun K x qual s f fd) (S : FnScope N ps (defScope s)) (hn : N.length = n) (hnp : ps.length = np) (hle : np ≤ n)
    (hb : ∀ (cdv : Value), fd.code = cdv → ∀ (A : Around) (outer : List Env) (sh : Shared) (H : Hp) (E : XK), Room k (A.deeper (envOfC qual (defScope s) sh.heap.objs.size f cdv)) → DSs (cxOf CX0 P w K mg base N qual (defScope s) f cdv A outer sh H E).nox (defBody s) body) :
    FnOk P w K mg base CX0 (k + 1) f fd ps (spD K (fn n np body) np) := by
  subst hn; subst hnp
  obtain ⟨oc, od, kV, doc, pm, an, cdv, ct, osl, rfl, lk, hcd⟩ := F.ex
  refine fn_of lk hcd S (fun vs H Q E h => h.1) fun A outer sh H vs Q E hr h => ⟨_, (hb cdv rfl A outer sh H E hr).nox, ?_⟩
  obtain ⟨hl, ρ, st, ws, w, st', S0, rl, e, T⟩ := h
  unfold fn at e
  split at e
  · rename_i hws
    simp only [Option.bind_eq_some_iff] at e
    obtain ⟨⟨fl, fm', s1⟩, e1, e2⟩ := e
    have E0 : ERel K ρ (ws.map some ++ List.replicate (N.length - ps.length) none) (L2.start N vs) H := by
      unfold L2.start
      have hlen := rl.length
      refine ⟨by rw [List.length_append, List.length_append, List.length_map, List.length_map, List.length_replicate, List.length_replicate]; omega, fun i w e => ?_⟩
      by_cases hi : i < ws.length
      · rw [List.getElem?_append_left (by rw [List.length_map]; exact hi), List.getElem?_map] at e
        obtain ⟨w', e', rfl⟩ : ∃ w', ws[i]? = some w' ∧ w' = w := by
          cases q : ws[i]? with
          | none => rw [q] at e; cases e
          | some w' => rw [q] at e; cases e; exact ⟨_, rfl, rfl⟩
        obtain ⟨v, hv, rv⟩ := rl.get e'
        exact ⟨v, by rw [List.getElem?_append_left (by rw [List.length_map, ← hlen]; exact hi), List.getElem?_map, hv]; rfl, rv⟩
      · rw [List.getElem?_append_right (by rw [List.length_map]; omega), List.getElem?_replicate] at e
        split at e <;> cases e
    refine ⟨ρ, _, st, fl, fm', s1, ⟨S0, E0⟩, e1, fun ρ1 H1 σ1 p1 k1 R1 => ?_⟩
    cases fl with
    | nx =>
      have e3 : fin st .non s1 = (w, st') := Option.some.inj e2
      obtain ⟨ρ2, a, b, c⟩ := fin_ok (w := .non) (v := .non) S0 p1 R1.s repN
      rw [e3] at b c
      exact T ρ2 H1 a k1 b _ c
    | rt w' =>
      intro v rv
      have e3 : fin st w' s1 = (w, st') := Option.some.inj e2
      obtain ⟨ρ2, a, b, c⟩ := fin_ok S0 p1 R1.s rv
      rw [e3] at b c
      exact T ρ2 H1 a k1 b _ c
    | bk => cases e2
    | ct => cases e2
  · cases e
theorem ok_def {P : Program} {w : World} {K : PySem.W.Frag} {mg : Str → Option Value} {base : Heap} {x qual : Str} {s : Stmt} {f : Addr} {fd : FuncData} {N ps : List Str} {k : Nat} {body : Sm} {n np : Nat} (F : Fun K x qual s f fd) (S : FnScope N ps (defScope s)) (hn : N.length = n) (hnp : ps.length = np) (hle : np ≤ n)
    (hb : ∀ (cdv : Value) (A : Around) (outer : List Env) (sh : Shared) (H : Hp) (E : XK), Room k (A.deeper (envOfC qual (defScope s) sh.heap.objs.size f cdv)) → DSs (cxOf CX0 P w K mg base N qual (defScope s) f cdv A outer sh H E).nox (defBody s) body) :
    FnOk P w K mg base CX0 (k + 1) f fd ps (spD K (fn n np body) np) :=
  ok_defC F S hn hnp hle fun cdv _ => hb cdv
/-- another name for what a def computes -/
theorem ok_eq {P : Program} {w : World} {K : PySem.W.Frag} {mg : Str → Option Value} {base : Heap} {f : Addr} {fd : FuncData} {ps : List Str} {k np : Nat} {g h : Fn} (e : g = h) (F : FnOk P w K mg base CX0 k f fd ps (spD K g np)) : FnOk P w K mg base CX0 k f fd ps (spD K h np) := e ▸ F

/-! ### the law's end -/
theorem end_of {K : PySem.W.Frag} {f : Fn} {H : Hp} {a : Addr} {ns : List Int} {s' : Sto} (hT : ∀ P, IsTab K P → TabH H P) (hro : Ro K H a (ns.map V.int)) (h : f [.ref 0] [.rol (ns.map Va.int)] = some (.bl true, s')) :
    spD K f 1 [.ref a] H (fun v _ => v = .bl true) fun _ _ _ => False := by
  refine ⟨rfl, [a], [.rol (ns.map Va.int)], [.ref 0], .bl true, s', ⟨rfl, fun i o e => ?_, fun i j b o o' e1 e2 e3 e4 m1 m2 => ?_, hT⟩, ?_, h, fun ρ' H' p k S v rv => by simpa only [RepV] using rv⟩
  · match i with
    | 0 =>
      simp at e; subst e
      exact ⟨a, rfl, ns.map V.int, hro, RepL.of_ints ns⟩
    | i + 1 => simp at e
  · match i, j with
    | 0, 0 => rfl
    | i + 1, _ => simp at e3
    | 0, j + 1 => simp at e4
  · exact RepL.cons (by simp only [RepV]; exact ⟨a, rfl, rfl⟩) RepL.nil
end
end T3
/-! T3, ninth part: short words for what the printer writes; chains of comparisons; membership -/
namespace T3
open PySem PySem.Spec PyProof.Rows L2
noncomputable section

/-! ### membership -/
def atomV : Va → Option V
  | .non => some .non
  | .bl b => some (.bl b)
  | .int i => some (.int i)
  | .str s => some (.str ⟨s.toArray⟩)
  | _ => none
def atomsV : List Va → Option (List V)
  | [] => some []
  | w :: ws => (atomV w).bind fun v => (atomsV ws).map (v :: ·)
/-- the items of a list or tuple -/
def seqOf (w : Va) (st : Sto) : Option (List Va) := match w with
  | .tup ws => some ws
  | .ktp ws => some ws
  | w => itemsOf w st
def inSeq (a : Va) (ws : List Va) : Option Bool := match (atomV a), (atomsV ws) with
  | some x, some xs => some (inV x xs)
  | _, _ => none
def dicIn (a b : Va) (st : Sto) : Option Bool := match b with
  | .ref n => match st[n]? with
    | some o => (dicAt o a).map (·.isSome)
    | _ => none
  | _ => none
/-- in a text, a list, a tuple -/
def inS (a b : Va) (st : Sto) : Option Bool := match a, b with
  | .str [c], .str s => some (decide (c ∈ s))
  | a, b => (seqOf b st).bind fun ws => match inSeq a ws with
    | some r => some r
    | none => match b with
      | .ref _ => (pyOf a st).bind fun d => (toPyL ws).bind fun ds => if SeqAt.shaped d = true ∧ SeqAt.shaped (.list ds) = true then some (ds.any fun z => PyData.eqv z d) else none
      | _ => none
def inW (a b : Va) (st : Sto) : Option Bool := match inS a b st with
  | some r => some r
  | none => dicIn a b st
def gIn (a b : Va) (st : Sto) : Option (Va × Sto) := (inW a b st).map fun r => (.bl r, st)
def gNin (a b : Va) (st : Sto) : Option (Va × Sto) := (inW a b st).map fun r => (.bl (!r), st)
section
variable {K : PySem.W.Frag} {ρ : List Addr} {H : Hp} {fm : Fm} {st : Sto} {σ : L2.St}
theorem atomV_rep {w : Va} {v x : V} (r : RepV K ρ H w v) (e : atomV w = some x) : v = x ∧ flatV x = true := by
  cases w <;> simp [atomV] at e <;> subst e <;> simp only [RepV] at r <;> exact ⟨r, rfl⟩
theorem atomsV_rep : ∀ {ws : List Va} {vs xs : List V}, RepL K ρ H ws vs → atomsV ws = some xs → vs = xs ∧ xs.all flatV = true
  | [], _, _, r, e => by cases e; simp only [RepL] at r; exact ⟨r, rfl⟩
  | w :: ws, _, _, r, e => by
    simp only [RepL] at r
    obtain ⟨v, vs, rfl, r1, r2⟩ := r
    simp only [atomsV, Option.bind_eq_some_iff, Option.map_eq_some_iff] at e
    obtain ⟨x, e1, xs, e2, rfl⟩ := e
    obtain ⟨rfl, h1⟩ := atomV_rep r1 e1
    obtain ⟨rfl, h2⟩ := atomsV_rep r2 e2
    exact ⟨rfl, by simp [h1, h2]⟩
theorem seq_rep {w : Va} {v : V} {xs : List Va} (R : Rel K ρ fm st σ H) (r : RepV K ρ H w v) (e : seqOf w st = some xs) : ∃ a vs, v = .ref a ∧ (SqL K H a vs ∨ SqT K H a vs) ∧ RepL K ρ H xs vs := by
  unfold seqOf at e
  split at e
  · cases e
    obtain ⟨a, vs, rfl, h, r⟩ := tup_of r
    exact ⟨a, vs, rfl, .inr h, r⟩
  · cases e
    obtain ⟨a, vs, rfl, h, r⟩ := ktp_of r
    exact ⟨a, vs, rfl, .inr h, r⟩
  · obtain ⟨a, vs, rfl, h, r⟩ := items_rep R r e
    exact ⟨a, vs, rfl, .inl h, r⟩
/-- the three ways of «in» that are no dict's -/
theorem inCase {a b : Va} {x y : V} {r : Bool} (R : Rel K ρ fm st σ H) (ra : RepV K ρ H a x) (rb : RepV K ρ H b y) (e : inS a b st = some r) :
    (∃ (c : Nat) (z : Str), x = .str ⟨#[c]⟩ ∧ y = .str z ∧ decide (c ∈ z.cps.toList) = r) ∨ (∃ p xs, y = .ref p ∧ (SqL K H p xs ∨ SqT K H p xs) ∧ flatV x = true ∧ xs.all flatV = true ∧ inV x xs = r) ∨
    (∃ d ds, Dp K H x d ∧ Dp K H y (.list ds) ∧ SeqAt.shaped d = true ∧ SeqAt.shaped (.list ds) = true ∧ (ds.any fun z => PyData.eqv z d) = r) := by
  unfold inS at e
  split at e
  · simp only [RepV] at ra rb
    cases e
    exact .inl ⟨_, _, ra, rb, by simp⟩
  · simp only [Option.bind_eq_some_iff] at e
    obtain ⟨ws, hs, e⟩ := e
    split at e
    · rename_i r' hr
      cases e
      obtain ⟨p, vs, rfl, h, rl⟩ := seq_rep R rb hs
      unfold inSeq at hr
      split at hr
      · rename_i x' xs' e1 e2
        cases hr
        obtain ⟨rfl, h1⟩ := atomV_rep ra e1
        obtain ⟨rfl, h2⟩ := atomsV_rep rl e2
        exact .inr (.inl ⟨p, _, rfl, h, h1, h2, rfl⟩)
      · cases hr
    · split at e
      · rename_i n
        simp only [Option.bind_eq_some_iff] at e
        obtain ⟨d, e1, ds, e2, e3⟩ := e
        split at e3
        · rename_i hz
          cases e3
          obtain ⟨p, vs, rfl, h, rl⟩ := items_rep R rb hs
          exact .inr (.inr ⟨d, ds, pyOf_dp R ra e1, .lst h (toPyL_dp _ _ _ rl e2), hz.1, hz.2, rfl⟩)
        · cases e3
      · cases e
theorem dicIn_rep {a b : Va} {x y : V} {r : Bool} (R : Rel K ρ fm st σ H) (ra : RepV K ρ H a x) (rb : RepV K ρ H b y) (e : dicIn a b st = some r) : ∃ p o, y = .ref p ∧ DGet H p x o ∧ o.isSome = r := by
  unfold dicIn at e
  split at e
  · split at e
    · rename_i o ho
      simp only [Option.map_eq_some_iff] at e
      obtain ⟨q, e1, e2⟩ := e
      obtain ⟨p, q', rfl, dg, hq⟩ := dic_at R rb ho ra e1
      refine ⟨p, q', rfl, dg, ?_⟩
      cases q with
      | none => dsimp only at hq; rw [hq]; exact e2
      | some w => dsimp only at hq; obtain ⟨v, rfl, _⟩ := hq; exact e2
    · cases e
  · cases e
end
section
variable {X : Cx} {a b c e : Expr} {es : List Expr} {f f1 f2 f3 : Ev} {fs : Evs} {p pos : Pos}
theorem in_imp (g : Bool → Bool) {r : R2} {td : TE → TE → TE} (hr : ∀ x y H Q, ((∃ (c : Nat) (z : Str), x = .str ⟨#[c]⟩ ∧ y = .str z ∧ Q (.bl (g (decide (c ∈ z.cps.toList)))) H) ∨ (∃ p xs, y = .ref p ∧ (SqL X.K H p xs ∨ SqT X.K H p xs) ∧ flatV x = true ∧ xs.all flatV = true ∧ Q (.bl (g (inV x xs))) H) ∨
    (∃ d ds, Dp X.K H x d ∧ Dp X.K H y (.list ds) ∧ SeqAt.shaped d = true ∧ SeqAt.shaped (.list ds) = true ∧ Q (.bl (g (ds.any fun z => PyData.eqv z d))) H)) → r x y H Q)
    (htd : ∀ ta tb σ H Q, (ta σ H fun y H1 => tb σ H1 fun x H2 => ∃ p o, x = .ref p ∧ DGet H2 p y o ∧ Q (.bl (g o.isSome)) H2) → td ta tb σ H Q) {σ : L2.St} {H : Hp} {Q : VK}
    (h : tD X.K (eB (fun a b st => (inW a b st).map fun r => (.bl (g r), st)) f1 f2) σ H Q) : tOp r (tD X.K f1) (tD X.K f2) σ H Q ∨ td (tD X.K f1) (tD X.K f2) σ H Q := by
  obtain ⟨ρ, fm, st, w, st', R, e, T⟩ := h
  simp only [eB, Option.bind_eq_some_iff, Option.map_eq_some_iff] at e
  obtain ⟨⟨x, s1⟩, e1, ⟨y, s2⟩, e2, r, e3, e4⟩ := e
  cases e4
  dsimp only at e2 e3 T
  unfold inW at e3
  split at e3
  · rename_i r' hs
    cases e3
    refine .inl ⟨ρ, fm, st, x, s1, R, e1, fun ρ1 H1 p1 k1 R1 u ru => ⟨ρ1, fm, s1, y, s2, R1, e2, fun ρ2 H2 p2 k2 R2 z rz => hr _ _ _ _ ?_⟩⟩
    have T2 := (T.then (List.IsPrefix.trans p1 p2) (k1.trans k2)).same R2 _ repB
    rcases inCase R2 (RepV.mono p2 k2 _ _ ru) rz hs with ⟨c, z', h1, h2, h3⟩ | ⟨p, xs, h1, h2, h3, h4, h5⟩ | ⟨d, ds, h1, h2, h3, h4, h5⟩
    · exact .inl ⟨c, z', h1, h2, by rw [h3]; exact T2⟩
    · exact .inr (.inl ⟨p, xs, h1, h2, h3, h4, by rw [h5]; exact T2⟩)
    · exact .inr (.inr ⟨d, ds, h1, h2, h3, h4, by rw [h5]; exact T2⟩)
  · refine .inr (htd _ _ _ _ _ ⟨ρ, fm, st, x, s1, R, e1, fun ρ1 H1 p1 k1 R1 u ru => ⟨ρ1, fm, s1, y, s2, R1, e2, fun ρ2 H2 p2 k2 R2 z rz => ?_⟩⟩)
    obtain ⟨p, o, h1, h2, h3⟩ := dicIn_rep R2 (RepV.mono p2 k2 _ _ ru) rz e3
    exact ⟨p, o, h1, h2, by rw [h3]; exact (T.then (List.IsPrefix.trans p1 p2) (k1.trans k2)).same R2 _ repB⟩
theorem bB_imp {g : Va → Va → Sto → Option (Va × Sto)} {K : PySem.W.Frag} {σ : L2.St} {H : Hp} {Q : Bool → Hp → Prop} (h : tDt K (bB g f1 f2) σ H Q) : tD K (eB g f1 f2) σ H (fun x H' => ∃ k, x = .bl k ∧ Q k H') := by
  obtain ⟨ρ, fm, st, b, st', R, e, T⟩ := h
  simp only [bB, Option.bind_eq_some_iff] at e
  obtain ⟨⟨a, s1⟩, e1, ⟨c, s2⟩, e2, ⟨r, s3⟩, e3, e4⟩ := e
  dsimp only at e4
  split at e4
  · cases e4
    refine ⟨ρ, fm, st, .bl b, st', R, ?_, fun ρ1 H1 p1 k1 R1 v rv => ?_⟩
    · simp only [eB, Option.bind_eq_some_iff]
      exact ⟨_, e1, _, e2, e3⟩
    · simp only [RepV] at rv
      exact ⟨b, rv, T ρ1 H1 p1 k1 R1⟩
  · cases e4
theorem PT.orr {X : Cx} {e : Expr} {t u : TT} (h : PT X e t) (h' : PT X e u) : PT X e (fun σ H Q => t σ H Q ∨ u σ H Q) := ⟨fun pins s σ H Q I q => q.elim (h.run pins s σ H Q I) (h'.run pins s σ H Q I)⟩
theorem in_hr {K : PySem.W.Frag} (x y : V) (H : Hp) (Q : VK) (h : (∃ (c : Nat) (z : Str), x = .str ⟨#[c]⟩ ∧ y = .str z ∧ Q (.bl ((fun b => b) (decide (c ∈ z.cps.toList)))) H) ∨ (∃ p xs, y = .ref p ∧ (SqL K H p xs ∨ SqT K H p xs) ∧ flatV x = true ∧ xs.all flatV = true ∧ Q (.bl ((fun b => b) (inV x xs))) H) ∨
    (∃ d ds, Dp K H x d ∧ Dp K H y (.list ds) ∧ SeqAt.shaped d = true ∧ SeqAt.shaped (.list ds) = true ∧ Q (.bl ((fun b => b) (ds.any fun z => PyData.eqv z d))) H)) :
    (∃ (c : Nat) (z : Str), x = .str ⟨#[c]⟩ ∧ y = .str z ∧ Q (.bl (decide (c ∈ z.cps.toList))) H) ∨ rIn K false x y H Q ∨ rInD K x y H Q := by
  rcases h with h | ⟨p, xs, h1, h2, h3, h4, h5⟩ | h
  · exact .inl h
  · exact .inr (.inl ⟨p, xs, h1, h2, h3, h4, by rw [if_neg Bool.false_ne_true]; exact h5⟩)
  · exact .inr (.inr h)
theorem nin_hr {K : PySem.W.Frag} (x y : V) (H : Hp) (Q : VK) (h : (∃ (c : Nat) (z : Str), x = .str ⟨#[c]⟩ ∧ y = .str z ∧ Q (.bl ((fun b => !b) (decide (c ∈ z.cps.toList)))) H) ∨ (∃ p xs, y = .ref p ∧ (SqL K H p xs ∨ SqT K H p xs) ∧ flatV x = true ∧ xs.all flatV = true ∧ Q (.bl ((fun b => !b) (inV x xs))) H) ∨
    (∃ d ds, Dp K H x d ∧ Dp K H y (.list ds) ∧ SeqAt.shaped d = true ∧ SeqAt.shaped (.list ds) = true ∧ Q (.bl ((fun b => !b) (ds.any fun z => PyData.eqv z d))) H)) :
    (∃ (c : Nat) (z : Str), x = .str ⟨#[c]⟩ ∧ y = .str z ∧ Q (.bl (!decide (c ∈ z.cps.toList))) H) ∨ rIn K true x y H Q ∨ rNotInD K x y H Q := by
  rcases h with h | ⟨p, xs, h1, h2, h3, h4, h5⟩ | h
  · exact .inl h
  · exact .inr (.inl ⟨p, xs, h1, h2, h3, h4, by rw [if_pos rfl]; exact h5⟩)
  · exact .inr (.inr h)
theorem de_in (hu : X.A.units + 65 < cLine) (ha : DE X a f1) (hb : DE X b f2) (hk : behindInMarks .In b = false := by rfl) : DE X (.Compare a [.In] [b] pos) (eB gIn f1 f2) :=
  PEi (PE.orr (pe_cmpR (op_in_sign.or (op_in_seq.or (op_inD hu))) ha hb hk) (pe_cmp (pc_din (by omega) ha hb) hk)) fun σ H Q h =>
    in_imp (fun b => b) (td := fun ta tb => tDIn ta tb) in_hr (fun ta tb σ H Q h => h) h
theorem de_nin (hu : X.A.units + 65 < cLine) (ha : DE X a f1) (hb : DE X b f2) (hk : behindInMarks .NotIn b = false := by rfl) : DE X (.Compare a [.NotIn] [b] pos) (eB gNin f1 f2) :=
  PEi (PE.orr (pe_cmpR (op_notIn_sign.or (op_notIn_seq.or (op_notInD hu))) ha hb hk) (pe_cmp (pc_dnotin (by omega) ha hb) hk)) fun σ H Q h =>
    in_imp (fun b => !b) (td := fun ta tb => tDNotIn ta tb) nin_hr (fun ta tb σ H Q h => h) h
theorem dt_in (hu : X.A.units + 65 < cLine) (ha : DE X a f1) (hb : DE X b f2) (hk : behindInMarks .In b = false := by rfl) : DT X (.Compare a [.In] [b] pos) (bB gIn f1 f2) :=
  PTi (PT.orr (pt_cmpR (op_in_sign.or (op_in_seq.or (op_inD hu))) ha hb hk) (pt_cmp (pc_din (by omega) ha hb) hk)) fun σ H Q h =>
    in_imp (fun b => b) (td := fun ta tb => tDIn ta tb) in_hr (fun ta tb σ H Q h => h) (bB_imp h)
theorem dt_nin (hu : X.A.units + 65 < cLine) (ha : DE X a f1) (hb : DE X b f2) (hk : behindInMarks .NotIn b = false := by rfl) : DT X (.Compare a [.NotIn] [b] pos) (bB gNin f1 f2) :=
  PTi (PT.orr (pt_cmpR (op_notIn_sign.or (op_notIn_seq.or (op_notInD hu))) ha hb hk) (pt_cmp (pc_dnotin (by omega) ha hb) hk)) fun σ H Q h =>
    in_imp (fun b => !b) (td := fun ta tb => tDNotIn ta tb) nin_hr (fun ta tb σ H Q h => h) (bB_imp h)

/-! ### comparisons in short -/
theorem de_eq (hu : X.A.units + 64 < cLine) (ha : DE X a f1) (hb : DE X b f2) : DE X (.Compare a [.Eq] [b] pos) (eB gEq f1 f2) := let ⟨_, h1, h2⟩ := cmpEq hu; de_cmp h1 h2 ha hb (nomark _)
theorem de_ne (hu : X.A.units + 64 < cLine) (ha : DE X a f1) (hb : DE X b f2) : DE X (.Compare a [.NotEq] [b] pos) (eB gNe f1 f2) := let ⟨_, h1, h2⟩ := cmpNe hu; de_cmp h1 h2 ha hb (nomark _)
theorem de_lt (ha : DE X a f1) (hb : DE X b f2) : DE X (.Compare a [.Lt] [b] pos) (eB gLt f1 f2) := let ⟨_, h1, h2⟩ := cmpLt; de_cmp h1 h2 ha hb (nomark _)
theorem de_le (ha : DE X a f1) (hb : DE X b f2) : DE X (.Compare a [.LtE] [b] pos) (eB gLe f1 f2) := let ⟨_, h1, h2⟩ := cmpLe; de_cmp h1 h2 ha hb (nomark _)
theorem de_gt (ha : DE X a f1) (hb : DE X b f2) : DE X (.Compare a [.Gt] [b] pos) (eB gGt f1 f2) := let ⟨_, h1, h2⟩ := cmpGt; de_cmp h1 h2 ha hb (nomark _)
theorem de_ge (ha : DE X a f1) (hb : DE X b f2) : DE X (.Compare a [.GtE] [b] pos) (eB gGe f1 f2) := let ⟨_, h1, h2⟩ := cmpGe; de_cmp h1 h2 ha hb (nomark _)
theorem de_is (ha : DE X a f1) (hb : DE X b f2) : DE X (.Compare a [.Is] [b] pos) (eB gIs f1 f2) := let ⟨_, h1, h2⟩ := cmpIs; de_cmp h1 h2 ha hb (nomark _)
theorem de_isn (ha : DE X a f1) (hb : DE X b f2) : DE X (.Compare a [.IsNot] [b] pos) (eB gIsN f1 f2) := let ⟨_, h1, h2⟩ := cmpIsN; de_cmp h1 h2 ha hb (nomark _)
theorem dt_eq (hu : X.A.units + 64 < cLine) (ha : DE X a f1) (hb : DE X b f2) : DT X (.Compare a [.Eq] [b] pos) (bB gEq f1 f2) := let ⟨_, h1, h2⟩ := cmpEq hu; dt_cmp h1 h2 ha hb (nomark _)
theorem dt_ne (hu : X.A.units + 64 < cLine) (ha : DE X a f1) (hb : DE X b f2) : DT X (.Compare a [.NotEq] [b] pos) (bB gNe f1 f2) := let ⟨_, h1, h2⟩ := cmpNe hu; dt_cmp h1 h2 ha hb (nomark _)
theorem dt_lt (ha : DE X a f1) (hb : DE X b f2) : DT X (.Compare a [.Lt] [b] pos) (bB gLt f1 f2) := let ⟨_, h1, h2⟩ := cmpLt; dt_cmp h1 h2 ha hb (nomark _)
theorem dt_le (ha : DE X a f1) (hb : DE X b f2) : DT X (.Compare a [.LtE] [b] pos) (bB gLe f1 f2) := let ⟨_, h1, h2⟩ := cmpLe; dt_cmp h1 h2 ha hb (nomark _)
theorem dt_gt (ha : DE X a f1) (hb : DE X b f2) : DT X (.Compare a [.Gt] [b] pos) (bB gGt f1 f2) := let ⟨_, h1, h2⟩ := cmpGt; dt_cmp h1 h2 ha hb (nomark _)
theorem dt_ge (ha : DE X a f1) (hb : DE X b f2) : DT X (.Compare a [.GtE] [b] pos) (bB gGe f1 f2) := let ⟨_, h1, h2⟩ := cmpGe; dt_cmp h1 h2 ha hb (nomark _)
theorem dt_is (ha : DE X a f1) (hb : DE X b f2) : DT X (.Compare a [.Is] [b] pos) (bB gIs f1 f2) := let ⟨_, h1, h2⟩ := cmpIs; dt_cmp h1 h2 ha hb (nomark _)
theorem dt_isn (ha : DE X a f1) (hb : DE X b f2) : DT X (.Compare a [.IsNot] [b] pos) (bB gIsN f1 f2) := let ⟨_, h1, h2⟩ := cmpIsN; dt_cmp h1 h2 ha hb (nomark _)
/-- a op b op' c -/
def eCh (g g' : Va → Va → Sto → Option (Va × Sto)) (f1 f2 f3 : Ev) : Ev := fun fm st => (f1 fm st).bind fun p => (f2 fm p.2).bind fun q => (g p.1 q.1 q.2).bind fun r => match r.1 with
  | .bl true => (f3 fm r.2).bind fun t => g' q.1 t.1 t.2
  | .bl false => some (.bl false, r.2)
  | _ => none
theorem ch_imp {g g' : Va → Va → Sto → Option (Va × Sto)} {r r' : R2} {K : PySem.W.Frag} {σ : L2.St} {H : Hp} {Q : VK} (hm : MB K g r) (hm' : MB K g' r') (h : tD K (eCh g g' f1 f2 f3) σ H Q) : tChain r r' (tD K f1) (tD K f2) (tD K f3) σ H Q := by
  obtain ⟨ρ, fm, st, w, st', R, e, T⟩ := h
  simp only [eCh, Option.bind_eq_some_iff] at e
  obtain ⟨⟨x, s1⟩, e1, ⟨y, s2⟩, e2, ⟨z, s3⟩, e3, e4⟩ := e
  dsimp only at e2 e3 e4
  refine ⟨ρ, fm, st, x, s1, R, e1, fun ρ1 H1 p1 k1 R1 u ru => ⟨ρ1, fm, s1, y, s2, R1, e2, fun ρ2 H2 p2 k2 R2 v rv => ?_⟩⟩
  refine hm ρ2 fm s2 σ H2 x y u v z s3 _ R2 (RepV.mono p2 k2 _ _ ru) rv e3 fun ρ3 H3 p3 k3 R3 t rt => ?_
  have T3 := T.then (List.IsPrefix.trans p1 (List.IsPrefix.trans p2 p3)) (k1.trans (k2.trans k3))
  split at e4
  · simp only [RepV] at rt
    refine ⟨true, rt, ?_⟩
    rw [if_pos rfl]
    simp only [Option.bind_eq_some_iff] at e4
    obtain ⟨⟨q, s4⟩, e5, e6⟩ := e4
    exact ⟨ρ3, fm, _, q, s4, R3, e5, fun ρ4 H4 p4 k4 R4 q' rq => hm' ρ4 fm s4 σ H4 y q v q' w st' _ R4 (RepV.mono p4 k4 _ _ (RepV.mono p3 k3 _ _ rv)) rq e6 (T3.then p4 k4)⟩
  · simp only [RepV] at rt
    refine ⟨false, rt, ?_⟩
    rw [if_neg Bool.false_ne_true]
    cases e4
    exact T3.same R3 _ repB
  · cases e4
theorem de_ch {op op' : CmpOp} {g g' : Va → Va → Sto → Option (Va × Sto)} (h1 : ∃ r, OpR X (compareOp op) r ∧ MB X.K g r) (h2 : ∃ r, OpR X (compareOp op') r ∧ MB X.K g' r) (ha : DE X a f1) (hb : DE X b f2) (hc : DE X c f3) (hm : lastMarks [op, op'] [b, c] = false := by with_unfolding_all rfl) :
    DE X (.Compare a [op, op'] [b, c] pos) (eCh g g' f1 f2 f3) := let ⟨_, a1, a2⟩ := h1; let ⟨_, b1, b2⟩ := h2; PEi (pe_chain a1 b1 ha hb hc hm) fun _ _ _ h => ch_imp a2 b2 h
/-- a test by a value that is a bool -/
def bO (f : Ev) : Et := fun fm st => (f fm st).bind fun p => match p.1 with
  | .bl b => some (b, p.2)
  | _ => none
theorem bO_imp {K : PySem.W.Frag} {σ : L2.St} {H : Hp} {Q : Bool → Hp → Prop} (h : tDt K (bO f) σ H Q) : tD K f σ H (fun x H' => ∃ k, x = .bl k ∧ Q k H') := by
  obtain ⟨ρ, fm, st, b, st', R, e, T⟩ := h
  simp only [bO, Option.bind_eq_some_iff] at e
  obtain ⟨⟨a, s1⟩, e1, e4⟩ := e
  dsimp only at e4
  split at e4
  · cases e4
    refine ⟨ρ, fm, st, .bl b, st', R, e1, fun ρ1 H1 p1 k1 R1 v rv => ?_⟩
    simp only [RepV] at rv
    exact ⟨b, rv, T ρ1 H1 p1 k1 R1⟩
  · cases e4
theorem dt_ch {op op' : CmpOp} {g g' : Va → Va → Sto → Option (Va × Sto)} (h1 : ∃ r, OpR X (compareOp op) r ∧ MB X.K g r) (h2 : ∃ r, OpR X (compareOp op') r ∧ MB X.K g' r) (ha : DE X a f1) (hb : DE X b f2) (hc : DE X c f3) (hm : lastMarks [op, op'] [b, c] = false := by with_unfolding_all rfl) :
    DT X (.Compare a [op, op'] [b, c] pos) (bO (eCh g g' f1 f2 f3)) := let ⟨_, a1, a2⟩ := h1; let ⟨_, b1, b2⟩ := h2; PTi (pt_chain a1 b1 ha hb hc hm) fun _ _ _ h => ch_imp a2 b2 (bO_imp h)

/-! ### built-ins in short -/
variable (pos p)
theorem de_B {x : Str} {id : String} {g : List Va → Sto → Option (Va × Sto)} (hc : ∃ r, CallR X (.builtin id) r ∧ ML X.K g r) (hv : bootBuiltins x = some (.builtin id)) (hx : X.mg x = none) (ha : DA X (e :: es) fs) (hg : Gl X x := by rfl) (hn : x ≠ "__name__" := by decide) (hdb : (x == ("__debug__" : Str)) = false := by decide)
    (he : starEach (e :: es) X.env = (false, eval e X.env) :: starEach es X.env := by rfl) (hpl : (backTo pos (starEach es X.env)).any (·.1) = false := by rfl) : DE X (.Call (.Name x p) (e :: es) [] pos) (eA g fs) :=
  let ⟨_, a1, a2⟩ := hc; de_callB a1 a2 hg hx hv ha hn hdb he hpl
theorem de_T {x : Str} {id : String} {g : List Va → Sto → Option (Va × Sto)} (hc : ∃ r, CallR X (.type id) r ∧ ML X.K g r) (hv : bootBuiltins x = some (.type id)) (hx : X.mg x = none) (ha : DA X (e :: es) fs) (hg : Gl X x := by rfl) (hn : x ≠ "__name__" := by decide) (hdb : (x == ("__debug__" : Str)) = false := by decide)
    (he : starEach (e :: es) X.env = (false, eval e X.env) :: starEach es X.env := by rfl) (hpl : (backTo pos (starEach es X.env)).any (·.1) = false := by rfl) : DE X (.Call (.Name x p) (e :: es) [] pos) (eA g fs) :=
  let ⟨_, a1, a2⟩ := hc; de_callT a1 a2 hg hx hv ha hn hdb he hpl
theorem de_g {x : Str} {w : Va} {v : V} {u : Value} (hm : X.mg x = some u) (r : RelV v u) (h : ∀ ρ H, RepV X.K ρ H w v) (hg : Gl X x := by rfl) (hd : (x == ("__debug__" : Str)) = false := by decide) : DE X (.Name x pos) (eC w) := de_c (pe_glob hg hm r hd) h
theorem de_gi {x : Str} {i : Int} {t : Tok} (hm : X.mg x = some (.int i t)) (hg : Gl X x := by rfl) (hd : (x == ("__debug__" : Str)) = false := by decide) : DE X (.Name x pos) (eC (.int i)) := de_g (v := .int i) pos hm ⟨t, rfl⟩ (fun _ _ => repI) hg hd
theorem de_gs {x : Str} {z : Str} {l : List Nat} {t : Tok} (hm : X.mg x = some (.str z t)) (hz : z = ⟨l.toArray⟩) (hg : Gl X x := by rfl) (hd : (x == ("__debug__" : Str)) = false := by decide) : DE X (.Name x pos) (eC (.str l)) := de_g (v := .str z) pos hm ⟨t, rfl⟩ (fun _ _ => by rw [hz]; exact repS) hg hd
end
/-- a def of which no call is let in -/
theorem ok_none {P : Program} {w : World} {K : PySem.W.Frag} {mg : Str → Option Value} {base : Heap} {f : Addr} {fd : FuncData} {ps : List Str} {k np : Nat} (h : ps.length = np) : FnOk P w K mg base CX0 k f fd ps (spD K (fun _ _ => none) np) :=
  ⟨fun vs H Q E h' => h'.1.trans h.symm, fun A outer s H args us vs Q E hr e0 hb r ⟨_, _, _, _, _, _, _, _, e, _⟩ => by cases e⟩
end
end T3
namespace T3
open PySem PySem.Spec PyProof.Rows L2
noncomputable section
theorem hu65_of {A : Around} {k : Nat} (hr : Room k A) : A.units + 65 < cLine := by
  have h := hr.un
  have h2 : (0 : Nat) ≤ k := Nat.zero_le _
  omega
end
end T3
/-! T3: comprehensions within comprehensions -/
namespace T3
open PySem PySem.Spec PyProof.Rows L2
/-- a comprehension's names as they are met, over the block around it -/
def relab (scope sc0 : Scope) : Scope :=
  { scope with names := scope.names.map fun (n, k) => if (k == .free && sc0.kind == .function && sc0.names.lookup n == some .cell) then (n, .cell) else (n, k) }
end T3
/-! T3: a, b = x, y; x += y -/
namespace T3
open PySem PySem.Spec PyProof.Rows L2
noncomputable section
def sPar (i j : Nat) (fa : Evs) : Sm := fun fm st => (fa fm st).bind fun p => match p.1 with
  | [u, v] => some (.nx, (fm.set i (some u)).set j (some v), p.2)
  | _ => none
def sPar3 (i j l : Nat) (fa : Evs) : Sm := fun fm st => (fa fm st).bind fun p => match p.1 with
  | [u, v, w] => some (.nx, ((fm.set i (some u)).set j (some v)).set l (some w), p.2)
  | _ => none
theorem rep3 {K : PySem.W.Frag} {ρ : List Addr} {H : Hp} {a b c : Va} {vs : List V} (h : RepL K ρ H [a, b, c] vs) : ∃ u v w, vs = [u, v, w] ∧ RepV K ρ H a u ∧ RepV K ρ H b v ∧ RepV K ρ H c w := by
  simp only [RepL] at h
  obtain ⟨u, r, rfl, h1, v, r2, rfl, h2, w, r3, rfl, h3, rfl⟩ := h
  exact ⟨u, v, w, rfl, h1, h2, h3⟩
section
variable {X : Cx} {a b c e : Expr} {fa : Evs} {f : Ev} {x y z : Str} {i j l : Nat} {px py pz pt pos pos' : Pos} {kt k2 : _} {pt2 : _}
theorem ds_par (hc : X.calm = true) (hN : X.N.Nodup) (hi : X.N[i]? = some x) (hj : X.N[j]? = some y) (hij : i ≠ j)
    (hx : X.env.scope.names.lookup x = some .local) (hy : X.env.scope.names.lookup y = some .local) (ha : DA X [a, b] fa)
    (hw : swappedStores [.Tuple [.Name x px, .Name y py] kt pt] (.Tuple [a, b] k2 pt2) X.env = pure (some [x, y]))
    (hs : swapsWithSole [.Tuple [.Name x px, .Name y py] kt pt] (.Tuple [a, b] k2 pt2) pos.line X.env = pure false := by rfl) :
    DS X (.Assign [.Tuple [.Name x px, .Name y py] kt pt] (.Tuple [a, b] k2 pt2) pos) (sPar i j fa) := PSi (ps_par hc hN hi hj hij hx hy ha hw hs) fun D σ H h => by
  obtain ⟨ρ, fm, st, fl, fm', st', R, e, T⟩ := h
  simp only [sPar, Option.bind_eq_some_iff] at e
  obtain ⟨⟨ws, s1⟩, e1, e2⟩ := e
  dsimp only at e2
  split at e2
  · cases e2
    refine ⟨ρ, fm, st, _, _, R, e1, fun ρ1 H1 p1 k1 R1 vs rv => ?_⟩
    obtain ⟨u, v, rfl, r1, r2⟩ := rep2 rv
    exact ⟨u, v, rfl, T ρ1 H1 _ p1 k1 ⟨R1.s, (R1.e.set r1).set r2⟩⟩
  · cases e2
theorem ds_par3 (hc : X.calm = true) (hN : X.N.Nodup) (hi : X.N[i]? = some x) (hj : X.N[j]? = some y) (hl : X.N[l]? = some z) (hij : i ≠ j) (hil : i ≠ l) (hjl : j ≠ l)
    (hx : X.env.scope.names.lookup x = some .local) (hy : X.env.scope.names.lookup y = some .local) (hz : X.env.scope.names.lookup z = some .local) (ha : DA X [a, b, c] fa)
    (hw : swappedStores [.Tuple [.Name x px, .Name y py, .Name z pz] kt pt] (.Tuple [a, b, c] k2 pt2) X.env = pure (some [x, y, z]))
    (hs : swapsWithSole [.Tuple [.Name x px, .Name y py, .Name z pz] kt pt] (.Tuple [a, b, c] k2 pt2) pos.line X.env = pure false := by rfl) :
    DS X (.Assign [.Tuple [.Name x px, .Name y py, .Name z pz] kt pt] (.Tuple [a, b, c] k2 pt2) pos) (sPar3 i j l fa) := PSi (ps_par3 hc hN hi hj hl hij hil hjl hx hy hz ha hw hs) fun D σ H h => by
  obtain ⟨ρ, fm, st, fl, fm', st', R, e, T⟩ := h
  simp only [sPar3, Option.bind_eq_some_iff] at e
  obtain ⟨⟨ws, s1⟩, e1, e2⟩ := e
  dsimp only at e2
  split at e2
  · cases e2
    refine ⟨ρ, fm, st, _, _, R, e1, fun ρ1 H1 p1 k1 R1 vs rv => ?_⟩
    obtain ⟨u, v, w, rfl, r1, r2, r3⟩ := rep3 rv
    exact ⟨u, v, w, rfl, T ρ1 H1 _ p1 k1 ⟨R1.s, ((R1.e.set r1).set r2).set r3⟩⟩
  · cases e2
/-- ints, += and -= -/
def gAddI (a b : Va) (st : Sto) : Option (Va × Sto) := match a, b with
  | .int i, .int j => some (.int (i + j), st)
  | _, _ => none
def gSubI (a b : Va) (st : Sto) : Option (Va × Sto) := match a, b with
  | .int i, .int j => some (.int (i - j), st)
  | _, _ => none
theorem mAddI : MB X.K gAddI (ipI fun i j => i + j) := by
  intro ρ fm st σ H a b x y w st' Q R ra rb e T
  unfold gAddI at e
  split at e
  · simp only [RepV] at ra rb; subst ra; subst rb; cases e
    exact ⟨_, _, rfl, rfl, T.same R _ repI⟩
  · cases e
theorem mSubI : MB X.K gSubI (ipI fun i j => i - j) := by
  intro ρ fm st σ H a b x y w st' Q R ra rb e T
  unfold gSubI at e
  split at e
  · simp only [RepV] at ra rb; subst ra; subst rb; cases e
    exact ⟨_, _, rfl, rfl, T.same R _ repI⟩
  · cases e
theorem ds_augA (hN : X.N.Nodup) (hi : X.N[i]? = some x) (hx : Loc X.env.scope x) (he : DE X e f) (hf : X.fn x = true ∨ X.env.scope.names.lookup x = some .local := by first | exact .inl rfl | exact .inr rfl) :
    DS X (.AugAssign (.Name x pos') .Add e pos) (sAug i gAddI f) := ds_aug hN hi hx he ip_add mAddI hf
theorem ds_augB (hN : X.N.Nodup) (hi : X.N[i]? = some x) (hx : Loc X.env.scope x) (he : DE X e f) (hf : X.fn x = true ∨ X.env.scope.names.lookup x = some .local := by first | exact .inl rfl | exact .inr rfl) :
    DS X (.AugAssign (.Name x pos') .Sub e pos) (sAug i gSubI f) := ds_aug hN hi hx he ip_sub mSubI hf
end

/-! ### reversed -/
theorem jok_rev {K : PySem.W.Frag} {ρ : List Addr} {H : Hp} {n : Nat} {a : Addr} {ws : List Va} (ha : ρ[n]? = some a) : JOk K ρ H ⟨ws.reverse, fun st => st[n]? = some (.lst ws)⟩ (Itv K a ws.length) := by
  intro i ρ' fm st σ H' hp hk R hg
  obtain ⟨b, vs, e, ea, g1, r1⟩ := lst_of R (v := .ref a) (by simp only [RepV]; exact ⟨a, rfl, pre_get hp ha⟩) hg
  cases e
  have hl := r1.length
  refine ⟨fun w hw => ?_, fun e => by show ws.length ≤ i; simpa using Nat.le_of_eq e.symm⟩
  dsimp only at hw
  have hi : i < ws.length := by simpa using (List.getElem?_eq_some_iff.mp hw).1
  rw [List.getElem?_reverse hi] at hw
  obtain ⟨v, hv, rv⟩ := r1.get hw
  refine ⟨⟨hi, vs, v, SqL.of g1, hv⟩, fun x H2 ⟨e1, e2⟩ => ?_⟩
  subst e1
  have := e2 vs (SqL.of g1)
  rw [hv] at this; cases this
  exact ⟨fun _ _ h => h, Kp.refl, rv⟩
theorem jok_revT {K : PySem.W.Frag} {ρ : List Addr} {H : Hp} {a : Addr} {ws : List Va} {vs : List V} (h : H a = some (.tup vs) ∨ SqT K (fun _ => none) a vs) (r : RepL K ρ H ws vs) : JOk K ρ H ⟨ws.reverse, fun _ => True⟩ (RT.ItvT K a ws.length) := by
  intro i ρ' fm st σ H' hp hk R _
  have g1 : SqT K H' a vs := h.elim (fun h => SqT.of (hk _ _ h)) SqT.const
  have r1 := RepL.mono hp hk _ _ r
  have hl := r1.length
  refine ⟨fun w hw => ?_, fun e => by show ws.length ≤ i; simpa using Nat.le_of_eq e.symm⟩
  dsimp only at hw
  have hi : i < ws.length := by simpa using (List.getElem?_eq_some_iff.mp hw).1
  rw [List.getElem?_reverse hi] at hw
  obtain ⟨v, hv, rv⟩ := r1.get hw
  refine ⟨⟨hi, vs, v, g1, hv⟩, fun x H2 ⟨e1, e2⟩ => ?_⟩
  subst e1
  have := e2 vs g1
  rw [hv] at this; cases this
  exact ⟨fun _ _ h => h, Kp.refl, rv⟩
def revOf (w : Va) (st : Sto) : Option Src := match w with
  | .tup ws => some ⟨ws.reverse, fun _ => True⟩
  | .ref n => match st[n]? with
    | some (.lst ws) => some ⟨ws.reverse, fun st => st[n]? = some (.lst ws)⟩
    | _ => none
  | _ => none
def iRv (f : Ev) : Fi := fun fm st => (f fm st).bind fun p => (revOf p.1 p.2).map fun S => (S, p.2)
theorem di_rev {X : Cx} {tg e : Expr} {f : Ev} {p pos : Pos} (hg : Gl X "reversed") (hm : X.mg "reversed" = none) (he : DE X e f) (hs : starEach [e] X.env = (false, eval e X.env) :: starEach [] X.env := by rfl) : DI X tg (.Call (.Name "reversed" p) [e] [] pos) (iRv f) := PIi (RT.pi_revA hg hm he hs) fun σ H R h => by
  obtain ⟨ρ, fm, st, S, st', Rr, e, T⟩ := h
  simp only [iRv, Option.bind_eq_some_iff, Option.map_eq_some_iff] at e
  obtain ⟨⟨w, s1⟩, e1, S', e2, e3⟩ := e
  cases e3
  dsimp only at e2 T
  refine ⟨ρ, fm, st, w, s1, Rr, e1, fun ρ1 H1 p1 k1 R1 x rx => ?_⟩
  unfold revOf at e2
  split at e2
  · cases e2
    simp only [RepV] at rx
    obtain ⟨a, vs, rfl, h1, r1⟩ := rx
    refine ⟨a, vs, rfl, .inr ⟨SqT.of h1, ?_⟩⟩
    rw [← r1.length]
    exact T ρ1 H1 p1 k1 R1 _ (jok_revT (.inl h1) r1)
  · split at e2
    · rename_i hn
      cases e2
      obtain ⟨a, vs, rfl, ea, g1, r1⟩ := lst_of R1 rx hn
      refine ⟨a, vs, rfl, .inl ⟨SqL.of g1, ?_⟩⟩
      rw [← r1.length]
      exact T ρ1 H1 p1 k1 R1 _ (jok_rev ea)
    · cases e2
  · cases e2
end
end T3
/-! T3: enumerate over tuples and texts -/
namespace T3
open PySem PySem.Spec PyProof.Rows L2
open Sem (wp)
open AutoSeq1 (wpAny_loadPart')
set_option maxHeartbeats 1000000 in
theorem meets_enum1 {v : Value} {o : Obj} {H : Heap → Prop} (B : Begins v o H) :
    Meets (Builtin.«enumerate.__new__» ⟨[.type "enumerate", v], []⟩) (fun _ R s => H s.heap ∧
      R (.ok (.ret (.ref (s.heap.push o).objs.size))) { s with heap := (s.heap.push o).push { cls := .type "enumerate", data := .fields #[.none, .bool false, .ref s.heap.objs.size, rawInt 0, .none, .none] } }) :=
  .of_wp fun prog w A R s h => by
    obtain ⟨hp, g, d, tk, os⟩ := s; obtain ⟨h1, h⟩ := h
    have hsub := sub_enumerate
    have q1 : ∀ {A' : Around} {E : Value → Shared → Prop} {Q : Value → Shared → Prop}, Q (.ref hp.objs.size) ⟨hp.push o, g, d, tk, os⟩ → wpAny (model prog w) A' (pyIter v) Q E ⟨hp, g, d, tk, os⟩ :=
      fun q => B.iter prog w _ _ ⟨hp, g, d, tk, os⟩ _ h1 q
    wp_walk using q1
    refine wpAny_stack_any fun st => wpAny_pure ?_
    split
    · rename_i c _ _ _ _ _
      cases (c == Value.type "enumerate")
      · wp_walk using q1
        exact ⟨_, rfl, h⟩
      · wp_walk using q1
        exact ⟨_, rfl, h⟩
    · wp_walk using q1
      exact ⟨_, rfl, h⟩
section
variable {prog : Program} {w : World} {A : Around} {E : Value → Shared → Prop} {s : Shared}
theorem enum_begins1 {v : Value} {o : Obj} {H : Heap → Prop} {Q : Value → Shared → Prop} (B : Begins v o H) (h1 : H s.heap)
    (h : ∀ h', IsEnum h' (s.heap.objs.size + 1) s.heap.objs.size 0 .none → h'.get? s.heap.objs.size = some o → h'.objs.size = s.heap.objs.size + 2 →
      (∀ b o, s.heap.get? b = some o → h'.get? b = some o) → Q (.ref (s.heap.objs.size + 1)) { s with heap := h' }) :
    wpAny (model prog w) A (call (.type "enumerate") [v]) Q E s := by
  refine callType_new F.called_enumerate (by decide) (F.typeCall_enumerate_1 _) (F.newCall_enumerate_1 _) (fun obj => F.args_object_init_2 obj _) F.entry_enumerate_new
    (meets_enum1 B) ⟨h1, ?_⟩
  have hz : (s.heap.push o).objs.size = s.heap.objs.size + 1 := Heap.size_push ..
  show _ ∧ _
  rw [hz]
  have he : IsEnum ((s.heap.push o).push { cls := .type "enumerate", data := .fields #[.none, .bool false, .ref s.heap.objs.size, rawInt 0, .none, .none] }) (s.heap.objs.size + 1) s.heap.objs.size 0 .none := by
    have := Heap.get?_push_size (s.heap.push o) (o := { cls := .type "enumerate", data := .fields #[.none, .bool false, .ref s.heap.objs.size, rawInt 0, .none, .none] }) rfl
    rw [hz] at this; exact this
  refine ⟨⟨_, he, rfl⟩, h _ he (Heap.get?_push_of_some _ (Heap.get?_push_size _ B.free)) (by rw [Heap.size_push, hz]) fun b o x => Heap.get?_push_of_some _ (Heap.get?_push_of_some _ x)⟩
end

/-- enumerate over a tuple: each item in a new pair -/
def IteT (K : PySem.W.Frag) (a : Addr) (n : Nat) : It :=
  ⟨fun i H => i < n ∧ ∃ (xs : List V) (x : V), SqT K H a xs ∧ xs[i]? = some x ∧ xs.length = n, fun i H v H' => ∃ T x, v = .ref T ∧ H T = none ∧ H' = upd H T (.tup [.int (i : Nat), x]) ∧ ∀ xs, SqT K H a xs → xs[i]? = some x, fun i H => n ≤ i ∧ ∃ xs : List V, SqT K H a xs ∧ xs.length = n⟩
/-- enumerate over a text -/
def IteS (y : Str) : It :=
  ⟨fun i _ => i < y.cps.size, fun i H v H' => ∃ T c, v = .ref T ∧ H T = none ∧ H' = upd H T (.tup [.int (i : Nat), .str ⟨#[c]⟩]) ∧ y.cps[i]? = some c, fun i _ => y.cps.size ≤ i⟩
theorem turn_enumT {P : Program} {w : World} {K : PySem.W.Frag} {elts : List Expr} {kk : Nat} {tpos : Pos} (a e it : Addr) (n : Nat) :
    Turn P w K (.Tuple elts kk tpos) (IteT K a n) [e, it] e (fun i h => i ≤ n ∧ (∃ old, IsEnum h e it ((i : Nat) : Int) old) ∧ h.IsTupleIter it a i ∧ e ≠ it) where
  mem := by simp
  obj := fun i h st b hb => by
    obtain ⟨_, ⟨old, he⟩, ⟨o, ho, hc, hd⟩, _⟩ := st
    have e' : b = e ∨ b = it := by simpa using hb
    rcases e' with z | z
    · rw [z]; exact ⟨_, he, fun v q => nomatch q⟩
    · rw [z]; exact ⟨o, ho, fun v q => by rw [hd] at q; cases q⟩
  keep := fun i h h' st k => let ⟨hin, ⟨old, he⟩, hi, hne⟩ := st; ⟨hin, ⟨old, k e (by simp) _ he⟩, hi.at fun o q => k it (by simp) o q, hne⟩
  item := by
    intro X hP hw hK hc i pins s σ H E I hf st hg
    subst hP hw hK
    obtain ⟨_, ⟨old, he⟩, hit, hne⟩ := st
    obtain ⟨hin, xs, x, hq, hx, hxl⟩ := hg
    obtain ⟨its, rv, p, hz⟩ := I.tuple hq
    obtain ⟨u, hu, ru⟩ := rv.get hx
    have p' : s.heap.IsTuple a its.toArray := p
    have hel : e < s.heap.objs.size := Heap.lt_size he
    have hil : it < s.heap.objs.size := by obtain ⟨_, q, _⟩ := hit; exact Heap.lt_size q
    have hea : e ≠ a := fun z => by
      obtain ⟨o, ho, hco, n, hd⟩ := id p'
      rw [← z] at ho
      have he' : s.heap.get? e = some _ := he
      rw [ho] at he'
      cases he'
      cases hd
    have hia : a ≠ it := fun z => by
      obtain ⟨o, ho, hco, n, hd⟩ := id p'
      obtain ⟨o', ho', hc', hd'⟩ := id hit
      rw [z] at ho
      rw [ho] at ho'
      cases ho'
      rw [hd] at hd'
      cases hd'
    have hlt : i < its.toArray.size := by simp; exact (List.getElem?_eq_some_iff.mp hu).1
    refine wpAny_pyNext_enum_itemD (Draws.tuple (A := X.A.in1) (show X.A.in1.handled = none from I.ok.hd hc) it a hia its.toArray) he ⟨hit, p'⟩ hlt hne (by simp [hne, hea]) fun x' h' tk hx' ho st' hT hsz hk => ?_
    have hxu : x' = u := by simpa [hu] using hx'.symm
    subst hxu
    refine ⟨_, rfl, wpAny_letOwnedTupleGo_enum (s := { s with heap := h', toks := tk + 1 }) ho fun h'' he' sb => ?_⟩
    have hT2 : h''.get? s.heap.objs.size = some { cls := .type "tuple", data := .seq #[.int i tk, x'] } := (sb.2 _ (Nat.ne_of_gt hel)).trans hT
    have new : ObjOk X.prog X.w (upd H s.heap.objs.size (.tup [.int (i : Nat), x])) h'' s.heap.objs.size (.tup [.int (i : Nat), x]) :=
      ⟨by show 2 ≤ sizeLine; decide, [.int i tk, x'], .cons ⟨_, rfl⟩ (.cons ru .nil), ⟨_, hT2, rfl, _, rfl⟩⟩
    have I1 : Inv X pins σ (upd H s.heap.objs.size (.tup [.int (i : Nat), x])) { s with heap := h'', toks := tk + 1 } :=
      I.turnedNew (ch := [e, it]) (fun b ob hb q => (sb.2 b (fun z => hb (by simp [z]))).trans (hk b ob (fun z => hb (by simp [z])) (fun z => hb (by simp [z])) q)) hf (Nat.le_refl _) new
    refine ⟨.ref s.heap.objs.size, _, I1, rfl, ⟨_, x, rfl, I.hok.fresh (Nat.le_refl _), rfl, fun ys hy => by rw [I.tuple_inj hy hq]; exact hx⟩, ⟨hin, ⟨x', ?_⟩, st'.1.at fun o q => (sb.2 it (Ne.symm hne)).trans q, hne⟩, fun b hb => ?_⟩
    · have e1 : ((i + 1 : Nat) : Int) = (i : Int) + 1 := by omega
      rw [e1]; exact he'
    · have hb' : b < s.heap.objs.size := by
        have e' : b = e ∨ b = it := by simpa using hb
        rcases e' with z | z
        · rw [z]; exact hel
        · rw [z]; exact hil
      rw [upd_ne (Nat.ne_of_lt hb')]
      exact (hf b hb).1
  done := by
    intro X hP hw hK hc i pins s σ H E I hf st hg
    subst hP hw hK
    obtain ⟨hin, ⟨old, he⟩, hit, hne⟩ := st
    obtain ⟨hni, xs, hq, hx⟩ := hg
    obtain ⟨its, rv, p, hz⟩ := I.tuple hq
    obtain ⟨f0, f1, f2, f3, f4, f5⟩ := hf it (by simp)
    have p' : s.heap.IsTuple a its.toArray := p
    have hia : a ≠ it := fun z => by
      obtain ⟨o, ho, hco, n, hd⟩ := id p'
      obtain ⟨o', ho', hc', hd'⟩ := id hit
      rw [z] at ho
      rw [ho] at ho'
      cases ho'
      rw [hd] at hd'
      cases hd'
    have hl := rv.length
    have hin2 : i = its.toArray.size := by simp; omega
    refine wpAny_pyNext_enum_endD (Draws.tuple (A := X.A.in1) (show X.A.in1.handled = none from I.ok.hd hc) it a hia its.toArray) he ⟨by rw [← hin2]; exact hit, p'⟩ fun h' eb => ⟨rfl, I.turned (t' := s.toks) (fun b o hb q => eb b o hb q) f0 f1 f3 f4 f5⟩
  self := fun A i s Q E st h => let ⟨_, ⟨_, he⟩, _⟩ := st; wpAny_pyIter_enum he h
end T3
/-! T3: enumerate over texts; the rule of enumerate -/
namespace T3
open PySem PySem.Spec PyProof.Rows L2
theorem turn_enumS {P : Program} {w : World} {K : PySem.W.Frag} {elts : List Expr} {kk : Nat} {tpos : Pos} (e it : Addr) (y : Str) (t : Tok) :
    Turn P w K (.Tuple elts kk tpos) (IteS y) [e, it] e (fun i h => i ≤ y.cps.size ∧ (∃ old, IsEnum h e it ((i : Nat) : Int) old) ∧ h.IsStrIter it (strIterType y) y t i ∧ e ≠ it) where
  mem := by simp
  obj := fun i h st b hb => by
    obtain ⟨_, ⟨old, he⟩, ⟨o, ho, hc, hd⟩, _⟩ := st
    have e' : b = e ∨ b = it := by simpa using hb
    rcases e' with z | z
    · rw [z]; exact ⟨_, he, fun v q => nomatch q⟩
    · rw [z]; exact ⟨o, ho, fun v q => by rw [hd] at q; cases q⟩
  keep := fun i h h' st k => let ⟨hin, ⟨old, he⟩, ⟨o, ho, r⟩, hne⟩ := st; ⟨hin, ⟨old, k e (by simp) _ he⟩, ⟨o, k it (by simp) o ho, r⟩, hne⟩
  item := by
    intro X hP hw hK hc i pins s σ H E I hf st hg
    subst hP hw hK
    obtain ⟨_, ⟨old, he⟩, hit, hne⟩ := st
    have hin : i < y.cps.size := hg
    have hel : e < s.heap.objs.size := Heap.lt_size he
    have hil : it < s.heap.objs.size := by obtain ⟨_, q, _⟩ := hit; exact Heap.lt_size q
    refine wpAny_pyNext_enum_itemD (Draws.text (A := X.A.in1) (show X.A.in1.handled = none from I.ok.hd hc) it y t) he hit hin hne (by simp [hne]) fun x' h' tk hx' ho st' hT hsz hk => ?_
    obtain ⟨c, u, hcx, rfl⟩ := hx'
    refine ⟨_, rfl, wpAny_letOwnedTupleGo_enum (s := { s with heap := h', toks := tk + 1 }) ho fun h'' he' sb => ?_⟩
    have hT2 : h''.get? s.heap.objs.size = some { cls := .type "tuple", data := .seq #[.int i tk, .str ⟨#[c]⟩ u] } := (sb.2 _ (Nat.ne_of_gt hel)).trans hT
    have new : ObjOk X.prog X.w (upd H s.heap.objs.size (.tup [.int (i : Nat), .str ⟨#[c]⟩])) h'' s.heap.objs.size (.tup [.int (i : Nat), .str ⟨#[c]⟩]) :=
      ⟨by show 2 ≤ sizeLine; decide, [.int i tk, .str ⟨#[c]⟩ u], .cons ⟨_, rfl⟩ (.cons ⟨_, rfl⟩ .nil), ⟨_, hT2, rfl, _, rfl⟩⟩
    have I1 : Inv X pins σ (upd H s.heap.objs.size (.tup [.int (i : Nat), .str ⟨#[c]⟩])) { s with heap := h'', toks := tk + 1 } :=
      I.turnedNew (ch := [e, it]) (fun b ob hb q => (sb.2 b (fun z => hb (by simp [z]))).trans (hk b ob (fun z => hb (by simp [z])) (fun z => hb (by simp [z])) q)) hf (Nat.le_refl _) new
    obtain ⟨oi, hoi, hci, hdi⟩ := st'
    refine ⟨.ref s.heap.objs.size, _, I1, rfl, ⟨_, c, rfl, I.hok.fresh (Nat.le_refl _), rfl, hcx⟩, ⟨hin, ⟨.str ⟨#[c]⟩ u, ?_⟩, ⟨oi, (sb.2 it (Ne.symm hne)).trans hoi, hci, hdi⟩, hne⟩, fun b hb => ?_⟩
    · have e1 : ((i + 1 : Nat) : Int) = (i : Int) + 1 := by omega
      rw [e1]; exact he'
    · have hb' : b < s.heap.objs.size := by
        have e' : b = e ∨ b = it := by simpa using hb
        rcases e' with z | z
        · rw [z]; exact hel
        · rw [z]; exact hil
      rw [upd_ne (Nat.ne_of_lt hb')]
      exact (hf b hb).1
  done := by
    intro X hP hw hK hc i pins s σ H E I hf st hg
    subst hP hw hK
    obtain ⟨hin, ⟨old, he⟩, hit, hne⟩ := st
    have hni : y.cps.size ≤ i := hg
    obtain ⟨f0, f1, f2, f3, f4, f5⟩ := hf it (by simp)
    have hin2 : i = y.cps.size := by omega
    refine wpAny_pyNext_enum_endD (Draws.text (A := X.A.in1) (show X.A.in1.handled = none from I.ok.hd hc) it y t) he (by rw [← hin2]; exact hit) fun h' eb => ⟨rfl, I.turned (t' := s.toks) (fun b o hb q => eb b o hb q) f0 f1 f3 f4 f5⟩
  self := fun A i s Q E st h => let ⟨_, ⟨_, he⟩, _⟩ := st; wpAny_pyIter_enum he h
/-- enumerate(x), x a list, a tuple or a text -/
def iEnumA (K : PySem.W.Frag) (te : TE) : TI := fun σ H R => te σ H fun v H1 => (∃ a xs, v = .ref a ∧ SqL K H1 a xs ∧ R (Ite K a) H1) ∨ (∃ a xs, v = .ref a ∧ SqT K H1 a xs ∧ R (IteT K a xs.length) H1) ∨ ∃ y, v = .str y ∧ R (IteS y) H1
theorem pi_enumA {X : Cx} {e : Expr} {te : TE} {p pos tpos : Pos} {elts : List Expr} {kk : Nat} (hg : Gl X "enumerate") (hm : X.mg "enumerate" = none) (he : PE X e te) (hs : starEach [e] X.env = (false, eval e X.env) :: starEach [] X.env := by rfl) :
    PI X (.Tuple elts kk tpos) (.Call (.Name "enumerate" p) [e] [] pos) (iEnumA X.K te) := by
  refine ⟨fun pins s σ H R I h => ?_⟩
  refine Call_ (ld_blt I hg hm boot_enumerate (PyProof.Rows.callWith_type1 (args_cons (thn (he.run pins s σ H _ I h) fun u s1 ⟨v, H1, I1, r1, q1⟩ => args_nil ?_) hs) hs rfl))
  have fpk : ∀ b ∈ [s1.heap.objs.size + 1, s1.heap.objs.size], FpOk X pins H1 b := fun b hb => by
    have e' : b = s1.heap.objs.size + 1 ∨ b = s1.heap.objs.size := by simpa using hb
    have hle : s1.heap.objs.size ≤ b := by
      rcases e' with z | z
      · rw [z]; exact Nat.le_add_right _ _
      · rw [z]; exact Nat.le_refl _
    exact I1.fpOk hle (I1.hok.fresh hle)
  rcases q1 with ⟨a, xs, rfl, hq, q⟩ | ⟨a, xs, rfl, hq, q⟩ | ⟨y, rfl, q⟩
  · cases r1
    obtain ⟨its, rv, p', hz⟩ := I1.list hq
    refine call_enumerate_list p'.isList fun h' he hit hsz hk => wpAny_pyIter_enum he ?_
    have I2 : Inv X pins σ H1 { s1 with heap := h' } := I1.kept (t' := s1.toks) hk
    exact ⟨s1.heap.objs.size + 1, [s1.heap.objs.size + 1, s1.heap.objs.size], _, _, H1, rfl, I2, turn_enum a (s1.heap.objs.size + 1) s1.heap.objs.size, ⟨⟨.none, he⟩, hit, Nat.succ_ne_self _⟩, fpk, q⟩
  · cases r1
    obtain ⟨its, rv, p', hz⟩ := I1.tuple hq
    refine enum_begins1 (begins_tuple a its.toArray) p' fun h' he ho hsz hk => wpAny_pyIter_enum he ?_
    have I2 : Inv X pins σ H1 { s1 with heap := h' } := I1.kept (t' := s1.toks) hk
    exact ⟨s1.heap.objs.size + 1, [s1.heap.objs.size + 1, s1.heap.objs.size], _, _, H1, rfl, I2, turn_enumT a (s1.heap.objs.size + 1) s1.heap.objs.size xs.length, ⟨Nat.zero_le _, ⟨.none, he⟩, ⟨_, ho, rfl, rfl⟩, Nat.succ_ne_self _⟩, fpk, q⟩
  · obtain ⟨t, rfl⟩ := r1
    refine enum_begins1 (begins_text y t) trivial fun h' he ho hsz hk => wpAny_pyIter_enum he ?_
    have I2 : Inv X pins σ H1 { s1 with heap := h' } := I1.kept (t' := s1.toks) hk
    exact ⟨s1.heap.objs.size + 1, [s1.heap.objs.size + 1, s1.heap.objs.size], _, _, H1, rfl, I2, turn_enumS (s1.heap.objs.size + 1) s1.heap.objs.size y t, ⟨Nat.zero_le _, ⟨.none, he⟩, ⟨_, ho, rfl, rfl⟩, Nat.succ_ne_self _⟩, fpk, q⟩

noncomputable section
/-- the items with their numbers -/
def enW (ws : List Va) : List Va := ws.mapIdx fun i w => .tup [.int (i : Nat), w]
theorem enW_get {ws : List Va} {i : Nat} : (enW ws)[i]? = (ws[i]?).map fun w => Va.tup [.int (i : Nat), w] := by unfold enW; rw [List.getElem?_mapIdx]
theorem enW_len {ws : List Va} : (enW ws).length = ws.length := by unfold enW; rw [List.length_mapIdx]
theorem pair_rep {K : PySem.W.Frag} {ρ : List Addr} {H : Hp} {T : Addr} {i : Nat} {w : Va} {x : V} (hT : H T = none) (rv : RepV K ρ H w x) :
    L2.Same H (L2.upd H T (.tup [.int (i : Nat), x])) ∧ Kp K H (L2.upd H T (.tup [.int (i : Nat), x])) ∧ RepV K ρ (L2.upd H T (.tup [.int (i : Nat), x])) (.tup [.int (i : Nat), w]) (.ref T) := by
  have hk : Kp K H (L2.upd H T (.tup [.int (i : Nat), x])) := Kp.new hT
  refine ⟨fun b o e => ?_, hk, ?_⟩
  · by_cases z : b = T
    · subst z; rw [hT] at e; cases e
    · rw [upd_ne z]; exact e
  · simp only [RepV]
    refine ⟨T, _, rfl, upd_same, ?_⟩
    simp only [RepL]
    exact ⟨_, _, rfl, by simp only [RepV], _, _, rfl, RepV.mono (List.prefix_refl _) hk _ _ rv, rfl⟩
theorem jok_enL {K : PySem.W.Frag} {ρ : List Addr} {H : Hp} {n : Nat} {a : Addr} {ws : List Va} (ha : ρ[n]? = some a) : JOk K ρ H ⟨enW ws, fun st => st[n]? = some (.lst ws)⟩ (Ite K a) := by
  intro i ρ' fm st σ H' hp hk R hg
  obtain ⟨b, vs, e, ea, g1, r1⟩ := lst_of R (v := .ref a) (by simp only [RepV]; exact ⟨a, rfl, pre_get hp ha⟩) hg
  cases e
  refine ⟨fun w hw => ?_, fun e => ⟨vs, SqL.of g1, by rw [← r1.length]; dsimp only at e; rw [enW_len] at e; omega⟩⟩
  dsimp only at hw
  rw [enW_get] at hw
  obtain ⟨w0, hw0, rfl⟩ := Option.map_eq_some_iff.mp hw
  obtain ⟨v, hv, rv⟩ := r1.get hw0
  refine ⟨⟨vs, v, SqL.of g1, hv⟩, fun x H2 ⟨T, y, e1, hT, e2, e3⟩ => ?_⟩
  subst e1; subst e2
  have := e3 vs (SqL.of g1)
  rw [hv] at this; cases this
  exact pair_rep hT rv
theorem jok_enR {K : PySem.W.Frag} {ρ : List Addr} {H : Hp} {n : Nat} {a : Addr} {ws : List Va} (ha : ρ[n]? = some a) : JOk K ρ H ⟨enW ws, fun st => st[n]? = some (.rol ws)⟩ (Ite K a) := by
  intro i ρ' fm st σ H' hp hk R hg
  obtain ⟨b, vs, e, ea, g1, r1⟩ := rol_of R (v := .ref a) (by simp only [RepV]; exact ⟨a, rfl, pre_get hp ha⟩) hg
  cases e
  refine ⟨fun w hw => ?_, fun e => ⟨vs, g1, by rw [← r1.length]; dsimp only at e; rw [enW_len] at e; omega⟩⟩
  dsimp only at hw
  rw [enW_get] at hw
  obtain ⟨w0, hw0, rfl⟩ := Option.map_eq_some_iff.mp hw
  obtain ⟨v, hv, rv⟩ := r1.get hw0
  refine ⟨⟨vs, v, g1, hv⟩, fun x H2 ⟨T, y, e1, hT, e2, e3⟩ => ?_⟩
  subst e1; subst e2
  have := e3 vs g1
  rw [hv] at this; cases this
  exact pair_rep hT rv
theorem jok_enT {K : PySem.W.Frag} {ρ : List Addr} {H : Hp} {a : Addr} {ws : List Va} {vs : List V} (h : H a = some (.tup vs) ∨ SqT K (fun _ => none) a vs) (r : RepL K ρ H ws vs) : JOk K ρ H ⟨enW ws, fun _ => True⟩ (IteT K a vs.length) := by
  intro i ρ' fm st σ H' hp hk R _
  have g1 : SqT K H' a vs := h.elim (fun h => SqT.of (hk _ _ h)) SqT.const
  have r1 := RepL.mono hp hk _ _ r
  refine ⟨fun w hw => ?_, fun e => ⟨by rw [← r1.length]; dsimp only at e; rw [enW_len] at e; omega, vs, g1, rfl⟩⟩
  dsimp only at hw
  rw [enW_get] at hw
  obtain ⟨w0, hw0, rfl⟩ := Option.map_eq_some_iff.mp hw
  obtain ⟨v, hv, rv⟩ := r1.get hw0
  refine ⟨⟨(List.getElem?_eq_some_iff.mp hv).1, vs, v, g1, hv, rfl⟩, fun x H2 ⟨T, y, e1, hT, e2, e3⟩ => ?_⟩
  subst e1; subst e2
  have := e3 vs g1
  rw [hv] at this; cases this
  exact pair_rep hT rv
theorem jok_enS {K : PySem.W.Frag} {ρ : List Addr} {H : Hp} {s : List Nat} : JOk K ρ H ⟨enW (strW s), fun _ => True⟩ (IteS ⟨s.toArray⟩) := by
  intro i ρ' fm st σ H' hp hk R _
  refine ⟨fun w hw => ?_, fun e => ?_⟩
  · dsimp only at hw
    rw [enW_get] at hw
    obtain ⟨w0, hw0, rfl⟩ := Option.map_eq_some_iff.mp hw
    simp only [strW, List.getElem?_map, Option.map_eq_some_iff] at hw0
    obtain ⟨k, hk', rfl⟩ := hw0
    have hl := (List.getElem?_eq_some_iff.mp hk').1
    refine ⟨by show i < s.toArray.size; simpa using hl, fun x H2 ⟨T, c, e1, hT, e2, e3⟩ => ?_⟩
    subst e1; subst e2
    have : c = k := by simpa [hk'] using e3.symm
    subst this
    exact pair_rep hT (by simp only [RepV])
  · dsimp only at e
    rw [enW_len] at e
    show s.toArray.size ≤ i
    simp [strW] at e
    simp [e]
def enOf (w : Va) (st : Sto) : Option Src := match w with
  | .tup ws => some ⟨enW ws, fun _ => True⟩
  | .ktp ws => some ⟨enW ws, fun _ => True⟩
  | .str s => some ⟨enW (strW s), fun _ => True⟩
  | .ref n => match st[n]? with
    | some (.lst ws) => some ⟨enW ws, fun st => st[n]? = some (.lst ws)⟩
    | some (.rol ws) => some ⟨enW ws, fun st => st[n]? = some (.rol ws)⟩
    | _ => none
  | _ => none
def iEn (f : Ev) : Fi := fun fm st => (f fm st).bind fun p => (enOf p.1 p.2).map fun S => (S, p.2)
theorem di_en {X : Cx} {e : Expr} {f : Ev} {p pos tpos : Pos} {elts : List Expr} {kk : Nat} (hg : Gl X "enumerate") (hm : X.mg "enumerate" = none) (he : DE X e f) (hs : starEach [e] X.env = (false, eval e X.env) :: starEach [] X.env := by rfl) :
    DI X (.Tuple elts kk tpos) (.Call (.Name "enumerate" p) [e] [] pos) (iEn f) := PIi (pi_enumA hg hm he hs) fun σ H R h => by
  obtain ⟨ρ, fm, st, S, st', Rr, e, T⟩ := h
  simp only [iEn, Option.bind_eq_some_iff, Option.map_eq_some_iff] at e
  obtain ⟨⟨w, s1⟩, e1, S', e2, e3⟩ := e
  cases e3
  dsimp only at e2 T
  refine ⟨ρ, fm, st, w, s1, Rr, e1, fun ρ1 H1 p1 k1 R1 x rx => ?_⟩
  unfold enOf at e2
  split at e2
  · cases e2
    simp only [RepV] at rx
    obtain ⟨a, vs, rfl, h1, r1⟩ := rx
    exact .inr (.inl ⟨a, vs, rfl, SqT.of h1, T ρ1 H1 p1 k1 R1 _ (jok_enT (.inl h1) r1)⟩)
  · cases e2
    simp only [RepV] at rx
    obtain ⟨a, vs, rfl, h1, r1⟩ := rx
    exact .inr (.inl ⟨a, vs, rfl, SqT.const h1, T ρ1 H1 p1 k1 R1 _ (jok_enT (.inr h1) r1)⟩)
  · cases e2
    simp only [RepV] at rx
    exact .inr (.inr ⟨_, rx, T ρ1 H1 p1 k1 R1 _ jok_enS⟩)
  · split at e2
    · rename_i hn
      cases e2
      obtain ⟨a, vs, rfl, ea, g1, r1⟩ := lst_of R1 rx hn
      exact .inl ⟨a, vs, rfl, SqL.of g1, T ρ1 H1 p1 k1 R1 _ (jok_enL ea)⟩
    · rename_i hn
      cases e2
      obtain ⟨a, vs, rfl, ea, g1, r1⟩ := rol_of R1 rx hn
      exact .inl ⟨a, vs, rfl, g1, T ρ1 H1 p1 k1 R1 _ (jok_enR ea)⟩
    · cases e2
  · cases e2
end
end T3
/-! T3, further rules: two fors in a comprehension; insert, index, pop, extend of lists -/
namespace T3
open PySem PySem.Spec PyProof.Rows L2
noncomputable section
/-! ### two fors -/
section
open Classical
noncomputable def lc2L (gd : Sto → Prop) (fg : Fg) (ft : Et) (fi1 : Fi) (fg1 : Fg) (ft1 : Et) (fe : Ev) (vs1 : List Nat) (n : Nat) : List Va → Fm → Sto → Option Sto
  | [] => fun _ st => if gd st then some st else none
  | w :: ws => fun fm st => if gd st then (fg w fm).bind fun fm1 => (ft fm1 st).bind fun b => if b.1 = true then
      (fi1 fm1 b.2).bind fun r => (lcL r.1.gd fg1 ft1 fe n r.1.ws (wip fm1 vs1) r.2).bind fun st' => lc2L gd fg ft fi1 fg1 ft1 fe vs1 n ws fm st'
      else lc2L gd fg ft fi1 fg1 ft1 fe vs1 n ws fm b.2 else none
noncomputable def eLc2 (fi : Fi) (fg : Fg) (ft : Et) (fi1 : Fi) (fg1 : Fg) (ft1 : Et) (fe : Ev) (vs vs1 : List Nat) : Ev :=
  fun fm st => (fi fm st).bind fun r => (lc2L r.1.gd fg ft fi1 fg1 ft1 fe vs1 r.2.length r.1.ws (wip fm vs) (r.2 ++ [.lst []])).map fun st' => (.ref r.2.length, st')
end
theorem tLc2_of {K : PySem.W.Frag} {fi fi1 : Fi} {fg fg1 : Fg} {ft ft1 : Et} {fe : Ev} {is is1 vs vs1 : List Nat} (hsub : ∀ i ∈ is, i ∈ vs) (hsub1 : ∀ i ∈ is1, i ∈ vs1) {σ : L2.St} {H : Hp} {Q : VK}
    (h : tD K (eLc2 fi fg ft fi1 fg1 ft1 fe vs vs1) σ H Q) : tLc2 (tI K fi) (tG K is fg) (tDt K ft) (tI K fi1) (tG K is1 fg1) (tDt K ft1) (tD K fe) vs vs1 σ H Q := by
  obtain ⟨ρ, fm, st, w, st', R, e, T⟩ := h
  simp only [eLc2, Option.bind_eq_some_iff, Option.map_eq_some_iff] at e
  obtain ⟨⟨S, s1⟩, e1, st'', e2, e3⟩ := e
  cases e3
  dsimp only at e2 T
  refine ⟨ρ, fm, st, S, s1, R, e1, fun ρ1 H1 p1 k1 R1 J hJ D hD => ?_⟩
  have hk0 : Kp K H1 (upd H1 D (.lst [])) := Kp.new hD
  have hlen : ρ1.length = s1.length := R1.s.rl
  have R2 : Rel K (ρ1 ++ [D]) fm (s1 ++ [.lst []]) σ (upd H1 D (.lst [])) := R1.mono (List.prefix_append _ _) hk0 (R1.s.push hD (o := .lst []) ⟨[], upd_same, RepL.nil⟩)
  have hDn : (ρ1 ++ [D])[s1.length]? = some D := by rw [← hlen, List.getElem?_append_right (Nat.le_refl _)]; simp
  refine ⟨fun i m H2 => i + m = S.ws.length ∧ ∃ ρ2 st2, (ρ1 ++ [D]) <+: ρ2 ∧ Kp K H1 H2 ∧ SRel K ρ2 st2 H2 ∧ lc2L S.gd fg ft fi1 fg1 ft1 fe vs1 s1.length (S.ws.drop i) (wip fm vs) st2 = some st', ⟨S.ws.length, by omega, _, _, List.prefix_refl _, hk0, R2.s, by simpa using e2⟩, ?_⟩
  rintro i m H2 ⟨hm, ρ2, st2, p2, k2, S2, e3⟩
  have P2 := List.IsPrefix.trans (List.prefix_append ρ1 [D]) p2
  have E2 : ERel K ρ2 fm σ H2 := R1.e.mono P2 k2
  by_cases hi : i < S.ws.length
  · refine .inr ?_
    have hd : S.ws.drop i = S.ws[i] :: S.ws.drop (i + 1) := List.drop_eq_getElem_cons hi
    rw [hd] at e3
    simp only [lc2L] at e3
    split at e3
    · rename_i hgd
      obtain ⟨hgo, _⟩ := hJ i ρ2 _ st2 _ H2 P2 k2 ⟨S2, E2⟩ hgd
      obtain ⟨go, yld⟩ := hgo S.ws[i] (List.getElem?_eq_getElem hi)
      simp only [Option.bind_eq_some_iff] at e3
      obtain ⟨fm3, e4, ⟨b, s5⟩, e5, e6⟩ := e3
      dsimp only at e6
      refine ⟨go, fun H3 => ∃ ρ3 st3, (ρ1 ++ [D]) <+: ρ3 ∧ Kp K H1 H3 ∧ SRel K ρ3 st3 H3 ∧ lc2L S.gd fg ft fi1 fg1 ft1 fe vs1 s1.length (S.ws.drop (i + 1)) (wip fm vs) st3 = some st', fun H3 h3 => ⟨m - 1, by omega, by omega, h3⟩, fun x H3 hy => ?_⟩
      obtain ⟨sm, k3, rx⟩ := yld x H3 hy
      have S3 := S2.same sm k3
      have E3 := (E2.mono (List.prefix_refl _) k3).wip vs
      refine ⟨ρ2, _, st2, S.ws[i], fm3, ⟨S3, E3⟩, rx, e4, fun σ4 R4 hw => ⟨(hw vs hsub).trans (wipe_wipe σ vs), ?_⟩⟩
      refine ⟨ρ2, fm3, st2, b, s5, R4, e5, fun ρ5 H5 p5 k5 R5 => ?_⟩
      cases b with
      | false =>
        rw [if_neg Bool.false_ne_true] at e6 ⊢
        exact ⟨ρ5, s5, List.IsPrefix.trans p2 p5, k2.trans (k3.trans k5), R5.s, e6⟩
      | true =>
        rw [if_pos rfl] at e6 ⊢
        simp only [Option.bind_eq_some_iff] at e6
        obtain ⟨⟨S1, s6⟩, e7, stN, e8, e9⟩ := e6
        dsimp only at e8
        refine ⟨ρ5, fm3, s5, S1, s6, R5, e7, fun ρ6 H6 p6 k6 R6 J1 hJ1 => ?_⟩
        have Pd6 : (ρ1 ++ [D]) <+: ρ6 := List.IsPrefix.trans p2 (List.IsPrefix.trans p5 p6)
        have K6 : Kp K H1 H6 := k2.trans (k3.trans (k5.trans k6))
        refine ⟨fun j k H7 => j + k = S1.ws.length ∧ ∃ ρ7 st7, ρ6 <+: ρ7 ∧ Kp K H6 H7 ∧ SRel K ρ7 st7 H7 ∧ lcL S1.gd fg1 ft1 fe s1.length (S1.ws.drop j) (wip fm3 vs1) st7 = some stN, ⟨S1.ws.length, by omega, _, _, List.prefix_refl _, Kp.refl, R6.s, by simpa using e8⟩, ?_⟩
        rintro j k H7 ⟨hk, ρ7, st7, p7, k7, S7, e10⟩
        have E7 : ERel K ρ7 fm3 σ4 H7 := R6.e.mono p7 k7
        by_cases hj : j < S1.ws.length
        · refine .inr ?_
          have hd1 : S1.ws.drop j = S1.ws[j] :: S1.ws.drop (j + 1) := List.drop_eq_getElem_cons hj
          rw [hd1] at e10
          simp only [lcL] at e10
          split at e10
          · rename_i hgd1
            obtain ⟨hgo1, _⟩ := hJ1 j ρ7 _ st7 _ H7 p7 k7 ⟨S7, E7⟩ hgd1
            obtain ⟨go1, yld1⟩ := hgo1 S1.ws[j] (List.getElem?_eq_getElem hj)
            simp only [Option.bind_eq_some_iff] at e10
            obtain ⟨fm8, e11, ⟨b1, s8⟩, e12, e13⟩ := e10
            dsimp only at e13
            refine ⟨go1, fun H8 => ∃ ρ8 st8, ρ6 <+: ρ8 ∧ Kp K H6 H8 ∧ SRel K ρ8 st8 H8 ∧ lcL S1.gd fg1 ft1 fe s1.length (S1.ws.drop (j + 1)) (wip fm3 vs1) st8 = some stN, fun H8 h8 => ⟨k - 1, by omega, by omega, h8⟩, fun x1 H8 hy1 => ?_⟩
            obtain ⟨sm1, k8, rx1⟩ := yld1 x1 H8 hy1
            have S8 := S7.same sm1 k8
            have E8 := (E7.mono (List.prefix_refl _) k8).wip vs1
            refine ⟨ρ7, _, st7, S1.ws[j], fm8, ⟨S8, E8⟩, rx1, e11, fun σ9 R9 hw1 => ⟨(hw1 vs1 hsub1).trans (wipe_wipe σ4 vs1), ?_⟩⟩
            refine ⟨ρ7, fm8, st7, b1, s8, R9, e12, fun ρ9 H9 p9 k9 R10 => ?_⟩
            cases b1 with
            | false =>
              rw [if_neg Bool.false_ne_true] at e13 ⊢
              exact ⟨ρ9, s8, List.IsPrefix.trans p7 p9, k7.trans (k8.trans k9), R10.s, e13⟩
            | true =>
              rw [if_pos rfl] at e13 ⊢
              simp only [Option.bind_eq_some_iff] at e13
              obtain ⟨⟨y, s9⟩, e14, e15⟩ := e13
              dsimp only at e15
              refine ⟨ρ9, fm8, s8, y, s9, R10, e14, fun ρ10 H10 p10 k10 R11 z rz => ?_⟩
              split at e15
              · rename_i acc hacc
                split at e15
                · rename_i hz
                  have Pd : (ρ1 ++ [D]) <+: ρ10 := List.IsPrefix.trans Pd6 (List.IsPrefix.trans p7 (List.IsPrefix.trans p9 p10))
                  have hDn6 : ρ10[s1.length]? = some D := pre_get Pd hDn
                  obtain ⟨a, vsx, ea, ea2, g1, r1⟩ := lst_of R11 (v := .ref D) (by simp only [RepV]; exact ⟨D, rfl, hDn6⟩) hacc
                  cases ea
                  refine ⟨vsx, g1, by rw [← r1.length, sizeLine_eq]; exact hz, ?_⟩
                  have hk7 : Kp K H10 (upd H10 D (.lst (vsx ++ [z]))) := Kp.upd (fun xs q => by rw [g1] at q; cases q)
                  obtain ⟨S12, k12⟩ := R11.s.write (o' := .lst (acc ++ [y])) hacc hDn6 rfl rfl ⟨_, upd_same, RepL.mono (List.prefix_refl _) hk7 _ _ (r1.append (RepL.one rz))⟩
                  exact ⟨ρ10, _, List.IsPrefix.trans p7 (List.IsPrefix.trans p9 p10), k7.trans (k8.trans (k9.trans (k10.trans k12))), S12, e15⟩
                · cases e15
              · cases e15
          · cases e10
        · have ej : j = S1.ws.length := by omega
          refine .inl ?_
          rw [ej, List.drop_length] at e10
          simp only [lcL] at e10
          split at e10
          · rename_i hgd1
            obtain ⟨_, stop⟩ := hJ1 j ρ7 _ st7 _ H7 p7 k7 ⟨S7, E7⟩ hgd1
            cases e10
            exact ⟨stop ej, ρ7, _, List.IsPrefix.trans Pd6 p7, K6.trans k7, S7, e9⟩
          · cases e10
    · cases e3
  · have ei : i = S.ws.length := by omega
    refine .inl ?_
    rw [ei, List.drop_length] at e3
    simp only [lc2L] at e3
    split at e3
    · rename_i hgd
      obtain ⟨_, stop⟩ := hJ i ρ2 _ st2 _ H2 P2 k2 ⟨S2, E2⟩ hgd
      cases e3
      refine ⟨stop ei, T ρ2 H2 (List.IsPrefix.trans p1 P2) (k1.trans k2) ⟨S2, E2⟩ (.ref D) ?_⟩
      simp only [RepV]
      exact ⟨D, rfl, pre_get p2 hDn⟩
    · cases e3
section
variable {X : Cx} {elt tg iter tg1 iter1 : Expr} {ifs ifs1 : List Expr} {scope : Scope} {own : List (Str × Nat)} {pos : Pos} {fi fi1 : Fi} {fg fg1 : Fg} {ft ft1 : Et} {fe : Ev} {is is1 : List Nat}
theorem de_lc2 (vs vs1 : List Nat) (hc : X.calm = true) (hN : X.N.Nodup) (hi : DI X tg iter fi) (ok : BlkOk X.N X.env.scope scope own)
    (hg : ∀ (s : Shared) (H : Hp) (C : Addr) (cl : List (Str × Addr)) (fp : List Addr), DG (X.blk s H scope (compEnvC scope cl C X.env) fp) tg is fg) (ht : ∀ (s : Shared) (H : Hp) (C : Addr) (cl : List (Str × Addr)) (fp : List Addr), DTs (X.blk s H scope (compEnvC scope cl C X.env) fp) ifs ft)
    (hi1 : ∀ (s : Shared) (H : Hp) (C : Addr) (cl : List (Str × Addr)) (fp : List Addr), DI (X.blk s H scope (compEnvC scope cl C X.env) fp) tg1 iter1 fi1)
    (hg1 : ∀ (s : Shared) (H : Hp) (C : Addr) (cl : List (Str × Addr)) (fp : List Addr), DG (X.blk s H scope (compEnvC scope cl C X.env) fp) tg1 is1 fg1) (ht1 : ∀ (s : Shared) (H : Hp) (C : Addr) (cl : List (Str × Addr)) (fp : List Addr), DTs (X.blk s H scope (compEnvC scope cl C X.env) fp) ifs1 ft1)
    (he : ∀ (s : Shared) (H : Hp) (C : Addr) (cl : List (Str × Addr)) (fp : List Addr), DE (X.blk s H scope (compEnvC scope cl C X.env) fp) elt fe) (hvs : own.map (·.2) = vs) (hsub : ∀ i ∈ is, i ∈ vs) (hv : ∀ i ∈ vs1, i ∈ vs) (hsub1 : ∀ i ∈ is1, i ∈ vs1)
    (hs : ∀ x, foldedSetIterable iter X.env x = pure x := by intro _; rfl) (hs1 : ∀ env x, foldedSetIterable iter1 env x = pure x := by intro _ _; rfl) :
    DE X (.ListComp elt [⟨tg, iter, ifs, 0⟩, ⟨tg1, iter1, ifs1, 0⟩] scope pos) (eLc2 fi fg ft fi1 fg1 ft1 fe vs vs1) :=
  PEi (pe_lc2 (vs1 := vs1) hc hN hi ok (by rw [hvs]; exact hv) hg ht hi1 hg1 ht1 he hs hs1) fun _ _ _ h => by rw [hvs]; exact tLc2_of hsub hsub1 h
theorem ds_lc2 (vs vs1 : List Nat) {i : Nat} {y : Str} {py spos : Pos} (hc : X.calm = true) (hN : X.N.Nodup) (hy : X.N[i]? = some y) (hyl : X.env.scope.names.lookup y = some .local)
    (hsw : swapsWith (.ListComp elt [⟨tg, iter, ifs, 0⟩, ⟨tg1, iter1, ifs1, 0⟩] scope pos) (some (.Name y py)) spos.line X.env = pure true) (hi : DI X tg iter fi) (ok : BlkOk X.N X.env.scope scope own)
    (hg : ∀ (s : Shared) (H : Hp) (C : Addr) (cl : List (Str × Addr)) (fp : List Addr), DG (X.blk s H scope (compEnvC scope cl C X.env) fp) tg is fg) (ht : ∀ (s : Shared) (H : Hp) (C : Addr) (cl : List (Str × Addr)) (fp : List Addr), DTs (X.blk s H scope (compEnvC scope cl C X.env) fp) ifs ft)
    (hi1 : ∀ (s : Shared) (H : Hp) (C : Addr) (cl : List (Str × Addr)) (fp : List Addr), DI (X.blk s H scope (compEnvC scope cl C X.env) fp) tg1 iter1 fi1)
    (hg1 : ∀ (s : Shared) (H : Hp) (C : Addr) (cl : List (Str × Addr)) (fp : List Addr), DG (X.blk s H scope (compEnvC scope cl C X.env) fp) tg1 is1 fg1) (ht1 : ∀ (s : Shared) (H : Hp) (C : Addr) (cl : List (Str × Addr)) (fp : List Addr), DTs (X.blk s H scope (compEnvC scope cl C X.env) fp) ifs1 ft1)
    (he : ∀ (s : Shared) (H : Hp) (C : Addr) (cl : List (Str × Addr)) (fp : List Addr), DE (X.blk s H scope (compEnvC scope cl C X.env) fp) elt fe) (hvs : own.map (·.2) = vs) (hsub : ∀ i ∈ is, i ∈ vs) (hv : ∀ i ∈ vs1, i ∈ vs) (hsub1 : ∀ i ∈ is1, i ∈ vs1)
    (hs : ∀ x, foldedSetIterable iter X.env x = pure x := by intro _; rfl) (hs1 : ∀ env x, foldedSetIterable iter1 env x = pure x := by intro _ _; rfl) :
    DS X (.Assign [.Name y py] (.ListComp elt [⟨tg, iter, ifs, 0⟩, ⟨tg1, iter1, ifs1, 0⟩] scope pos) spos) (sSet i (eLc2 fi fg ft fi1 fg1 ft1 fe vs vs1)) :=
  PSi (ps_setLc2 (vs1 := vs1) hc hN hy hyl hsw hi ok (by rw [hvs]; exact hv) hg ht hi1 hg1 ht1 he hs hs1) fun D σ H h => by
  obtain ⟨ρ, fm, st, fl, fm', st', R, e, T⟩ := h
  simp only [sSet, Option.bind_eq_some_iff] at e
  obtain ⟨⟨w, s1⟩, e1, e2⟩ := e
  cases e2
  rw [hvs]
  exact tLc2_of hsub hsub1 ⟨ρ, fm, st, w, _, R, e1, fun ρ1 H1 p1 k1 R1 v rv => T ρ1 H1 _ p1 k1 ⟨R1.s, R1.e.set rv⟩⟩
end

/-! ### methods of lists -/
section
variable {X : Cx} {o e e1 : Expr} {f f1 fo : Ev} {apos cpos : Pos}
/-- xs.insert(i, y) -/
def gIns (w : Va) (ws : List Va) (st : Sto) : Option (Va × Sto) := match w, ws with
  | .ref n, [.int i, y] => match st[n]? with
    | some (.lst xs) => @ite _ (xs.length < 16777216 ∧ 0 ≤ i ∧ i < 1000000000) (Classical.propDecidable _) (some (.non, st.set n (.lst (xs.take i.toNat ++ [y] ++ xs.drop i.toNat)))) none
    | _ => none
  | _, _ => none
abbrev rIns : V → List V → Hp → VK → Prop := fun x vs H Q => ∃ (l : Addr) (xs : List V) (i : Int) (y : V), x = .ref l ∧ vs = [.int i, y] ∧ H l = some (.lst xs) ∧ xs.length < sizeLine ∧ 0 ≤ i ∧ i < 2 ^ 63 ∧
    Q .non (upd H l (.lst (xs.take i.toNat ++ [y] ++ xs.drop i.toNat)))
theorem mIns : MM X.K gIns rIns := by
  intro ρ fm st σ H a ws x vs w st' Q R ra rl e T
  unfold gIns at e
  split at e
  · rename_i n i y
    split at e
    · rename_i xs hn
      split at e
      · rename_i hz
        cases e
        obtain ⟨a, us, rfl, ea, g, r1⟩ := lst_of R ra hn
        obtain ⟨u, v, rfl, ru, rv⟩ := rep2 rl
        simp only [RepV] at ru
        subst ru
        refine ⟨a, us, _, v, rfl, rfl, g, by rw [← r1.length, sizeLine_eq]; exact hz.1, hz.2.1, by omega, ?_⟩
        have hk : Kp X.K H (upd H a (.lst (us.take i.toNat ++ [v] ++ us.drop i.toNat))) := Kp.upd (fun xs q => by rw [g] at q; cases q)
        exact T.write R hn ea rfl rfl ⟨_, upd_same, RepL.mono (List.prefix_refl _) hk _ _ (((r1.take i.toNat).append (RepL.one rv)).append (r1.drop i.toNat))⟩ _ repN
      · cases e
    · cases e
  · cases e
theorem de_ins (ho : DE X o fo) (he : DE X e f) (he1 : DE X e1 f1) (hbase : attributeBase o "insert" X.env (eval o X.env) = eval o X.env := by rfl)
    (hfew : ((backTo cpos (starEach [e, e1] X.env)).all (fun x => !x.1) && (backToKw cpos (keywordEach [] X.env)).all (fun x => x.1.isSome)
      && decide (([e, e1] : List Expr).length + ([] : List Keyword).length + (if ([] : List Keyword).isEmpty then 0 else 1) < 30)) = true := by rfl)
    (hline : (apos.endLine == cpos.line) = true := by rfl) (hs : starEach [e, e1] X.env = (false, eval e X.env) :: starEach [e1] X.env := by rfl) (hs1 : starEach [e1] X.env = (false, eval e1 X.env) :: starEach [] X.env := by rfl)
    (hplain : (backTo cpos (starEach [e1] X.env)).any (·.1) = false := by rfl) :
    DE X (.Call (.Attribute o "insert" apos) [e, e1] [] cpos) (eMt "list" gIns fo (aC f (aC f1 aN))) :=
  de_mt PySem.F.plainAttrs_list PySem.F.slot_list_insert PySem.F.type_list_insert mt_insert mIns ho (da_cons he (da_cons he1 da_nil hs1) hs) hbase hfew hline hs hplain
/-- xs.index(y): ints, texts, bools, None -/
def gIdxL (w : Va) (ws : List Va) (st : Sto) : Option (Va × Sto) := match w, ws with
  | .ref n, [y] => match st[n]? with
    | some (.lst xs) => (atomsV xs).bind fun vs => (atomV y).bind fun v => (vs.findIdx? fun z => eqV z v).map fun (k : Nat) => (.int (k : Int), st)
    | _ => none
  | _, _ => none
theorem mIdxL : MM X.K gIdxL (rIndex X.K) := by
  intro ρ fm st σ H a ws x vs w st' Q R ra rl e T
  unfold gIdxL at e
  split at e
  · split at e
    · rename_i xs hn
      simp only [Option.bind_eq_some_iff, Option.map_eq_some_iff] at e
      obtain ⟨us, e1, u, e2, k, e3, e4⟩ := e
      cases e4
      obtain ⟨a, us', rfl, ea, g, r1⟩ := lst_of R ra hn
      obtain ⟨v, rfl, rv⟩ := rep1 rl
      obtain ⟨rfl, h1⟩ := atomsV_rep r1 e1
      obtain ⟨rfl, h2⟩ := atomV_rep rv e2
      rw [List.findIdx?_eq_some_iff_getElem] at e3
      obtain ⟨hk, h3, h4⟩ := e3
      refine ⟨a, us', v, k, us'[k], rfl, rfl, SqL.of g, h2, h1, List.getElem?_eq_getElem hk, h3, fun m z' hm hz => ?_, T.same R _ repI⟩
      obtain ⟨hl, rfl⟩ := List.getElem?_eq_some_iff.mp hz
      simpa using h4 m hm
    · cases e
  · cases e
theorem de_idxL (ho : DE X o fo) (he : DE X e f) (hbase : attributeBase o "index" X.env (eval o X.env) = eval o X.env := by rfl)
    (hfew : ((backTo cpos (starEach [e] X.env)).all (fun x => !x.1) && (backToKw cpos (keywordEach [] X.env)).all (fun x => x.1.isSome)
      && decide (([e] : List Expr).length + ([] : List Keyword).length + (if ([] : List Keyword).isEmpty then 0 else 1) < 30)) = true := by rfl)
    (hline : (apos.endLine == cpos.line) = true := by rfl) (hs : starEach [e] X.env = (false, eval e X.env) :: starEach [] X.env := by rfl) :
    DE X (.Call (.Attribute o "index" apos) [e] [] cpos) (eMt "list" gIdxL fo (aC f aN)) :=
  de_mt PySem.F.plainAttrs_list PySem.F.slot_list_index PySem.F.type_list_index mt_index mIdxL ho (da_cons he da_nil hs) hbase hfew hline hs
/-- xs.extend(ys) -/
def gExt (w : Va) (ws : List Va) (st : Sto) : Option (Va × Sto) := match w, ws with
  | .ref n, [.ref m] => match st[n]?, st[m]? with
    | some (.lst xs), some (.lst ys) => @ite _ (xs.length + ys.length ≤ 16777216) (Classical.propDecidable _) (some (.non, st.set n (.lst (xs ++ ys)))) none
    | _, _ => none
  | _, _ => none
theorem mExt : MM X.K gExt rExtend := by
  intro ρ fm st σ H a ws x vs w st' Q R ra rl e T
  unfold gExt at e
  split at e
  · split at e
    · rename_i xs ys hn hm
      split at e
      · rename_i hz
        cases e
        obtain ⟨a, us, rfl, ea, g, r1⟩ := lst_of R ra hn
        obtain ⟨v, rfl, rv⟩ := rep1 rl
        obtain ⟨b, zs, rfl, eb, g2, r2⟩ := lst_of R rv hm
        refine ⟨a, b, us, zs, rfl, rfl, g, g2, by rw [← r1.length, ← r2.length, sizeLine_eq]; exact hz, ?_⟩
        have hk : Kp X.K H (upd H a (.lst (us ++ zs))) := Kp.upd (fun xs q => by rw [g] at q; cases q)
        exact T.write R hn ea rfl rfl ⟨_, upd_same, RepL.mono (List.prefix_refl _) hk _ _ (r1.append r2)⟩ _ repN
      · cases e
    · cases e
  · cases e
/-- xs.pop() -/
def gPop (w : Va) (ws : List Va) (st : Sto) : Option (Va × Sto) := match w, ws with
  | .ref n, [] => match st[n]? with
    | some (.lst xs) => (xs[xs.length - 1]?).map fun y => (y, st.set n (.lst xs.dropLast))
    | _ => none
  | _, _ => none
theorem mPop : MM X.K gPop rPop := by
  intro ρ fm st σ H a ws x vs w st' Q R ra rl e T
  unfold gPop at e
  split at e
  · split at e
    · rename_i xs hn
      simp only [Option.map_eq_some_iff] at e
      obtain ⟨y, e1, e2⟩ := e
      cases e2
      obtain ⟨a, us, rfl, ea, g, r1⟩ := lst_of R ra hn
      simp only [RepL] at rl
      subst rl
      obtain ⟨v, hv, rv⟩ := r1.get e1
      refine ⟨a, us, v, rfl, rfl, g, by rw [← r1.length]; exact hv, ?_⟩
      have hk : Kp X.K H (upd H a (.lst us.dropLast)) := Kp.upd (fun xs q => by rw [g] at q; cases q)
      exact T.write R hn ea rfl rfl ⟨_, upd_same, RepL.mono (List.prefix_refl _) hk _ _ r1.dropLast⟩ _ (RepV.mono (List.prefix_refl _) hk _ _ rv)
    · cases e
  · cases e
end
end
end T3
/-! T3, further rules: sorted of lists of ints, of pairs of ints -/
namespace T3
open PySem PySem.Spec PyProof.Rows L2
section
variable {α : Type} (lt : α → α → Bool)
def insB (x : α) : List α → List α
  | [] => [x]
  | y :: ys => if lt y x then y :: insB x ys else x :: y :: ys
def srtB : List α → List α
  | [] => []
  | x :: xs => insB lt x (srtB xs)
variable {lt}
theorem insB_perm (x : α) : ∀ ys : List α, (insB lt x ys).Perm (x :: ys)
  | [] => List.Perm.refl _
  | y :: ys => by
    unfold insB
    split
    · exact ((insB_perm x ys).cons y).trans (List.Perm.swap x y ys)
    · exact List.Perm.refl _
theorem srtB_perm : ∀ xs : List α, (srtB lt xs).Perm xs
  | [] => List.Perm.refl _
  | x :: xs => (insB_perm x _).trans ((srtB_perm xs).cons x)
structure Tot (lt : α → α → Bool) : Prop where
  asym : ∀ x y, lt x y = true → lt y x = false
  tr : ∀ x y z, lt y x = false → lt z y = false → lt z x = false
  anti : ∀ x y, lt x y = false → lt y x = false → x = y
theorem insB_srt (O : Tot lt) (x : α) : ∀ {ys : List α}, ys.Pairwise (fun a b => lt b a = false) → (insB lt x ys).Pairwise fun a b => lt b a = false
  | [], _ => List.pairwise_singleton _ _
  | y :: ys, h => by
    obtain ⟨h1, h2⟩ := List.pairwise_cons.mp h
    unfold insB
    split
    · rename_i hy
      refine List.pairwise_cons.mpr ⟨fun z hz => ?_, insB_srt O x h2⟩
      rcases List.mem_cons.mp ((insB_perm x ys).mem_iff.mp hz) with rfl | hz
      · exact O.asym _ _ hy
      · exact h1 z hz
    · rename_i hy
      have hy : lt y x = false := by simpa using hy
      refine List.pairwise_cons.mpr ⟨fun z hz => ?_, h⟩
      rcases List.mem_cons.mp hz with rfl | hz
      · exact hy
      · exact O.tr _ _ _ hy (h1 z hz)
theorem srtB_srt (O : Tot lt) : ∀ xs : List α, (srtB lt xs).Pairwise fun a b => lt b a = false
  | [] => List.Pairwise.nil
  | x :: xs => insB_srt O x (srtB_srt O xs)
theorem srt_uniq (O : Tot lt) : ∀ {l m : List α}, l.Pairwise (fun a b => lt b a = false) → m.Pairwise (fun a b => lt b a = false) → l.Perm m → l = m
  | [], m, _, _, p => (List.nil_perm.mp p).symm ▸ rfl
  | x :: l, [], _, _, p => by have := p.length_eq; simp at this
  | x :: l, y :: m, hl, hm, p => by
    obtain ⟨h1, h2⟩ := List.pairwise_cons.mp hl
    obtain ⟨h3, h4⟩ := List.pairwise_cons.mp hm
    have e : x = y := by
      rcases List.mem_cons.mp (p.mem_iff.mp (List.mem_cons_self (a := x) (l := l))) with e | hx
      · exact e
      · rcases List.mem_cons.mp (p.mem_iff.mpr (List.mem_cons_self (a := y) (l := m))) with e | hy
        · exact e.symm
        · exact O.anti _ _ (h3 x hx) (h1 y hy)
    subst e
    rw [srt_uniq O h2 h4 p.cons_inv]
end
def ltI (a b : Int) : Bool := decide (a < b)
def ltP2 (p q : Int × Int) : Bool := SrtO.lexB p q
theorem totI : Tot ltI := by
  refine ⟨fun x y h => ?_, fun x y z h1 h2 => ?_, fun x y h1 h2 => ?_⟩
  · simp only [ltI, decide_eq_true_eq, decide_eq_false_iff_not] at *; omega
  · simp only [ltI, decide_eq_false_iff_not] at *; omega
  · simp only [ltI, decide_eq_false_iff_not] at *; omega
theorem totP : Tot ltP2 := by
  refine ⟨fun x y h => ?_, fun x y z h1 h2 => ?_, fun x y h1 h2 => ?_⟩
  · have a := SrtO.lexB_iff.mp h
    exact SrtO.lexB_no.mpr (by omega)
  · have a := SrtO.lexB_no.mp h1
    have b := SrtO.lexB_no.mp h2
    exact SrtO.lexB_no.mpr (by omega)
  · have a := SrtO.lexB_no.mp h1
    have b := SrtO.lexB_no.mp h2
    exact Prod.ext (by omega) (by omega)
def pairV (p : Int × Int) : Va := .tup [.int p.1, .int p.2]
def pairsOf : List Va → Option (List (Int × Int))
  | [] => some []
  | .tup [.int a, .int b] :: ws => (pairsOf ws).map ((a, b) :: ·)
  | _ => none
def srtOf (ws : List Va) : Option (List Va) := match intsOf ws with
  | some ns => some ((srtB ltI ns).map Va.int)
  | none => (pairsOf ws).map fun ps => (srtB ltP2 ps).map pairV
noncomputable def gSorted (ws : List Va) (st : Sto) : Option (Va × Sto) := match ws with
  | [w] => (itemsOf w st).bind fun xs => (srtOf xs).map fun ys => (.ref st.length, st ++ [.lst ys])
  | _ => none
theorem pairs_rep {K : PySem.W.Frag} {ρ : List Addr} {H : Hp} : ∀ {ws : List Va} {ps : List (Int × Int)} {vs : List V}, pairsOf ws = some ps → RepL K ρ H ws vs →
    ws = ps.map pairV ∧ vs.length = ps.length ∧ ∀ (i : Nat) v p, vs[i]? = some v → ps[i]? = some p → ∃ t, v = V.ref t ∧ H t = some (.tup [.int p.1, .int p.2])
  | [], ps, vs, e, r => by
    simp only [RepL] at r
    cases e; subst r
    exact ⟨rfl, rfl, fun i v p h => by cases i <;> cases h⟩
  | w :: ws, ps, vs, e, r => by
    simp only [RepL] at r
    obtain ⟨v, vs, rfl, r1, r2⟩ := r
    unfold pairsOf at e
    split at e
    · cases ‹_ :: _ = []›
    · rename_i heq
      cases heq
      rename_i a b
      obtain ⟨ps', e1, rfl⟩ := Option.map_eq_some_iff.mp e
      obtain ⟨h1, h2, h3⟩ := pairs_rep e1 r2
      refine ⟨by rw [List.map_cons, ← h1]; rfl, by simp [h2], fun i v' p hv hp => ?_⟩
      cases i with
      | zero =>
        cases hv; cases hp
        simp only [RepV] at r1
        obtain ⟨t, us, rfl, ht, rl⟩ := r1
        simp only [RepL, RepV] at rl
        obtain ⟨x, r', rfl, rfl, y, r'', rfl, rfl, rfl⟩ := rl
        exact ⟨t, rfl, ht⟩
      | succ i => exact h3 i v' p hv hp
    · cases e
/-- the ints of a pair's address -/
noncomputable def keyH (H : Hp) (v : V) : Int × Int := match v with
  | .ref t => match H t with
    | some (.tup [.int a, .int b]) => (a, b)
    | _ => (0, 0)
  | _ => (0, 0)
theorem keyH_eq {H : Hp} {t : Addr} {a b : Int} (h : H t = some (.tup [.int a, .int b])) : T3.keyH H (.ref t) = (a, b) := by simp only [T3.keyH, h]
theorem cSorted {X : Cx} : ∃ r, CallR X (.builtin "sorted") r ∧ ML X.K gSorted r := by
  refine ⟨fun vs H Q => rSortedI X.K vs H Q ∨ rSortedPO X.K vs H Q, fun pins s σ H vs us Q I r h => h.elim (fun h => cr_sortedI pins s σ H vs us Q I r h) (fun h => cr_sortedPO pins s σ H vs us Q I r h), ?_⟩
  intro ρ fm st σ H ws vs w st' Q R rl e T
  unfold gSorted at e
  split at e
  · simp only [Option.bind_eq_some_iff, Option.map_eq_some_iff] at e
    obtain ⟨xs, e1, ys, e2, e3⟩ := e
    cases e3
    obtain ⟨v, rfl, rv⟩ := rep1 rl
    obtain ⟨a, us, rfl, g, r1⟩ := items_rep R rv e1
    unfold srtOf at e2
    split at e2
    · rename_i ns hns
      cases e2
      have hu := ints_rep hns r1
      subst hu
      refine .inl ⟨a, ns, rfl, g, fun ns' p hp hs hn => ?_⟩
      have he : ns' = srtB ltI ns := srt_uniq totI (hs.imp fun {x y} h => by simp only [ltI, decide_eq_false_iff_not]; omega) (srtB_srt totI ns) (hp.trans (srtB_perm ns).symm)
      subst he
      exact T.push R hn (o := .lst _) ⟨_, upd_same, RepL.of_ints _⟩ _ (ref_last R.s.rl)
    · obtain ⟨ps, e4, rfl⟩ := Option.map_eq_some_iff.mp e2
      obtain ⟨h1, h2, h3⟩ := pairs_rep e4 r1
      have hk : ∀ x ∈ us, ∃ t, x = V.ref t ∧ H t = some (.tup [.int (T3.keyH H x).1, .int (T3.keyH H x).2]) := fun x hx => by
        obtain ⟨i, hi⟩ := List.getElem?_of_mem hx
        have hil := (List.getElem?_eq_some_iff.mp hi).1
        obtain ⟨t, rfl, ht⟩ := h3 i x (ps[i]'(by omega)) hi (List.getElem?_eq_getElem _)
        exact ⟨t, rfl, by rw [keyH_eq ht]; exact ht⟩
      have hkeys : us.map (T3.keyH H) = ps := by
        apply List.ext_getElem?
        intro i
        rw [List.getElem?_map]
        by_cases hi : i < us.length
        · rw [List.getElem?_eq_getElem hi, List.getElem?_eq_getElem (show i < ps.length by omega)]
          obtain ⟨t, ev, ht⟩ := h3 i _ _ (List.getElem?_eq_getElem hi) (List.getElem?_eq_getElem (show i < ps.length by omega))
          rw [Option.map_some, ev, keyH_eq ht]
        · rw [List.getElem?_eq_none (by omega), List.getElem?_eq_none (by omega)]; rfl
      refine .inr ⟨a, us, T3.keyH H, rfl, g, hk, fun zs p hs hb hn => ?_⟩
      have hz : zs.map (T3.keyH H) = srtB ltP2 ps := by
        refine srt_uniq totP (List.pairwise_map.mpr hs) (srtB_srt totP ps) ?_
        have := hb.perm.map (T3.keyH H)
        rw [hkeys] at this
        exact this.trans (srtB_perm ps).symm
      refine T.push R hn (o := .lst _) ⟨zs, upd_same, ?_⟩ _ (ref_last R.s.rl)
      rw [← hz, List.map_map]
      have hall : ∀ x ∈ zs, ∃ t, x = V.ref t ∧ H t = some (.tup [.int (T3.keyH H x).1, .int (T3.keyH H x).2]) := fun x hx => hk x (hb.perm.mem_iff.mp hx)
      have key : ∀ (l : List V) (ho : HO), (∀ x ∈ l, ∃ t, x = V.ref t ∧ H t = some (.tup [.int (T3.keyH H x).1, .int (T3.keyH H x).2])) → RepL X.K (ρ ++ [p]) (upd H p ho) (l.map (pairV ∘ T3.keyH H)) l := by
        intro l ho
        induction l with
        | nil => exact fun _ => RepL.nil
        | cons z l ih =>
          intro hl
          rw [List.map_cons]
          refine RepL.cons ?_ (ih fun x hx => hl x (List.mem_cons_of_mem _ hx))
          obtain ⟨t, et, ht⟩ := hl z (by simp)
          simp only [Function.comp, pairV, RepV, RepL]
          refine ⟨t, _, et, ?_, _, _, rfl, rfl, _, _, rfl, rfl, rfl⟩
          rw [upd_ne (ne_of_none ht hn)]
          exact ht
      exact key zs _ hall
  · cases e
end T3
/-! T3: for x in reversed(a text) -/
namespace T3
open PySem PySem.Spec PyProof.Rows L2
open Sem (wp)
theorem norev_str : typeLookup (.type "str") "__reversed__" = pure none := by rw [typeLookup_type, builtinLookup_eq_fast]; kernel_rfl
theorem sub_str_dict : isSubtype (.type "str") (.type "dict") = pure false := by rw [isSubtype_type]; kernel_rfl
def rsObj (x : Str) (t : Tok) (i : Int) : Obj := { cls := .type "reversed", data := .fields #[.str x t, rawInt i] }
/-- reversed(text), the next place i -/
def IsRs (h : Heap) (a : Addr) (x : Str) (t : Tok) (i : Int) : Prop := ∃ o, h.get? a = some o ∧ o.cls = .type "reversed" ∧ o.data = .fields #[.str x t, rawInt i]
theorem IsRs.at {h h' : Heap} {a : Addr} {x : Str} {t : Tok} {i : Int} (y : IsRs h a x t i) (e : ∀ o, h.get? a = some o → h'.get? a = some o) : IsRs h' a x t i := let ⟨o, ho, r⟩ := y; ⟨o, e _ ho, r⟩
section
variable {prog : Program} {w : World} {A : Around} {E : Value → Shared → Prop} {s : Shared}
theorem IsRs.typeIs {a : Addr} {x : Str} {t : Tok} {i : Int} (y : IsRs s.heap a x t i) : s.TypeIs (.ref a) "reversed" := let ⟨o, ho, hc, _⟩ := y; ⟨o, ho, hc⟩
set_option maxHeartbeats 1000000 in
theorem code_reversed_str {x : Str} {t : Tok} {Q₁ : Value → Shared → Prop} (hfit : ¬ (x.length : Int) ≥ 2 ^ 63)
    (h : Q₁ (.ref s.heap.objs.size) { s with heap := s.heap.push (rsObj x t ((x.length : Int) - 1)), toks := s.toks + 1 + 1 }) :
    codeAny (model prog w) A (.call (.builtin "reversed.__new__") ⟨[.type "reversed", .str x t], []⟩) (wants Q₁ E) s := by
  have hT : s.TypeIs (.str x t) "str" := typeIs_str _ _ _
  refine codeAny_of_tree ?_
  show wpAny _ A.in1 (do checkBuiltinCall "reversed.__new__" ⟨[.type "reversed", .str x t], []⟩; again (.builtin "reversed.__new__" ⟨[.type "reversed", .str x t], []⟩)) _ _ s
  refine wpAny_bind (wpAny_of_eq (F.newCall_reversed_1 _) (wpAny_pure ⟨plainId_quiet F.plain_reversed_new _, codeAny_builtin F.entry_reversed_new ?_⟩))
  rw [Around.under_plainId F.plain_reversed_new _]
  unfold Builtin.«reversed.__new__»
  refine wpAny_bind (wpAny_of_eq (newClass_reversed _) ?_)
  try dsimp only
  refine wpAny_bind (wpAny_of_eq (a := ()) (by first | rfl | kernel_rfl) ?_)
  try dsimp only
  refine wpAny_bind (wpAny_of_eq (a := ()) (by first | rfl | kernel_rfl) ?_)
  try dsimp only
  refine wpAny_bind (wpAny_specialOf hT norev_str ?_)
  try dsimp only
  refine wpAny_bind ?_
  wp_delta
  refine wpAny_bind (wpAny_isInstance (T := "str") (U := "dict") (b := false) hT sub_str_dict ?_)
  try dsimp only
  try rw [if_neg Bool.false_ne_true]
  try dsimp only
  refine wpAny_bind (wpAny_specialOf hT F.slot_str_getitem.lookup ?_)
  try dsimp only
  try rw [if_pos (by decide +kernel)]
  refine wpAny_pure ?_
  try dsimp only
  try rw [if_neg (by decide)]
  try dsimp only
  refine wpAny_bind (PyProof.Rows.len_str hfit ?_)
  refine wpAny_bind (wpAny_of_eq (a := some ((x.length : Nat) : Int)) rfl ?_)
  try dsimp only
  refine wpAny_bind ?_
  show wpAny _ _ (newObj (.type "reversed") (.fields #[.str x t, rawInt ((x.length : Int) - 1)])) _ _ _
  refine wpAny_newObj_type ?_
  exact wpAny_pure h
theorem call_reversed_str {x : Str} {t : Tok} {Q : Value → Shared → Prop} (hfit : ¬ (x.length : Int) ≥ 2 ^ 63)
    (h : Q (.ref s.heap.objs.size) { s with heap := s.heap.push (rsObj x t ((x.length : Int) - 1)), toks := s.toks + 1 + 1 }) : wpAny (model prog w) A (call (.type "reversed") [.str x t]) Q E s := by
  refine callType_codes (Q₁ := fun obj s₁ => s₁.TypeIs obj "reversed" ∧ Q obj s₁) RT.called_rt (F.typeCall_reversed_1 _) F.entry_object_init
    (code_reversed_str (A := A.in1) hfit ⟨⟨_, Heap.get?_push_size _ rfl, rfl⟩, h⟩) fun obj s₁ h₁ => ?_
  exact ⟨h₁.1, F.args_object_init_2 obj _, object_init_meets RT.called_rt.init.lookup RT.called_rt.made (by decide) prog w A.in1 _ s₁ ⟨h₁.1, rfl, h₁.2⟩⟩
set_option maxHeartbeats 1000000 in
theorem next_rs_item {it : Addr} {x : Str} {t : Tok} {i : Nat} {c : Nat} {Q : Option Value → Shared → Prop} (hit : IsRs s.heap it x t (i : Int)) (hx : x.cps[i]? = some c) (hsz : x.length ≤ sizeLine)
    (hQ : ∀ h' tk, IsRs h' it x t ((i : Int) - 1) → Heap.SameBut it s.heap h' → Q (some (.str ⟨#[c]⟩ (s.toks + 1))) { s with heap := h', toks := tk }) : wpAny (model prog w) A (pyNext (.ref it)) Q E s := by
  obtain ⟨o, ho, hc, hd⟩ := id hit
  have hi : i < x.cps.size := (Array.getElem?_eq_some_iff.mp hx).1
  have hT : s.TypeIs (.str x t) "str" := typeIs_str _ _ _
  rw [sizeLine_eq] at hsz
  have hsz' : x.cps.size ≤ 2 ^ 62 := by
    have : x.length = x.cps.size := rfl
    omega
  unfold pyNext
  refine wpAny_bind (wpAny_attempt (wpAny_callSpecial?_slot (name := Str.ofString "__next__") hit.typeIs RT.slot_rt_next
    (wpAny_call_entry RT.slot_rt_next hit.typeIs RT.entry_rt_next ?_ (RT.args_rt_next _))))
  unfold Builtin.«reversed.__next__»
  refine wpAny_bind (wpAny_of_eq (a := (Value.ref it, [])) rfl ?_)
  try dsimp only
  refine wpAny_bind (wpAny_field ho hd (x := .str x t) rfl ?_)
  try dsimp only
  refine wpAny_bind (wpAny_field ho hd (x := rawInt (i : Int)) rfl ?_)
  show wpAny _ _ (if (i : Int) < 0 then _ else _) _ _ s
  rw [if_neg (by omega)]
  try dsimp only
  refine wpAny_bind (wpAny_specialOf hT F.slot_str_getitem.lookup ?_)
  try dsimp only
  try rw [if_neg (by decide)]
  try dsimp only
  refine wpAny_bind (wpAny_mkInt ?_)
  refine wpAny_bind (wpAny_attempt ?_)
  have fin : seqIndex? (i : Int) x.cps.size = some i := seqIndex_of (by omega) (by omega)
  refine PyProof.Rows.getItem_str (s := { s with toks := s.toks + 1 }) (c := c) (by rw [Bool.or_eq_false_iff]; exact ⟨decide_eq_false (by omega), decide_eq_false (by omega)⟩)
    (by show (seqIndex? (i : Int) x.cps.size).bind _ = _; rw [fin]; exact hx) ?_
  try dsimp only
  refine wpAny_bind (wpAny_field (s := { s with toks := s.toks + 1 + 1 }) ho hd (x := rawInt (i : Int)) rfl ?_)
  try dsimp only
  refine wpAny_bind (wpAny_setField (s := { s with toks := s.toks + 1 + 1 }) ho hd (by simp) ?_)
  first
  | refine wpAny_pure ⟨_, rfl, wpAny_pure (hQ _ _ ?_ (Heap.SameBut.update ..))⟩
  | refine wpAny_bind (wpAny_pure (wpAny_pure ⟨_, rfl, wpAny_pure (hQ _ _ ?_ (Heap.SameBut.update ..))⟩))
  exact ⟨_, Heap.get?_update_self _ ho (Obj.isFreed_of_fields (Obj.data_mapFields hd _)), (Obj.cls_mapFields ..).trans hc, by
    rw [Obj.data_mapFields hd]; simp⟩
set_option maxHeartbeats 1000000 in
theorem next_rs_end {it : Addr} {x : Str} {t : Tok} {Q : Option Value → Shared → Prop} (hh : A.handled = none) (hit : IsRs s.heap it x t (-1))
    (hQ : ∀ h', Heap.ExtBut it s.heap h' → Q none { s with heap := h' }) : wpAny (model prog w) A (pyNext (.ref it)) Q E s := by
  obtain ⟨o, ho, hc, hd⟩ := id hit
  unfold pyNext
  refine wpAny_bind (wpAny_attempt (wpAny_callSpecial?_slot (name := Str.ofString "__next__") hit.typeIs RT.slot_rt_next
    (wpAny_call_entry RT.slot_rt_next hit.typeIs RT.entry_rt_next ?_ (RT.args_rt_next _))))
  unfold Builtin.«reversed.__next__»
  refine wpAny_bind (wpAny_of_eq (a := (Value.ref it, [])) rfl ?_)
  try dsimp only
  refine wpAny_bind (wpAny_field ho hd (x := .str x t) rfl ?_)
  try dsimp only
  refine wpAny_bind (wpAny_field ho hd (x := rawInt (-1)) rfl ?_)
  show wpAny _ _ (if (-1 : Int) < 0 then _ else _) _ _ s
  rw [if_pos (by decide)]
  try dsimp only
  refine wpAny_bind (wpAny_rule ?_)
  refine wpAny_bind ?_
  wp_delta
  refine wpAny_bind (wpAny_setField ho hd (by simp) ?_)
  have ho2 := Heap.get?_update_self (Obj.mapFields (·.setIfInBounds 1 (rawInt (-1)))) ho (Obj.isFreed_of_fields (Obj.data_mapFields hd _))
  refine wpAny_setField (s := { s with heap := s.heap.update it (Obj.mapFields (·.setIfInBounds 1 (rawInt (-1)))) }) ho2 (Obj.data_mapFields hd _) (by simp) ?_
  try dsimp only
  first
  | show wpAny _ _ (newExc (.type "StopIteration") [] >>= _) _ _ _
  | (refine wpAny_bind ?_; show wpAny _ _ (newExc (.type "StopIteration") [] >>= _) _ _ _)
  | (refine wpAny_bind ?_; wp_delta; show wpAny _ _ (newExc (.type "StopIteration") [] >>= _) _ _ _)
  refine wpAny_bind ?_
  simp only [newExc, newTuple]
  refine wpAny_bind (wpAny_newObj_type ?_ (by size_fits))
  refine wpAny_bind (m := firstArgMember _ _) (wpAny_of_eq (a := Value.none) (by first | rfl | (simp only [firstArgMember]; rfl)) ?_)
  refine wpAny_newObj_type ?_ (by size_fits)
  simp only [raiseNew]
  refine wpAny_bind (wpAny_handled ?_)
  first | rw [show A.in1.handled = none from hh] | rw [hh]
  refine wpAny_bind (wpAny_pure (wpAny_throw ?_))
  refine wpAny_bind (wpAny_isInstance (T := "StopIteration") (b := true) ⟨_, Heap.get?_push_size _ rfl, rfl⟩ isSubtype_stop ?_)
  refine wpAny_pure (hQ _ ?_)
  refine ((?_ : Heap.ExtBut it s.heap _).push _).push _
  exact fun b ob hb e => (Heap.get?_update_other _ _ (Ne.symm hb)).trans ((Heap.get?_update_other _ _ (Ne.symm hb)).trans e)
theorem iter_rs {it : Addr} {x : Str} {t : Tok} {i : Int} {Q : Value → Shared → Prop} (hit : IsRs s.heap it x t i) (h : Q (.ref it) s) : wpAny (model prog w) A (pyIter (.ref it)) Q E s := by
  refine wpAny_pyIter_slot hit.typeIs RT.slot_rt_iter (wpAny_call_entry RT.slot_rt_iter hit.typeIs RT.entry_rt_iter ?_ (RT.args_rt_iter _))
  show wpAny _ _ (ret (.ref it)) _ _ s
  exact wpAny_pure ⟨_, rfl, "reversed", _, hit.typeIs, RT.slot_rt_next.lookup, h⟩
end
/-- the signs of a text, from the last on -/
def ItvS (x : Str) : L2.It := ⟨fun i _ => i < x.cps.size, fun i H v H' => H' = H ∧ ∃ c, x.cps[x.cps.size - 1 - i]? = some c ∧ v = .str ⟨#[c]⟩, fun i _ => x.cps.size ≤ i⟩
theorem turn_rs {P : Program} {w : World} {K : PySem.W.Frag} {tg : Expr} (it : Addr) (x : Str) (t : Tok) (hz : x.length ≤ sizeLine) : Turn P w K tg (ItvS x) [it] it (fun i h => i ≤ x.cps.size ∧ IsRs h it x t ((x.cps.size : Int) - 1 - (i : Nat))) where
  mem := by simp
  obj := fun i h st b hb => by
    have e : b = it := by simpa using hb
    subst e
    obtain ⟨_, o, e, c, d⟩ := st
    exact ⟨o, e, fun v z => by rw [d] at z; cases z⟩
  keep := fun i h h' st k => ⟨st.1, st.2.at fun o e => k it (by simp) o e⟩
  item := by
    intro X hP hw hK hc i pins s σ H E I hf st hg
    subst hP hw hK
    have hin : i < x.cps.size := hg
    obtain ⟨f0, f1, f2, f3, f4, f5⟩ := hf it (by simp)
    obtain ⟨_, hit⟩ := st
    have e1 : (x.cps.size : Int) - 1 - ((i : Nat) : Int) = ((x.cps.size - 1 - i : Nat) : Int) := by omega
    rw [e1] at hit
    have hlt : x.cps.size - 1 - i < x.cps.size := by omega
    refine next_rs_item hit (c := x.cps[x.cps.size - 1 - i]) (Array.getElem?_eq_getElem hlt) hz fun h' tk st' sb => ?_
    have e2 : ((x.cps.size - 1 - i : Nat) : Int) - 1 = (x.cps.size : Int) - 1 - ((i + 1 : Nat) : Int) := by omega
    rw [e2] at st'
    have I1 : Inv X pins σ H { s with heap := h', toks := tk } := I.turned (t' := tk) (fun b o hb e => (sb.2 b hb).trans e) f0 f1 f3 f4 f5
    obtain ⟨o, e, c, d⟩ := id st'
    exact ⟨_, rfl, go_of (s := { s with heap := h', toks := tk }) e c d (by decide) ⟨.str ⟨#[x.cps[x.cps.size - 1 - i]]⟩, H, I1, ⟨_, rfl⟩, ⟨rfl, _, Array.getElem?_eq_getElem hlt, rfl⟩, ⟨hin, st'⟩, fun b hb => (hf b hb).1⟩⟩
  done := by
    intro X hP hw hK hc i pins s σ H E I hf st hg
    subst hP hw hK
    obtain ⟨f0, f1, f2, f3, f4, f5⟩ := hf it (by simp)
    obtain ⟨hin, hit⟩ := st
    have hge : x.cps.size ≤ i := hg
    have e1 : (x.cps.size : Int) - 1 - ((i : Nat) : Int) = -1 := by omega
    rw [e1] at hit
    exact next_rs_end (I.ok.hd hc) hit fun h' eb => ⟨rfl, I.turned (t' := s.toks) (fun b o hb e => eb b o hb e) f0 f1 f3 f4 f5⟩
  self := fun A i s Q E st h => iter_rs st.2 h
/-- reversed(x), x a list, a tuple or a text -/
def iRevB (K : PySem.W.Frag) (te : TE) : TI := fun σ H R => te σ H fun v H1 => (∃ (a : Addr) (xs : List V), v = .ref a ∧ ((SqL K H1 a xs ∧ R (Itv K a xs.length) H1) ∨ (SqT K H1 a xs ∧ R (RT.ItvT K a xs.length) H1))) ∨ ∃ y, v = .str y ∧ y.length ≤ sizeLine ∧ R (ItvS y) H1
theorem pi_revB {X : Cx} {tg : Expr} {e : Expr} {te : TE} {p pos : Pos} (hg : Gl X "reversed") (hm : X.mg "reversed" = none) (he : PE X e te) (hs : starEach [e] X.env = (false, eval e X.env) :: starEach [] X.env := by rfl) : PI X tg (.Call (.Name "reversed" p) [e] [] pos) (iRevB X.K te) := by
  refine ⟨fun pins s σ H R I h => ?_⟩
  refine Call_ (ld_blt I hg hm PyProof.Rows.boot_reversed (PyProof.Rows.callWith_type1 (args_cons (thn (he.run pins s σ H _ I h) fun u s1 ⟨v, H1, I1, r1, q1⟩ => args_nil ?_) hs) hs rfl))
  rcases q1 with ⟨a, xs, ev, q⟩ | ⟨y, rfl, hz, q⟩
  · subst ev
    obtain rfl : u = Value.ref a := r1
    rcases q with ⟨hq, q⟩ | ⟨hq, q⟩
    · obtain ⟨its, rv, p', hz⟩ := I1.list hq
      have hl := rv.length
      have e1 : ((its.toArray.size : Nat) : Int) - 1 = (xs.length : Int) - 1 - ((0 : Nat) : Int) := by simp only [List.size_toArray]; omega
      refine call_reversed_list p'.isList (wpAny_pyIter_revIter (l := a) (i := ((its.toArray.size : Nat) : Int) - 1) ⟨_, Heap.get?_push_size _ rfl, rfl, rfl⟩ ?_)
      refine pi_one (tk := s1.toks) I1 _ (turn_rev a _ xs.length) ⟨Nat.zero_le _, ?_⟩ q
      rw [← e1]
      exact ⟨_, Heap.get?_push_size _ rfl, rfl, rfl⟩
    · obtain ⟨its, rv, p', hz⟩ := I1.tuple hq
      have hl := rv.length
      have hn := line63
      have e1 : ((its.toArray.size : Nat) : Int) - 1 = (xs.length : Int) - 1 - ((0 : Nat) : Int) := by simp only [List.size_toArray]; omega
      refine RT.call_reversed_tup p' (fun A E Q k => len_tuple p' (by simp only [List.size_toArray] <;> omega) k) (RT.iter_rt (t := a) (i := ((its.toArray.size : Nat) : Int) - 1) ⟨_, Heap.get?_push_size _ rfl, rfl, rfl⟩ ?_)
      refine pi_one (tk := s1.toks + 1 + 1) I1 _ (RT.turn_rt a _ xs.length) ⟨Nat.zero_le _, ?_⟩ q
      rw [← e1]
      exact ⟨_, Heap.get?_push_size _ rfl, rfl, rfl⟩
  · obtain ⟨t, rfl⟩ := r1
    have hn := line63
    have e1 : ((y.length : Nat) : Int) - 1 = (y.cps.size : Int) - 1 - ((0 : Nat) : Int) := by show ((y.cps.size : Nat) : Int) - 1 = _; omega
    refine call_reversed_str (by omega) (iter_rs (x := y) (t := t) (i := ((y.length : Nat) : Int) - 1) ⟨_, Heap.get?_push_size _ rfl, rfl, rfl⟩ ?_)
    refine pi_one (tk := s1.toks + 1 + 1) I1 _ (turn_rs _ y t hz) ⟨Nat.zero_le _, ?_⟩ q
    rw [← e1]
    exact ⟨_, Heap.get?_push_size _ rfl, rfl, rfl⟩
noncomputable section
theorem jok_revS {K : PySem.W.Frag} {ρ : List Addr} {H : Hp} {s : List Nat} : JOk K ρ H ⟨(strW s).reverse, fun _ => True⟩ (ItvS ⟨s.toArray⟩) := by
  intro i ρ' fm st σ H' hp hk R _
  have hl : (strW s).length = s.length := by simp [strW]
  refine ⟨fun w hw => ?_, fun e => by show s.toArray.size ≤ i; dsimp only at e; rw [List.length_reverse, hl] at e; simp; omega⟩
  dsimp only at hw
  have hi : i < (strW s).length := by simpa using (List.getElem?_eq_some_iff.mp hw).1
  rw [List.getElem?_reverse hi, hl] at hw
  refine ⟨by show i < s.toArray.size; simp; omega, fun x H2 ⟨e1, c, hc, e2⟩ => ?_⟩
  subst e1; subst e2
  refine ⟨fun _ _ h => h, Kp.refl, ?_⟩
  simp only [strW, List.getElem?_map, Option.map_eq_some_iff] at hw
  obtain ⟨c', hc', rfl⟩ := hw
  have : c' = c := by
    have h2 : s[s.length - 1 - i]? = some c := by simpa using hc
    rw [h2] at hc'; cases hc'; rfl
  subst this
  simp only [RepV]
end
noncomputable def revOfA (w : Va) (st : Sto) : Option Src := match w with
  | .tup ws => some ⟨ws.reverse, fun _ => True⟩
  | .ref n => match st[n]? with
    | some (.lst ws) => some ⟨ws.reverse, fun st => st[n]? = some (.lst ws)⟩
    | _ => none
  | .str s => @ite _ (s.length ≤ 1000000) (Classical.propDecidable _) (some ⟨(strW s).reverse, fun _ => True⟩) none
  | _ => none
noncomputable section
def iRvA (f : Ev) : Fi := fun fm st => (f fm st).bind fun p => (revOfA p.1 p.2).map fun S => (S, p.2)
theorem di_revA {X : Cx} {tg e : Expr} {f : Ev} {p pos : Pos} (hg : Gl X "reversed") (hm : X.mg "reversed" = none) (he : DE X e f) (hs : starEach [e] X.env = (false, eval e X.env) :: starEach [] X.env := by rfl) : DI X tg (.Call (.Name "reversed" p) [e] [] pos) (iRvA f) := PIi (pi_revB hg hm he hs) fun σ H R h => by
  obtain ⟨ρ, fm, st, S, st', Rr, e, T⟩ := h
  simp only [iRvA, Option.bind_eq_some_iff, Option.map_eq_some_iff] at e
  obtain ⟨⟨w, s1⟩, e1, S', e2, e3⟩ := e
  cases e3
  dsimp only at e2 T
  refine ⟨ρ, fm, st, w, s1, Rr, e1, fun ρ1 H1 p1 k1 R1 x rx => ?_⟩
  unfold revOfA at e2
  split at e2
  · cases e2
    simp only [RepV] at rx
    obtain ⟨a, vs, rfl, h1, r1⟩ := rx
    refine .inl ⟨a, vs, rfl, .inr ⟨SqT.of h1, ?_⟩⟩
    rw [← r1.length]
    exact T ρ1 H1 p1 k1 R1 _ (jok_revT (.inl h1) r1)
  · split at e2
    · rename_i hn
      cases e2
      obtain ⟨a, vs, rfl, ea, g1, r1⟩ := lst_of R1 rx hn
      refine .inl ⟨a, vs, rfl, .inl ⟨SqL.of g1, ?_⟩⟩
      rw [← r1.length]
      exact T ρ1 H1 p1 k1 R1 _ (jok_rev ea)
    · cases e2
  · rename_i s
    by_cases hs : s.length ≤ 1000000
    · rw [if_pos hs] at e2
      cases e2
      simp only [RepV] at rx
      subst rx
      refine .inr ⟨_, rfl, ?_, T ρ1 H1 p1 k1 R1 _ jok_revS⟩
      have h1 : (⟨s.toArray⟩ : Str).length = s.length := by show s.toArray.size = _; simp
      rw [h1, sizeLine_eq]
      omega
    · rw [if_neg hs] at e2; cases e2
  · cases e2
end
end T3
/-! T3: t[::-1], t a tuple -/
namespace T3
open PySem PySem.Spec PyProof.Rows L2 HT
open Sem (wp)
open AutoSeq1 (wpAny_loadPart')
theorem fm_congr {α β : Type} {f g : α → Option β} : ∀ {l : List α}, (∀ x ∈ l, f x = g x) → l.filterMap f = l.filterMap g
  | [], _ => rfl
  | x :: l, h => by
    rw [List.filterMap_cons, List.filterMap_cons, h x (by simp), fm_congr fun y hy => h y (List.mem_cons_of_mem _ hy)]
theorem rev_pick (xs : Array Value) : ((List.range xs.size).filterMap fun (k : Nat) => xs[(((xs.size : Int) - 1) + (k : Int) * (-1)).toNat]?).toArray = xs.toList.reverse.toArray := by
  congr 1
  have key : ∀ l : List Value, ((List.range l.length).filterMap fun (k : Nat) => l[(((l.length : Int) - 1) + (k : Int) * (-1)).toNat]?) = l.reverse := by
    intro l
    have e : ((List.range l.length).filterMap fun (k : Nat) => l[(((l.length : Int) - 1) + (k : Int) * (-1)).toNat]?) = (List.range l.length).filterMap fun k => l.reverse[k]? := by
      apply fm_congr
      intro k hk
      have hk' : k < l.length := List.mem_range.mp hk
      rw [List.getElem?_reverse hk']
      congr 1
      omega
    rw [e]
    have : ∀ m : List Value, (List.range m.length).filterMap (fun k => m[k]?) = m := by
      intro m
      apply List.ext_getElem?
      intro i
      have h2 : (List.range m.length).filterMap (fun k => m[k]?) = (List.range m.length).map fun k => m.getD k .none := by
        rw [← List.filterMap_eq_map]
        apply fm_congr
        intro k hk
        have hk' : k < m.length := List.mem_range.mp hk
        simp [List.getD, hk']
      rw [h2, List.getElem?_map]
      by_cases hi : i < m.length
      · rw [List.getElem?_range hi, List.getElem?_eq_getElem hi]; simp [List.getD, hi]
      · rw [List.getElem?_eq_none (by simp; omega), List.getElem?_eq_none (by omega)]; rfl
    have h3 := this l.reverse
    rwa [List.length_reverse] at h3
  have := key xs.toList
  simpa using this
section
variable {prog : Program} {w : World} {A : Around} {E : Value → Shared → Prop} {s : Shared}
theorem sliceApplied_rev {sl : Addr} {vl vu vs : Value} {n : Nat} {Q : Int × Int × Nat → Shared → Prop} (hs : s.heap.IsSliceOf sl vl vu vs) (pl : IsPart vl none) (pu : IsPart vu none) (ps : IsPart vs (some (-1)))
    (h : Q ((n : Int) - 1, -1, n) s) : wpAny (model prog w) A (Builtin.Slice.sliceApplied (.ref sl) (pure (n : Int))) Q E s := by
  obtain ⟨os, hos, hcs, hds⟩ := id hs
  unfold Builtin.Slice.sliceApplied Builtin.Slice.sliceFields
  refine wpAny_bind (wpAny_bind (wpAny_field hos hds (x := vl) rfl (wpAny_bind (wpAny_field hos hds (x := vu) rfl (wpAny_bind (wpAny_field hos hds (x := vs) rfl (wpAny_pure ?_)))))))
  refine wpAny_bind (slicePart_ ps ?_)
  show wpAny _ _ (if ((-1 : Int) == 0) = true then _ else _) _ _ s
  rw [if_neg (by decide)]
  refine wpAny_bind (slicePart_ pl (wpAny_bind (slicePart_ pu (wpAny_bind (wpAny_pure ?_)))))
  show wpAny _ _ (match Builtin.Slice.sliceAdjust none none (-1) (n : Int) with | (lo, hi) => pure (lo, (-1 : Int), Builtin.Slice.slicePlaces lo hi (-1))) _ _ s
  have e1 : Builtin.Slice.sliceAdjust none none (-1) (n : Int) = ((n : Int) - 1, -1) := by
    unfold Builtin.Slice.sliceAdjust; simp
  rw [e1]
  show wpAny _ _ (pure ((n : Int) - 1, (-1 : Int), Builtin.Slice.slicePlaces ((n : Int) - 1) (-1) (-1))) _ _ s
  have e2 : Builtin.Slice.slicePlaces ((n : Int) - 1) (-1) (-1) = n := by
    unfold Builtin.Slice.slicePlaces
    rw [if_neg (by decide)]
    by_cases h0 : (n : Int) - 1 > -1
    · rw [if_pos h0, show -(-1 : Int) = 1 from rfl, Int.ediv_one]; omega
    · rw [if_neg h0]; omega
  rw [e2]
  exact wpAny_pure h
theorem getItem_tuple_rev {t sl : Addr} {items : Array Value} {vl vu vs : Value} {Q : Value → Shared → Prop} (ht : IsTup s.heap t items) (hs : s.heap.IsSliceOf sl vl vu vs) (pl : IsPart vl none) (pu : IsPart vu none) (ps : IsPart vs (some (-1)))
    (h : Q (.ref s.heap.objs.size) { s with heap := s.heap.push { cls := .type "tuple", data := .seq items.toList.reverse.toArray } })
    (hsz : items.size ≤ sizeLine) : wpAny (model prog w) A (getItem (.ref t) (.ref sl)) Q E s := by
  have htake : sizeOk (.seq items.toList.reverse.toArray) := by
    show items.toList.reverse.toArray.size ≤ sizeLine
    rw [List.size_toArray, List.length_reverse, Array.length_toList]
    exact hsz
  obtain ⟨os, hos, hcs, hds⟩ := id hs
  have hTs : s.TypeIs (.ref sl) "slice" := ⟨os, hos, hcs⟩
  unfold getItem
  try with_reducible refine wpAny_holding ?_
  first | refine wpAny_bind (wpAny_pure ?_) | skip
  refine wpAny_bind (wpAny_sequenceKey ht.typeIs (by decide) ?_)
  refine wpAny_bind (wpAny_callSpecial?_slot (name := Str.ofString "__getitem__") ht.typeIs PyProof.Rows.slot_tuple_getitem
    (wpAny_call_entry PyProof.Rows.slot_tuple_getitem ht.typeIs entry_tuple_getitem ?_ (args_tuple_getitem _ _)))
  show wpAny _ _ (Builtin.Tuple.tupleItemsOf (.ref t) >>= _) _ _ s
  refine wpAny_bind (tupleItemsOf_ ht ?_)
  refine wpAny_bind (wpAny_typeOf hTs ?_)
  rw [if_pos (by decide)]
  refine wpAny_bind (sliceApplied_rev hs pl pu ps ?_)
  have hno : ¬ ((((items.size : Int) - 1) == 0 && (-1 : Int) == 1 && items.size == items.size) = true) := by
    rw [show ((-1 : Int) == 1) = false from by decide, Bool.and_false, Bool.false_and]
    exact Bool.false_ne_true
  show wpAny _ _ (if (((items.size : Int) - 1) == 0 && (-1 : Int) == 1 && items.size == items.size) = true then _ else _) _ _ s
  rw [if_neg hno, rev_pick]
  first
    | exact wpAny_bind (m := Builtin.Tuple.tupleExact _) (wpAny_newObj_type (wpAny_pure ⟨_, rfl, wpAny_pure h⟩) htake)
    | exact wpAny_bind (m := Builtin.Tuple.tupleExact _) (wpAny_newObj_type (wpAny_bind (wpAny_pure (wpAny_pure ⟨_, rfl, wpAny_pure h⟩))) htake)
    | exact wpAny_bind (wpAny_bind (m := Builtin.Tuple.tupleExact _) (wpAny_newObj_type (wpAny_pure (wpAny_pure ⟨_, rfl, wpAny_pure h⟩)) htake))
    | exact wpAny_bind (wpAny_bind (m := Builtin.Tuple.tupleExact _) (wpAny_newObj_type (wpAny_pure ⟨_, rfl, wpAny_pure h⟩) htake))
end
def tRevT (K : PySem.W.Frag) (te : TE) : TE := fun σ H Q => te σ H fun x H1 => ∃ a xs, x = .ref a ∧ SqT K H1 a xs ∧ ∀ p, H1 p = none → Q (.ref p) (upd H1 p (.tup xs.reverse))
theorem pe_revT {X : Cx} {e : Expr} {te : TE} {k : Nat} {p1 p2 p3 pos : Pos} (he : PE X e te) : PE X (.Subscript e (.Slice none none (some (.UnaryOp .USub (.Constant (.int 1) k p1) p2)) p3) pos) (tRevT X.K te) := by
  refine ⟨fun pins s σ H Q I h => ?_⟩
  refine Subscript_ (thn (he.run pins s σ H _ I h) fun v s1 ⟨x, H1, I1, r1, q1⟩ => ?_)
  obtain ⟨a, xs, ex, hx, q⟩ := q1
  subst ex
  cases r1
  have hst : PO X (some (.UnaryOp .USub (.Constant (.int 1) k p1) p2)) (tPart (tUn (rU fun i => .int (-i)) (tC (.int 1)))) := po_some (pe_un un_neg pe_int)
  refine wpAny_Slice (thn (po_none.run pins s1 σ H1 (fun o H2 => o = none ∧ H2 = H1) I1 ⟨rfl, rfl⟩) fun vl s2 ⟨l, H2, I2, pl, el, e2⟩ => ?_)
  subst el e2
  refine thn (po_none.run pins s2 σ H2 (fun o H3 => o = none ∧ H3 = H2) I2 ⟨rfl, rfl⟩) fun vu s3 ⟨u, H3, I3, pu, eu, e3⟩ => ?_
  subst eu e3
  refine thn (hst.run pins s3 σ H3 (fun o H4 => o = some (-1) ∧ H4 = H3) I3 ⟨1, rfl, -1, rfl, rfl, rfl⟩) fun vs s4 ⟨o, H4, I4, ps, eo, e4⟩ => ?_
  subst eo e4
  have I5 : Inv X pins σ H4 { s4 with heap := s4.heap.push { cls := .type "slice", data := .fields #[vl, vu, vs] } } := I4.kept (t' := s4.toks) fun b ob q => Heap.get?_push_of_some _ q
  obtain ⟨its, r, ht, hz⟩ := I5.tuple hx
  have hlen := r.length
  show wpAny (model X.prog X.w) X.A (subscriptTail e (.Slice none none (some (.UnaryOp .USub (.Constant (.int 1) k p1) p2)) p3) (.ref a) (.ref s4.heap.objs.size)) (EP X pins σ Q) X.xe { s4 with heap := s4.heap.push { cls := .type "slice", data := .fields #[vl, vu, vs] } }
  refine tail_any (ops := [.ref a, .ref s4.heap.objs.size]) ht.typeIs (PyProof.Rows.slot_tuple_getitem.lookup) ?_ (by with_unfolding_all rfl)
  refine getItem_tuple_rev ht (Heap.IsSliceOf.new _ vl vu vs) pl pu ps ?_ (by rw [List.size_toArray]; omega)
  refine ⟨.ref _, _, I5.laid (t' := s4.toks) (o := .tup xs.reverse) (fun b ob q => Heap.get?_push_of_some _ q) (Nat.le_refl _) ?_, rfl, q _ (I5.hok.fresh (Nat.le_refl _))⟩
  refine ⟨by rw [List.length_reverse]; exact hz, its.reverse, r.reverse, ?_⟩
  exact IsTup.new _ _
noncomputable section
def gRevT (w : Va) (st : Sto) : Option (Va × Sto) := match w with
  | .tup ws => some (.tup ws.reverse, st)
  | _ => none
theorem de_revT {X : Cx} {e : Expr} {f : Ev} {k : Nat} {p1 p2 p3 pos : Pos} (he : DE X e f) : DE X (.Subscript e (.Slice none none (some (.UnaryOp .USub (.Constant (.int 1) k p1) p2)) p3) pos) (eU gRevT f) := PEi (pe_revT he) fun σ H Q h => by
  obtain ⟨ρ, fm, st, w, st', R, e, T⟩ := h
  simp only [eU, Option.bind_eq_some_iff] at e
  obtain ⟨⟨x, s1⟩, e1, e2⟩ := e
  dsimp only at e2
  unfold gRevT at e2
  split at e2
  · rename_i ws
    cases e2
    refine ⟨ρ, fm, st, _, _, R, e1, fun ρ1 H1 p1 k1 R1 v rv => ?_⟩
    obtain ⟨a, vs, rfl, h1, r1⟩ := tup_of rv
    refine ⟨a, vs, rfl, h1, fun p hp => ?_⟩
    refine (T.then p1 k1).tup R1 hp _ ?_
    simp only [RepV]
    exact ⟨p, _, rfl, upd_same, RepL.mono (List.prefix_refl _) (Kp.new hp) _ _ r1.reverse⟩
  · cases e2
end
end T3
/-! T3: x in t, t a tuple of data -/
namespace T3
open PySem PySem.Spec PyProof.Rows L2
def rInT (K : PySem.W.Frag) (g : Bool → Bool) : R2 := fun x y H Q => ∃ d ds, Dp K H x d ∧ Dp K H y (.tuple ds) ∧ SeqAt.shaped d = true ∧ SeqAt.shaped (.tuple ds) = true ∧ Q (.bl (g (ds.any fun z => PyData.eqv z d))) H
theorem room_t {units : Nat} {ds : List PyData} {d : PyData} (sd : SeqAt.shaped d = true) (hu : units + 65 < cLine) : units + 1 + min (PyData.depthAll ds) d.depth < cLine := by
  have : d.depth ≤ 64 := by
    have h : (d.canLay0 && decide (d.depth ≤ 64)) = true := sd
    rw [Bool.and_eq_true] at h
    exact of_decide_eq_true h.2
  omega
section
variable {X : Cx} {a b : Expr} {f1 f2 : Ev} {pos : Pos}
theorem op_inT (hu : X.A.units + 65 < cLine) : OpR X (compareOp .In) (rInT X.K id) := by
  intro pins s σ H x y v u Q I rx ry h
  obtain ⟨d, ds, hd, he, sd, se, q⟩ := h
  obtain ⟨as, r1⟩ := Dp.reads I d x v hd rx
  obtain ⟨bs, r2⟩ := Dp.reads I (.tuple ds) y u he ry
  have hl : PyData.canLayAll0 ds = true := by have := SeqAt.canLay_of_shaped se; simpa [PyData.canLay0] using this
  exact SeqAt.in_tuple_reads r2 r1 hl (SeqAt.canLay_of_shaped sd) (room_t sd hu) ⟨.bl _, H, I, rfl, q⟩
theorem op_notInT (hu : X.A.units + 65 < cLine) : OpR X (compareOp .NotIn) (rInT X.K fun b => !b) := by
  intro pins s σ H x y v u Q I rx ry h
  obtain ⟨d, ds, hd, he, sd, se, q⟩ := h
  obtain ⟨as, r1⟩ := Dp.reads I d x v hd rx
  obtain ⟨bs, r2⟩ := Dp.reads I (.tuple ds) y u he ry
  have hl : PyData.canLayAll0 ds = true := by have := SeqAt.canLay_of_shaped se; simpa [PyData.canLay0] using this
  exact SeqAt.notIn_tuple_reads r2 r1 hl (SeqAt.canLay_of_shaped sd) (room_t sd hu) ⟨.bl _, H, I, rfl, q⟩
noncomputable section
def inT (a b : Va) (st : Sto) : Option Bool := match b with
  | .tup ws => (pyOf a st).bind fun d => (toPyL ws).bind fun ds => if SeqAt.shaped d = true ∧ SeqAt.shaped (.tuple ds) = true then some (ds.any fun z => PyData.eqv z d) else none
  | _ => none
def gInT (a b : Va) (st : Sto) : Option (Va × Sto) := (inT a b st).map fun r => (.bl r, st)
def gNinT (a b : Va) (st : Sto) : Option (Va × Sto) := (inT a b st).map fun r => (.bl (!r), st)
theorem inT_imp (g : Bool → Bool) {σ : L2.St} {H : Hp} {Q : VK}
    (h : tD X.K (eB (fun a b st => (inT a b st).map fun r => (.bl (g r), st)) f1 f2) σ H Q) : tOp (rInT X.K g) (tD X.K f1) (tD X.K f2) σ H Q := by
  obtain ⟨ρ, fm, st, w, st', R, e, T⟩ := h
  simp only [eB, Option.bind_eq_some_iff, Option.map_eq_some_iff] at e
  obtain ⟨⟨x, s1⟩, e1, ⟨y, s2⟩, e2, r, e3, e4⟩ := e
  cases e4
  dsimp only at e2 e3 T
  refine ⟨ρ, fm, st, x, s1, R, e1, fun ρ1 H1 p1 k1 R1 u ru => ⟨ρ1, fm, s1, y, s2, R1, e2, fun ρ2 H2 p2 k2 R2 z rz => ?_⟩⟩
  have T2 := (T.then (List.IsPrefix.trans p1 p2) (k1.trans k2)).same R2 _ repB
  unfold inT at e3
  split at e3
  · rename_i ws
    simp only [Option.bind_eq_some_iff] at e3
    obtain ⟨d, e5, ds, e6, e7⟩ := e3
    split at e7
    · rename_i hz
      cases e7
      obtain ⟨p, vs, rfl, h1, rl⟩ := tup_of rz
      exact ⟨d, ds, pyOf_dp R2 (RepV.mono p2 k2 _ _ ru) e5, .tup h1 (toPyL_dp _ _ _ rl e6), hz.1, hz.2, T2⟩
    · cases e7
  · cases e3
theorem de_inT (hu : X.A.units + 65 < cLine) (ha : DE X a f1) (hb : DE X b f2) (hk : behindInMarks .In b = false := by rfl) : DE X (.Compare a [.In] [b] pos) (eB gInT f1 f2) :=
  PEi (pe_cmpR (op_inT hu) ha hb hk) fun σ H Q h => inT_imp id h
theorem de_ninT (hu : X.A.units + 65 < cLine) (ha : DE X a f1) (hb : DE X b f2) (hk : behindInMarks .NotIn b = false := by rfl) : DE X (.Compare a [.NotIn] [b] pos) (eB gNinT f1 f2) :=
  PEi (pe_cmpR (op_notInT hu) ha hb hk) fun σ H Q h => inT_imp (fun b => !b) h
theorem dt_inT (hu : X.A.units + 65 < cLine) (ha : DE X a f1) (hb : DE X b f2) (hk : behindInMarks .In b = false := by rfl) : DT X (.Compare a [.In] [b] pos) (bB gInT f1 f2) :=
  PTi (pt_cmpR (op_inT hu) ha hb hk) fun σ H Q h => inT_imp id (bB_imp h)
theorem dt_ninT (hu : X.A.units + 65 < cLine) (ha : DE X a f1) (hb : DE X b f2) (hk : behindInMarks .NotIn b = false := by rfl) : DT X (.Compare a [.NotIn] [b] pos) (bB gNinT f1 f2) :=
  PTi (pt_cmpR (op_notInT hu) ha hb hk) fun σ H Q h => inT_imp (fun b => !b) (bB_imp h)
end
end
end T3
/-! T3: set(x) of a list or a tuple of ints; sorted(set(x)) -/
namespace T3
open PySem PySem.Spec PyProof.Rows L2
open Sem (wp)
section
variable {P : Program} {w : World} {A : Around} {E : Value → Shared → Prop} {s : Shared}
/-- the fresh set -/
def sObj (w : World) : Obj := { cls := .type "set", dict := none, data := .set #[] 0 (.fresh 0 0 (!w.params.followText "set-order")) }
/-- what a call of set() with one thing that can be walked leaves behind -/
def SetDone (w : World) (s : Shared) (ns : List Int) (s' : Shared) : Prop := ∃ h' tk c, s' = { s with heap := h', toks := tk } ∧ SetR w h' s.heap.objs.size (fun j => decide (j ∈ ns)) c ∧ c ≤ ns.length ∧ ∀ b o, s.heap.get? b = some o → h'.get? b = some o
/-- what is wanted of the thing -/
structure IntsAt (P : Program) (w : World) (v : Value) (T : String) (oI : Obj) (H : Heap → Prop) (ns : List Int) : Prop where
  beg : Begins v oI H
  ty : ∀ s : Shared, H s.heap → s.TypeIs v T
  noSet : isSubtype (.type T) (.type "set") = pure false
  noFrozen : isSubtype (.type T) (.type "frozenset") = pure false
  noDict : (Value.type T == Value.type "dict") = false
  walk : ∀ (A : Around) (h : Heap) (I : Addr), A.handled = none → H h → h.objs.size ≤ I → ∃ (fp wr : List Addr) (G : Array GenState → Array GenState → Prop) (Pv : Nat → Value → Prop) (St : Nat → Shared → Prop), WalksS P w A I fp wr G ns.length Pv St ∧ (∀ b ∈ fp, b = I ∨ ∃ o, h.get? b = some o) ∧ (∀ b ∈ wr, b = I) ∧
    (∀ i u, Pv i u → ∃ k t, ns[i]? = some k ∧ u = .int k t) ∧ (∀ a b : Array GenState, G a b → b = a) ∧ ∀ s : Shared, H s.heap → s.heap.get? I = some oI → St 0 s
set_option maxHeartbeats 3200000 in
theorem init_set_any {v : Value} {T : String} {oI : Obj} {H : Heap → Prop} {ns : List Int} (V : IntsAt P w v T oI H ns) (hh : A.handled = none) (hH : H s.heap) (hb : ns.length + 1 < scanBound) :
    codeAny (model P w) A (.call (.builtin "set.__init__") ⟨[.ref s.heap.objs.size, v], []⟩) (wants (fun r s₂ => r = .none ∧ SetDone w s ns s₂) E) { s with heap := s.heap.push (sObj w) } := by
  have hS : (s.heap.push (sObj w)).get? s.heap.objs.size = some (sObj w) := Heap.get?_push_size _ rfl
  have hH1 : H (s.heap.push (sObj w)) := V.beg.keeps _ _ hH fun b o e => Heap.get?_push_of_some _ e
  have hT : ({ s with heap := s.heap.push (sObj w) } : Shared).TypeIs (.ref s.heap.objs.size) "set" := ⟨_, hS, rfl⟩
  refine codeAny_call_builtin F.called_set.init.plain F.entry_set_init (check_set_init_1 hT ?_)
  have hTv : ({ s with heap := s.heap.push (sObj w) } : Shared).TypeIs v T := V.ty _ hH1
  have hsls := V.noSet
  have hslf := V.noFrozen
  have hne := V.noDict
  have hS' : (s.heap.push (sObj w)).get? s.heap.objs.size = some { cls := .type "set", dict := none, data := .set #[] 0 (.fresh 0 0 (!w.params.followText "set-order")) } := hS
  unfold Builtin.«set.__init__» noKeywords Builtin.Frozenset.updateFrom
  generalize hPI : pyIter = PI
  wp_walk
  subst hPI
  refine V.beg.iter _ _ _ _ _ _ hH1 ?_
  refine wpAny_bind (wpAny_runValue ?_)
  have hI : (s.heap.push (sObj w)).objs.size = s.heap.objs.size + 1 := Heap.size_push ..
  have hIne : s.heap.objs.size ≠ (s.heap.push (sObj w)).objs.size := by rw [hI]; exact Nat.ne_of_lt (Nat.lt_succ_self _)
  obtain ⟨fp, wr, G, Pv, St, W, hfp, hwr, hval, hG, hst⟩ := V.walk A.in1.in1 s.heap (s.heap.push (sObj w)).objs.size (by simp [hh]) hH (by rw [hI]; exact Nat.le_succ _)
  have hH2 : H ((s.heap.push (sObj w)).push oI) := V.beg.keeps _ _ hH1 fun b o e => Heap.get?_push_of_some _ e
  have h0 : SetR w ((s.heap.push (sObj w)).push oI) s.heap.objs.size (fun j => decide (j ∈ ns.take 0)) 0 := setR_new_at (Heap.get?_push_of_some _ hS')
  refine set_update_ints W s.heap.objs.size ?_ ns rfl hb hval ns.length 0 { s with heap := (s.heap.push (sObj w)).push oI } (by omega) (Nat.zero_le _) (hst _ hH2 (Heap.get?_push_size _ V.beg.free)) ⟨0, Nat.le_refl 0, h0⟩ ?_
  · intro hm
    rcases hfp _ hm with e | ⟨o, e⟩
    · exact hIne e
    · exact absurd (Heap.lt_size e) (Nat.lt_irrefl _)
  · intro s' c' hm hc' hS2
    obtain ⟨h', g2, d', tk', os'⟩ := s'
    have eg : g2 = s.gens := hG _ _ hm.gens
    have ed : d' = s.drawn := hm.drawn
    have eo : os' = s.os := hm.os
    subst eg; subst ed; subst eo
    refine wpAny_pure ?_
    show wpAny _ _ (ret Value.none) _ _ _
    refine wpAny_pure ⟨rfl, h', tk', c', rfl, hS2, hc', fun b o e => ?_⟩
    have hb0 : b < s.heap.objs.size := Heap.lt_size e
    refine hm.heap b o (fun hmem => ?_) (Heap.get?_push_of_some _ (Heap.get?_push_of_some _ e))
    rcases List.mem_cons.mp hmem with z | z
    · exact absurd z (Nat.ne_of_lt hb0)
    · refine absurd (hwr b z) (Nat.ne_of_lt ?_)
      rw [hI]
      exact Nat.lt_succ_of_lt hb0
set_option maxHeartbeats 3200000 in
/-- set(v) -/
theorem call_set_any {v : Value} {T : String} {oI : Obj} {H : Heap → Prop} {ns : List Int} {Q : Value → Shared → Prop} (V : IntsAt P w v T oI H ns) (hh : A.handled = none) (hH : H s.heap) (hb : ns.length + 1 < scanBound)
    (h : ∀ s', SetDone w s ns s' → Q (.ref s.heap.objs.size) s') : wpAny (model P w) A (call (.type "set") [v]) Q E s := by
  have hS : (s.heap.push (sObj w)).get? s.heap.objs.size = some (sObj w) := Heap.get?_push_size _ rfl
  have hT : ({ s with heap := s.heap.push (sObj w) } : Shared).TypeIs (.ref s.heap.objs.size) "set" := ⟨_, hS, rfl⟩
  obtain ⟨c, tl, hmro⟩ := F.called_set.mro
  have hmade := F.called_set.made
  have hsub := F.called_set.sub
  have h1 := F.called_set.notType
  have h2 := F.called_set.canCreate
  have hct := F.typeCall_set_1 v
  refine wpAny_call (codeAny_of_tree ?_)
  show wpAny _ _ (callAny (.type "set") _) _ _ _
  refine wpAny_pure ⟨Code.quiet_builtin _ (by decide +kernel), codeAny_builtin F.entry_type_call ?_⟩
  rw [Around.under_plain (weight_type_call_type "set" [v] []) rfl]
  repeat (any_goals (first | assumption | wp_step))
  refine codeAny_mono (code_set_led1 v (E := E) (Q₁ := fun obj s₁ => obj = .ref s.heap.objs.size ∧ s₁ = { s with heap := s.heap.push (sObj w) }) ⟨rfl, rfl⟩) fun r s₁ hr => ?_
  match r, hr with
  | .error e, hr => exact hr
  | .ok (.ret obj), hr =>
    obtain ⟨rfl, rfl⟩ := hr
    have hli := F.called_set.init.lookup
    have hbi := F.called_set.init.bind (.ref s.heap.objs.size)
    repeat (any_goals (first | assumption | wp_step))
    refine codeAny_mono (init_set_any (A := A.in1) (E := E) V (by simp [hh]) hH hb) fun r₂ s₂ hr₂ => ?_
    match r₂, hr₂ with
    | .error e, hr₂ => exact hr₂
    | .ok (.ret r), hr₂ =>
      obtain ⟨rfl, hd⟩ := hr₂
      repeat (any_goals (first | assumption | wp_step))
      exact h _ hd
end
end T3
/-! T3: sorted(set(x)), len(set(x)), x a list or a tuple of ints -/
namespace T3
open PySem PySem.Spec PyProof.Rows L2
section
variable {P : Program} {w : World}
theorem at_ints {items : Array Value} {ns : List Int} (hit : IntsAre items.toList ns) : ∀ (i : Nat) (v : Value), items[i]? = some v → ∃ k t, ns[i]? = some k ∧ v = .int k t := fun i v hv => by
  have hl := IntsAre.length hit
  rw [Array.length_toList] at hl
  have hi : i < ns.length := by rw [← hl]; exact (Array.getElem?_eq_some_iff.mp hv).1
  obtain ⟨t, e⟩ := PyProof.Rows.IntsAre.int_at hit i v (by rw [Array.getElem?_toList]; exact hv)
  refine ⟨ns[i], t, List.getElem?_eq_getElem hi, ?_⟩
  rw [e, List.getD_eq_getElem?_getD, List.getElem?_eq_getElem hi]; rfl
theorem ints_list {l : Addr} {items : Array Value} {ns : List Int} (hit : IntsAre items.toList ns) : IntsAt P w (.ref l) "list" { cls := .type "list_iterator", data := .fields #[.ref l, .int 0 0] } (fun h => h.IsList l items) ns where
  beg := begins_list l items
  ty := fun s h => h.typeIs
  noSet := F.sub_list_set
  noFrozen := F.sub_list_frozenset
  noDict := by decide
  walk := fun A h I hh hH hI => by
    have hl := IntsAre.length hit
    rw [Array.length_toList] at hl
    obtain ⟨o, ho, _⟩ := id hH
    have hne : l ≠ I := Nat.ne_of_lt (Nat.lt_of_lt_of_le (Heap.lt_size ho) hI)
    refine ⟨[I, l], [I], _, _, _, hl ▸ (Walks.list (prog := P) (w := w) (A := A) hh I l hne items).toS, fun b hb => ?_, fun b hb => by simpa using hb, at_ints hit, fun _ _ h => h, fun s hs hi => ⟨⟨_, hi, rfl, rfl⟩, hs⟩⟩
    simp only [List.mem_cons, List.not_mem_nil, or_false] at hb
    rcases hb with rfl | rfl
    · exact .inl rfl
    · exact .inr ⟨o, ho⟩
theorem ints_tuple {l : Addr} {items : Array Value} {ns : List Int} (hit : IntsAre items.toList ns) : IntsAt P w (.ref l) "tuple" { cls := .type "tuple_iterator", data := .fields #[.ref l, .int 0 0] } (fun h => h.IsTuple l items) ns where
  beg := begins_tuple l items
  ty := fun s h => let ⟨o, ho, hc, _⟩ := h; ⟨o, ho, hc⟩
  noSet := F.sub_tuple_set
  noFrozen := F.sub_tuple_frozenset
  noDict := by decide
  walk := fun A h I hh hH hI => by
    have hl := IntsAre.length hit
    rw [Array.length_toList] at hl
    obtain ⟨o, ho, _⟩ := id hH
    have hne : l ≠ I := Nat.ne_of_lt (Nat.lt_of_lt_of_le (Heap.lt_size ho) hI)
    refine ⟨[I, l], [I], _, _, _, hl ▸ (Walks.tuple (prog := P) (w := w) (A := A) hh I l hne items).toS, fun b hb => ?_, fun b hb => by simpa using hb, at_ints hit, fun _ _ h => h, fun s hs hi => ⟨⟨_, hi, rfl, rfl⟩, hs⟩⟩
    simp only [List.mem_cons, List.not_mem_nil, or_false] at hb
    rcases hb with rfl | rfl
    · exact .inl rfl
    · exact .inr ⟨o, ho⟩
end
section
variable {X : Cx}
/-- set(x), x a list or a tuple of ints -/
def rSetI (K : PySem.W.Frag) (w : World) : List V → Hp → VK → Prop := fun xs H Q => ∃ (a : Addr) (ns : List Int), xs = [V.ref a] ∧ (SqL K H a (ns.map V.int) ∨ SqT K H a (ns.map V.int)) ∧ ns.length + 1 < scanBound ∧
  ∀ p c, c ≤ ns.length → H p = none → Q (.ref p) (upd H p (SetO w p (fun j => decide (j ∈ ns)) c))
theorem cr_setI (hc : X.calm = true) : CallR X (.type "set") (rSetI X.K X.w) := by
  intro pins s σ H xs us Q I r h
  obtain ⟨a, ns, rfl, hq, hb, q⟩ := h
  rw [Vals.ref1 r]
  have fin : ∀ s', SetDone X.w s ns s' → EP X pins σ Q (.ref s.heap.objs.size) s' := by
    rintro s' ⟨h', tk, c, rfl, R, hcl, hk⟩
    exact ⟨.ref _, upd H s.heap.objs.size (SetO X.w s.heap.objs.size (fun j => decide (j ∈ ns)) c), I.laid (t' := tk) hk (Nat.le_refl _) (setO_new R), rfl, q _ c hcl (I.hok.fresh (Nat.le_refl _))⟩
  rcases hq with hq | hq
  · obtain ⟨its, rv, p', hz⟩ := I.list hq
    exact call_set_any (ints_list (items := its.toArray) (by simpa using intsAre_of rv)) (I.ok.hd hc) p'.isList hb fin
  · obtain ⟨its, rv, p', hz⟩ := I.tuple hq
    exact call_set_any (ints_tuple (items := its.toArray) (by simpa using intsAre_of rv)) (I.ok.hd hc) p' hb fin
end
/-! sorted(set(x)) -/
def dedup : List Int → List Int
  | [] => []
  | x :: xs => if x ∈ dedup xs then dedup xs else x :: dedup xs
theorem dedup_mem {k : Int} : ∀ {l : List Int}, k ∈ dedup l ↔ k ∈ l
  | [] => Iff.rfl
  | x :: xs => by
    have ih := dedup_mem (k := k) (l := xs)
    unfold dedup
    split
    · rename_i h
      rw [List.mem_cons, ih]
      constructor
      · exact Or.inr
      · rintro (rfl | h')
        · exact dedup_mem.mp h
        · exact h'
    · rw [List.mem_cons, List.mem_cons, ih]
theorem dedup_nd : ∀ l : List Int, (dedup l).Nodup
  | [] => List.nodup_nil
  | x :: xs => by
    have ih := dedup_nd xs
    unfold dedup
    split
    · exact ih
    · exact List.nodup_cons.mpr ⟨by assumption, ih⟩
def usort (l : List Int) : List Int := srtB ltI (dedup l)
theorem usort_mem {k : Int} {l : List Int} : k ∈ usort l ↔ k ∈ l := by unfold usort; rw [(srtB_perm _).mem_iff, dedup_mem]
theorem usort_of {ns out : List Int} (h : out.Pairwise (· < ·)) (hm : ∀ k, k ∈ out ↔ k ∈ ns) : out = usort ns := by
  have nd : out.Nodup := h.imp fun {a b} hab e => by omega
  refine srt_uniq totI (h.imp fun {a b} hab => by simp only [ltI, decide_eq_false_iff_not]; omega) (srtB_srt totI _) ?_
  refine List.Perm.trans ?_ (srtB_perm _).symm
  exact (List.perm_ext_iff_of_nodup nd (dedup_nd ns)).mpr fun k => by rw [hm, dedup_mem]
noncomputable section
def gSrtSet (ws : List Va) (st : Sto) : Option (Va × Sto) := match ws with
  | [w] => (seqOf w st).bind fun xs => (intsOf xs).bind fun ns => @ite _ (ns.length < 63) (Classical.propDecidable _) (some (.ref st.length, st ++ [.lst ((usort ns).map Va.int)])) none
  | _ => none
def gLenSet (ws : List Va) (st : Sto) : Option (Va × Sto) := match ws with
  | [w] => (seqOf w st).bind fun xs => (intsOf xs).bind fun ns => @ite _ (ns.length < 4000) (Classical.propDecidable _) (some (.int (dedup ns).length, st)) none
  | _ => none
theorem ints_reps {K : PySem.W.Frag} {ρ : List Addr} {H : Hp} : ∀ {ws : List Va} {ns : List Int} {vs : List V}, intsOf ws = some ns → RepL K ρ H ws vs → vs = ns.map V.int
  | [], ns, vs, e, r => by
    simp only [RepL] at r
    cases e; exact r
  | w :: ws, ns, vs, e, r => by
    simp only [RepL] at r
    obtain ⟨v, vs, rfl, r1, r2⟩ := r
    unfold intsOf at e
    split at e
    · cases ‹_ :: _ = []›
    · rename_i i ws' h
      cases h
      simp only [Option.map_eq_some_iff] at e
      obtain ⟨ns, e1, rfl⟩ := e
      simp only [RepV] at r1
      rw [r1, ints_reps e1 r2]; rfl
    · cases e
theorem reps_ints {K : PySem.W.Frag} {ρ : List Addr} {H : Hp} : ∀ ns : List Int, RepL K ρ H (ns.map Va.int) (ns.map V.int)
  | [] => by simp only [List.map_nil, RepL]
  | n :: ns => by
    simp only [List.map_cons, RepL]
    exact ⟨_, _, rfl, by simp only [RepV], reps_ints ns⟩
section
variable {X : Cx} {e : Expr} {f : Ev} {p1 p2 pos pos2 : Pos}
theorem de_srtset (hc : X.calm = true) (hm1 : X.mg "sorted" = none) (hm2 : X.mg "set" = none) (he : DE X e f) (hg1 : Gl X "sorted" := by rfl) (hg2 : Gl X "set" := by rfl)
    (hs : starEach [e] X.env = (false, eval e X.env) :: starEach [] X.env := by rfl)
    (hs2 : starEach [.Call (.Name "set" p2) [e] [] pos2] X.env = (false, eval (.Call (.Name "set" p2) [e] [] pos2) X.env) :: starEach [] X.env := by rfl) :
    DE X (.Call (.Name "sorted" p1) [.Call (.Name "set" p2) [e] [] pos2] [] pos) (eA gSrtSet (aC f aN)) :=
  PEi (pe_callB (cr_sortedSet hc) hg1 hm1 (by rfl) (pa_cons (pe_callTy (cr_setI hc) hg2 hm2 (by rfl) (da_cons he da_nil hs) (by decide) (by decide) hs (by rfl)) pa_nil hs2) (by decide) (by decide) hs2 (by rfl)) fun σ H Q h => by
    obtain ⟨ρ, fm, st, w, st', R, e, T⟩ := h
    simp only [eA, Option.bind_eq_some_iff] at e
    obtain ⟨⟨ws, s1⟩, e1, e2⟩ := e
    dsimp only at e2
    refine ⟨ρ, fm, st, ws, s1, R, e1, fun ρ1 H1 p1 k1 R1 vs rv => ?_⟩
    unfold gSrtSet at e2
    split at e2
    · rename_i w0
      simp only [Option.bind_eq_some_iff] at e2
      obtain ⟨xs, e3, ns, e4, e5⟩ := e2
      by_cases hn : ns.length < 63
      · rw [if_pos hn] at e5
        cases e5
        obtain ⟨v, rfl, rv1⟩ := rep1 rv
        obtain ⟨a, us, rfl, hq, rl⟩ := seq_rep R1 rv1 e3
        have hus := ints_reps e4 rl
        subst hus
        refine ⟨a, ns, rfl, hq, by unfold scanBound; omega, fun p0 c hcl hp0 => ?_⟩
        refine ⟨p0, _, c, rfl, upd_same, by omega, fun out p ho hm hl hp => ?_⟩
        have hout : out = usort ns := usort_of ho fun k => by rw [hm]; simp
        subst hout
        have R2 : Rel X.K ρ1 fm s1 σ (upd H1 p0 (SetO X.w p0 (fun j => decide (j ∈ ns)) c)) := ⟨R1.s.same (same_new hp0) (Kp.new hp0), R1.e.mono (List.prefix_refl _) (Kp.new hp0)⟩
        exact ((T.then p1 k1).then (List.prefix_refl _) (Kp.new hp0)).push R2 hp (o := .lst _) ⟨_, upd_same, reps_ints _⟩ _ (ref_last R2.s.rl)
      · rw [if_neg hn] at e5; cases e5
    · cases e2
end
end
end T3
/-! T3: len(set(x)), x a list or a tuple of ints -/
namespace T3
open PySem PySem.Spec PyProof.Rows L2
theorem setR_count {w : World} {h : Heap} {a : Addr} {ns : List Int} {c : Nat} (R : SetR w h a (fun j => decide (j ∈ ns)) c) : c = (dedup ns).length := by
  obtain ⟨o, es, ep, t, ho, hx, hd, g, nd, hm, hb, hf, hn, _⟩ := R
  have hp : (es.toList.map L2.keyOf).Perm (dedup ns) := (List.perm_ext_iff_of_nodup nd (dedup_nd ns)).mpr fun k => by rw [← hm k, dedup_mem, decide_eq_true_eq]
  rw [← hn, ← hp.length_eq, List.length_map, Array.length_toList]
section
variable {X : Cx}
def rLenSetI (w : World) : List V → Hp → VK → Prop := fun vs H Q => ∃ (a : Addr) (ns : List Int) (c : Nat), vs = [V.ref a] ∧ H a = some (SetO w a (fun j => decide (j ∈ ns)) c) ∧ Q (.int ((dedup ns).length : Nat)) H
theorem cr_lenSetI : CallR X (.builtin "len") (rLenSetI X.w) := by
  intro pins s σ H vs us Q I r h
  obtain ⟨a, ns, c, rfl, ha, q⟩ := h
  have R := setO_get I ha
  rw [Vals.ref1 r]
  have hc := setR_count R
  obtain ⟨o, es, ep, t, ho, hx, hd, g, nd, hm, hb, hf, hn, _⟩ := R
  refine call_len_set ho hx hd hf (by unfold scanBound at hb; omega) ⟨.int (dedup ns).length, H, I.tok _, ⟨_, by rw [hn, hc]⟩, q⟩
end
noncomputable section
section
variable {X : Cx} {e : Expr} {f : Ev} {p1 p2 pos pos2 : Pos}
theorem de_lenset (hc : X.calm = true) (hm1 : X.mg "len" = none) (hm2 : X.mg "set" = none) (he : DE X e f) (hg1 : Gl X "len" := by rfl) (hg2 : Gl X "set" := by rfl)
    (hs : starEach [e] X.env = (false, eval e X.env) :: starEach [] X.env := by rfl)
    (hs2 : starEach [.Call (.Name "set" p2) [e] [] pos2] X.env = (false, eval (.Call (.Name "set" p2) [e] [] pos2) X.env) :: starEach [] X.env := by rfl) :
    DE X (.Call (.Name "len" p1) [.Call (.Name "set" p2) [e] [] pos2] [] pos) (eA gLenSet (aC f aN)) :=
  PEi (pe_callB cr_lenSetI hg1 hm1 (by rfl) (pa_cons (pe_callTy (cr_setI hc) hg2 hm2 (by rfl) (da_cons he da_nil hs) (by decide) (by decide) hs (by rfl)) pa_nil hs2) (by decide) (by decide) hs2 (by rfl)) fun σ H Q h => by
    obtain ⟨ρ, fm, st, w, st', R, e, T⟩ := h
    simp only [eA, Option.bind_eq_some_iff] at e
    obtain ⟨⟨ws, s1⟩, e1, e2⟩ := e
    dsimp only at e2
    refine ⟨ρ, fm, st, ws, s1, R, e1, fun ρ1 H1 p1 k1 R1 vs rv => ?_⟩
    unfold gLenSet at e2
    split at e2
    · rename_i w0
      simp only [Option.bind_eq_some_iff] at e2
      obtain ⟨xs, e3, ns, e4, e5⟩ := e2
      by_cases hn : ns.length < 4000
      · rw [if_pos hn] at e5
        cases e5
        obtain ⟨v, rfl, rv1⟩ := rep1 rv
        obtain ⟨a, us, rfl, hq, rl⟩ := seq_rep R1 rv1 e3
        have hus := ints_reps e4 rl
        subst hus
        refine ⟨a, ns, rfl, hq, by unfold scanBound; omega, fun p0 c hcl hp0 => ?_⟩
        refine ⟨p0, ns, c, rfl, upd_same, ?_⟩
        exact (T.then p1 k1).tup R1 hp0 _ (by simp only [RepV])
      · rw [if_neg hn] at e5; cases e5
    · cases e2
end
end
end T3
set_option maxHeartbeats 2000000
/-! T3: set(text), sorted(set(text)) -/
namespace T3
open PySem PySem.Spec PyProof.Rows L2
open Sem (wp)
def skey (e : Int × Value) : Str := match e.2 with
  | .str k _ => k
  | _ => Str.empty
/-- the set of texts at a: S its members, n their number; its table rises and can be walked -/
def SetS (w : World) (h : Heap) (a : Addr) (S : Str → Bool) (n : Nat) : Prop :=
  ∃ o es ep t, h.get? a = some o ∧ o.ExactSet ∧ o.data = .set es ep t ∧ (∀ e ∈ es.toList, ∃ k u, e.2 = Value.str k u ∧ e.1 = hashStr w k) ∧ (es.toList.map skey).Nodup ∧ (∀ k, S k = true ↔ k ∈ es.toList.map skey) ∧
    es.size < scanBound ∧ t.fits es.size = true ∧ es.size = n ∧ Ris t.place.toList ∧ (w.params.followText "set-order" = true ∨ t.led = true)
section
variable {P : Program} {w : World} {h h' : Heap} {a : Addr} {S : Str → Bool} {n : Nat}
theorem SetS.at (R : SetS w h a S n) (k : ∀ o, h.get? a = some o → h'.get? a = some o) : SetS w h' a S n := by
  obtain ⟨o, es, ep, t, ho, r⟩ := R
  exact ⟨o, es, ep, t, k o ho, r⟩
theorem SetS.congr {S' : Str → Bool} (R : SetS w h a S n) (e : ∀ k, S' k = S k) : SetS w h a S' n := by
  have q : S' = S := funext e
  rw [q]; exact R
theorem elemsS {l : List (Int × Value)} (g : ∀ e ∈ l, ∃ k u, e.2 = Value.str k u ∧ e.1 = hashStr w k) : ElemsOf (strKind P w) l := fun e he => by
  obtain ⟨k, u, h1, h2⟩ := g e he
  exact ⟨⟨k, by rw [h1]; exact PySem.Froz.is_str k u, h2⟩, by rw [h1] <;> rfl⟩
theorem isS {e : Int × Value} (g : ∃ k u, e.2 = Value.str k u ∧ e.1 = hashStr w k) (k : Str) : (strKind P w).is k e.2 = true ↔ skey e = k := by
  obtain ⟨k0, u, h1, _⟩ := g
  unfold skey
  rw [h1]
  constructor
  · intro z
    exact (strKind P w).inj (.str k0 u) k0 k (PySem.Froz.is_str k0 u) z
  · intro z
    have z' : k0 = k := z
    rw [← z']
    exact PySem.Froz.is_str k0 u
theorem memS {l : List (Int × Value)} (g : ∀ e ∈ l, ∃ k u, e.2 = Value.str k u ∧ e.1 = hashStr w k) (k : Str) : k ∈ l.map skey ↔ ∃ e ∈ l, (strKind P w).is k e.2 = true := by
  rw [List.mem_map]
  exact ⟨fun ⟨e, he, q⟩ => ⟨e, he, (isS (g e he) k).2 q⟩, fun ⟨e, he, q⟩ => ⟨e, he, (isS (g e he) k).1 q⟩⟩
end
section
variable {P : Program} {w : World} {A : Around} {E : Value → Shared → Prop} {s : Shared} {a : Addr} {S : Str → Bool} {n : Nat}
/-- behind the scan: the entry is laid, the table grows where it is too full -/
theorem addS_tail {give : Bool → Sem Unit} (hgive : ∀ (b : Bool) (s₁ : Shared) (Q' : Unit → Shared → Prop), Q' () s₁ → wpAny (model P w) A (give b) Q' E s₁) {o : Obj} {es0 : Array (Int × Value)} {ep : Nat} {t0 : SetTable} (ho : s.heap.get? a = some o) (hex : o.ExactSet) (hd : o.data = .set es0 ep t0)
    {es : Array (Int × Value)} {t : SetTable} {S' : Str → Bool} (g : ∀ e ∈ es.toList, ∃ k u, e.2 = Value.str k u ∧ e.1 = hashStr w k) (nd : (es.toList.map skey).Nodup) (mm : ∀ k, S' k = true ↔ k ∈ es.toList.map skey)
    (hb : es.size < scanBound) (hf : t.fits es.size = true) (hr : Ris t.place.toList) (hl : w.params.followText "set-order" = true ∨ t.led = true) {dummy : Bool} {R : Option Bool → Shared → Prop}
    (fin : ∀ h', Heap.SameBut a s.heap h' → SetS w h' a S' es.size → R (some true) { s with heap := h' }) :
    wpAny (model P w) A (do
        storeSet a es t
        if (!dummy && t.tooFull) = true then do
            give (relayAll t es (SetTable.grown es.size)).2.2
            storeSet a (relayAll t es (SetTable.grown es.size)).1 (relayAll t es (SetTable.grown es.size)).2.1
            pure (some true)
          else pure (some true)) R E s := by
  refine wpAny_bind (wpAny_storeSet_of ho hd ?_ (fits_of_scanBound hb))
  have ho2 := store_at (es' := es) (t' := t) ho hd
  have sb2 := Heap.SameBut.update s.heap a (Obj.putSet es t)
  by_cases full : (!dummy && t.tooFull) = true
  · rw [if_pos full]
    have pm := relayAll_perm t es (SetTable.grown es.size)
    have q1 := relayAll_fits t es (SetTable.grown es.size)
    have q2 := relayAll_ris t es (SetTable.grown es.size)
    have q3 := relayAll_led t es (SetTable.grown es.size)
    generalize relayAll t es (SetTable.grown es.size) = Z at pm q1 q2 q3 ⊢
    obtain ⟨es3, t3, gave⟩ := Z
    dsimp only at pm q1 q2 q3 ⊢
    have sz3 : es3.size = es.size := by
      have := pm.length_eq
      simpa using this
    have hb3 : es3.size < scanBound := by omega
    refine wpAny_bind (hgive _ _ _ ?_)
    refine wpAny_bind (wpAny_storeSet_of ho2 rfl ?_ (fits_of_scanBound hb3))
    have ho3 := store_at (es' := es3) (t' := t3) ho2 rfl
    have pk := pm.map skey
    exact wpAny_pure (fin _ (sb2.trans (Heap.SameBut.update _ a _)) ⟨_, es3, _, t3, ho3, hex, rfl, fun e he => g e (pm.mem_iff.mp he), pk.nodup_iff.mpr nd, fun k => (mm k).trans pk.mem_iff.symm, hb3, q1, sz3, q2, hl.imp id fun z => by rw [q3]; exact z⟩)
  · rw [if_neg full]
    exact wpAny_pure (fin _ sb2 ⟨_, es, _, t, ho2, hex, rfl, g, nd, mm, hb, hf, rfl, hr, hl⟩)
/-- a text is added -/
theorem addS_hashed {k : Str} {u : Tok} {Q : Bool → Shared → Prop} (R : SetS w s.heap a S n) (room : n + 1 < scanBound)
    (hQ : ∀ h', Heap.SameBut a s.heap h' → SetS w h' a (fun j => S j || decide (j = k)) (if S k = true then n else n + 1) → Q (!S k) { s with heap := h' }) :
    wpAny (model P w) A (setAddHashed a (.str k u) ((strKind P w).hash k)) Q E s := by
  obtain ⟨o, es, ep, t, ho, hex, hd, g, nd, hm, hb, hf, hn, hr, hl⟩ := R
  have hkey : (strKind P w).is k (.str k u) = true := PySem.Froz.is_str k u
  have hscan : (Value.str k u).scannable = true := rfl
  have hel : ElemsOf (strKind P w) es.toList := elemsS g
  unfold setAddHashed setAddHashedIn
  refine wpAny_holding (wpAny_bind (wpAny_setState_of ho hd hf ?_))
  dsimp only
  rw [byScan_of hscan hb hel]
  simp only [↓reduceIte]
  unfold setAddByScan
  refine wpAny_bind (wpAny_bind (wpAny_rule ?_))
  refine wpAny_bind (wpAny_setScan_of hkey ho hd hf hel ?_)
  cases hfi : List.findIdx? (fun e => (strKind P w).is k e.2) es.toList with
  | some j =>
    dsimp only
    obtain ⟨hj, pj, _⟩ := List.findIdx?_eq_some_iff_getElem.mp hfi
    have hin : S k = true := (hm k).2 ((memS (P := P) g k).2 ⟨es.toList[j], List.getElem_mem hj, pj⟩)
    have q := hQ s.heap (Heap.SameBut.refl a s.heap) ⟨o, es, ep, t, ho, hex, hd, g, nd, fun i => by
      rw [← hm i, Bool.or_eq_true, decide_eq_true_eq]
      constructor
      · rintro (z | z)
        · exact z
        · rw [z]; exact hin
      · exact .inl, hb, hf, by rw [if_pos hin]; exact hn, hr, hl⟩
    rw [hin] at q
    exact wpAny_pure (wpAny_pure q)
  | none =>
    dsimp only
    have hout : k ∉ es.toList.map skey := fun z => by
      obtain ⟨e, he, q⟩ := (memS (P := P) g k).1 z
      have c := List.findIdx?_eq_none_iff.mp hfi e he
      rw [q] at c; cases c
    have hno : S k = false := by
      rcases Bool.eq_false_or_eq_true (S k) with q | q
      · exact absurd ((hm k).1 q) hout
      · exact q
    have gw : ∀ (b : Bool) (s₁ : Shared) (Q' : Unit → Shared → Prop), Q' () s₁ → wpAny (model P w) A (match b with | true => rule "set.scan.the-table-gave-way" | false => pure ()) Q' E s₁ := fun b s₁ Q' q => by
      cases b
      · exact wpAny_pure q
      · exact wpAny_rule q
    have pm := layNew_perm t es ((strKind P w).hash k) (.str k u)
    have f1 := layNew_fits t es ((strKind P w).hash k) (.str k u)
    have r1 := layNew_ris t es ((strKind P w).hash k) (.str k u) hr
    have l1 := layNew_led t es ((strKind P w).hash k) (.str k u)
    generalize layNew t es ((strKind P w).hash k) (.str k u) = Z at pm f1 r1 l1 ⊢
    obtain ⟨es1, t1, dummy, gave⟩ := Z
    dsimp only at pm f1 r1 l1 ⊢
    rw [Array.toList_push] at pm
    have pc : es1.toList.Perm (((strKind P w).hash k, Value.str k u) :: es.toList) := pm.trans (List.perm_append_singleton _ _)
    have pk : (es1.toList.map skey).Perm (k :: es.toList.map skey) := pc.map skey
    have g1 : ∀ e ∈ es1.toList, ∃ k u, e.2 = Value.str k u ∧ e.1 = hashStr w k := fun e he => by
      rcases List.mem_cons.mp (pc.mem_iff.mp he) with z | z
      · exact ⟨k, u, by rw [z], by rw [z]; rfl⟩
      · exact g e z
    have nd1 : (es1.toList.map skey).Nodup := pk.nodup_iff.mpr (List.nodup_cons.mpr ⟨hout, nd⟩)
    have m1 : ∀ i, (S i || decide (i = k)) = true ↔ i ∈ es1.toList.map skey := fun i => by
      rw [pk.mem_iff, List.mem_cons, ← hm i, Bool.or_eq_true, decide_eq_true_eq]
      exact Or.comm
    have sz1 : es1.size = n + 1 := by
      have := pc.length_eq
      simp at this
      omega
    have hb1 : es1.size < scanBound := by omega
    have hled : w.params.followText "set-order" = true ∨ t1.led = true := hl.imp id fun z => by rw [l1]; exact z
    have fin : ∀ h', Heap.SameBut a s.heap h' → SetS w h' a (fun j => S j || decide (j = k)) es1.size → Q true { s with heap := h' } := fun h' sb r => by
      have q := hQ h' sb
      rw [hno] at q
      rw [sz1] at r
      exact q r
    refine wpAny_bind (gw _ _ _ ?_)
    by_cases hp : t1.plain = true
    · rw [if_pos hp]
      refine wpAny_bind ?_
      rw [hashByValue_scannable 8 hscan]
      refine wpAny_pure (addS_tail gw ho hex hd g1 nd1 m1 hb1 ?_ ?_ ?_ fun h' sb r => ?_)
      · first | exact SetTable.fits_plain_off f1 | (split <;> first | exact f1 | exact SetTable.fits_plain_off f1)
      · first | exact r1 | (split <;> exact r1)
      · first | exact hled | (split <;> exact hled)
      · dsimp only
        exact wpAny_pure (fin h' sb r)
    · rw [if_neg hp]
      refine wpAny_bind (wpAny_pure ?_)
      simp only [↓reduceIte]
      refine addS_tail gw ho hex hd g1 nd1 m1 hb1 f1 r1 hled fun h' sb r => ?_
      dsimp only
      exact wpAny_pure (fin h' sb r)
theorem setS_new {h : Heap} (ho : h.get? a = some (sObj w)) : SetS w h a (fun _ => false) 0 :=
  ⟨_, #[], 0, _, ho, ⟨rfl, rfl, rfl⟩, rfl, (fun e he => by simp at he), (by simp), (fun k => by simp), (by decide), (by rfl), rfl, List.Pairwise.nil, by
    cases q : w.params.followText "set-order"
    · exact .inr rfl
    · exact .inl rfl⟩
/-- the loop of set.update over a text's signs -/
theorem updateS {I : Addr} {fp wr : List Addr} {G : Array GenState → Array GenState → Prop} {St : Nat → Shared → Prop} {R : Result → Shared → Prop} {x : Str}
    (W : WalksS P w A.in1 I fp wr G x.cps.size (SignAt x) St) (Z : Addr) (hZ : Z ∉ fp) (hb : x.cps.size + 1 < scanBound) :
    ∀ (m i : Nat) (s : Shared), i + m = x.cps.size → St i s → (∃ c, c ≤ i ∧ SetS w s.heap Z (fun j => decide (∃ l, l < i ∧ ∃ c, x.cps[l]? = some c ∧ j = ⟨#[c]⟩)) c) →
      (∀ s' c, Moved (Z :: wr) G s s' → c ≤ x.cps.size → SetS w s'.heap Z (fun j => decide (∃ c, c ∈ x.cps.toList ∧ j = ⟨#[c]⟩)) c → R (.ok (.ret .none)) s') →
      codeAny (model P w) A (.builtin "set.update.loop" ⟨[.ref Z, .ref I], []⟩) R s := by
  have hZw : Z ∉ wr := fun h => hZ (W.sub _ h)
  intro m
  induction m with
  | zero =>
    intro i s hi hst ⟨c, hc, hS⟩ hR
    have hin : i = x.cps.size := by omega
    subst hin
    refine codeAny_builtin F.entry_set_update_loop ?_
    rw [Around.under_plainId F.plain_set_update_loop _]
    refine wpAny_bind (m := pyNext (.ref I)) (W.done s _ _ hst fun s' hm => ?_)
    show wpAny _ A.in1 (ret Value.none) _ _ s'
    refine wpAny_pure (hR s' c (hm.mono fun b hb => List.mem_cons_of_mem _ hb) hc ((hS.congr fun j => ?_).at fun o e => hm.heap Z o hZw e))
    rw [decide_eq_decide]
    constructor
    · rintro ⟨c, hc, e⟩
      obtain ⟨l, hl, e2⟩ := List.getElem_of_mem hc
      refine ⟨l, by simpa using hl, c, ?_, e⟩
      rw [← Array.getElem?_toList, List.getElem?_eq_getElem hl, e2]
    · rintro ⟨l, _, c, e1, e⟩
      refine ⟨c, ?_, e⟩
      rw [← Array.getElem?_toList] at e1
      exact List.mem_of_getElem? e1
  | succ m ih =>
    intro i s hi hst ⟨c, hc, hS⟩ hR
    have hlt : i < x.cps.size := by omega
    refine codeAny_builtin F.entry_set_update_loop ?_
    rw [Around.under_plainId F.plain_set_update_loop _]
    refine wpAny_bind (m := pyNext (.ref I)) (W.item i s _ _ hlt hst fun v s' hP hst' hm => ?_)
    obtain ⟨d, u, hd, rfl⟩ := hP
    have hS' := hS.at (h' := s'.heap) fun o e => hm.heap Z o hZw e
    refine wpAny_bind (m := holding [Value.str ⟨#[d]⟩ u] (setAdd Z (.str ⟨#[d]⟩ u))) (wpAny_holding ?_)
    unfold setAdd
    refine wpAny_holding (wpAny_bind ((strKind P w).pyHash (k := ⟨#[d]⟩) (PySem.Froz.is_str _ _) ?_))
    refine addS_hashed (s := { s' with toks := s'.toks + 1 }) hS' (by omega) fun h' sb hS2 => ?_
    refine wpAny_pure ⟨plainId_quiet F.plain_set_update_loop _, ih (i + 1) _ (by omega) (W.frame _ s' _ _ hst' (Nat.le_succ _) fun b hb o e => ?_) ⟨_, ?_, hS2.congr fun j => ?_⟩ fun s2 c2 hm2 hc2 hS3 => ?_⟩
    · rw [sb.2 b (fun h : b = Z => hZ (by rw [← h]; exact hb))]; exact e
    · split <;> omega
    · rw [Bool.eq_iff_iff]
      simp only [Bool.or_eq_true, decide_eq_true_eq]
      constructor
      · rintro ⟨l, hl, c, e1, e2⟩
        by_cases q : l = i
        · subst q
          rw [hd] at e1; cases e1
          exact .inr e2
        · exact .inl ⟨l, by omega, c, e1, e2⟩
      · rintro (⟨l, hl, c, e1, e2⟩ | e)
        · exact ⟨l, by omega, c, e1, e2⟩
        · exact ⟨i, Nat.lt_succ_self i, d, hd, e⟩
    · refine hR s2 c2 (Moved.trans W.gtrans ((hm.mono fun b hb => List.mem_cons_of_mem _ hb).then_heap (Nat.le_succ _) fun b o hb e => ?_) hm2) hc2 hS3
      rw [sb.2 b (fun h : b = Z => hb (by rw [h]; exact List.mem_cons_self))]; exact e
end
end T3
set_option maxHeartbeats 4000000
/-! T3: set(text), sorted(set(text)): the calls, the rule -/
namespace T3
open PySem PySem.Spec PyProof.Rows L2
open Sem (wp)
section
variable {P : Program} {w : World} {A : Around} {E : Value → Shared → Prop} {s : Shared}
def SetDoneS (w : World) (s : Shared) (x : Str) (s' : Shared) : Prop := ∃ h' tk c, s' = { s with heap := h', toks := tk } ∧ SetS w h' s.heap.objs.size (fun j => decide (∃ c, c ∈ x.cps.toList ∧ j = ⟨#[c]⟩)) c ∧ c ≤ x.cps.size ∧ ∀ b o, s.heap.get? b = some o → h'.get? b = some o
set_option maxHeartbeats 3200000 in
theorem init_set_str {x : Str} {t : Tok} (hh : A.handled = none) (hb : x.cps.size + 1 < scanBound) :
    codeAny (model P w) A (.call (.builtin "set.__init__") ⟨[.ref s.heap.objs.size, .str x t], []⟩) (wants (fun r s₂ => r = .none ∧ SetDoneS w s x s₂) E) { s with heap := s.heap.push (sObj w) } := by
  have hS : (s.heap.push (sObj w)).get? s.heap.objs.size = some (sObj w) := Heap.get?_push_size _ rfl
  have hT : ({ s with heap := s.heap.push (sObj w) } : Shared).TypeIs (.ref s.heap.objs.size) "set" := ⟨_, hS, rfl⟩
  refine codeAny_call_builtin F.called_set.init.plain F.entry_set_init (check_set_init_1 hT ?_)
  have hTv : ({ s with heap := s.heap.push (sObj w) } : Shared).TypeIs (.str x t) "str" := typeIs_str _ _ _
  have hsls := F.sub_str_set
  have hslf := F.sub_str_frozenset
  have hne : (Value.type "str" == Value.type "dict") = false := by decide
  have hS' : (s.heap.push (sObj w)).get? s.heap.objs.size = some { cls := .type "set", dict := none, data := .set #[] 0 (.fresh 0 0 (!w.params.followText "set-order")) } := hS
  unfold Builtin.«set.__init__» noKeywords Builtin.Frozenset.updateFrom
  generalize hPI : pyIter = PI
  wp_walk
  subst hPI
  refine wpAny_pyIter_str fun o St W hst => ?_
  refine wpAny_bind (wpAny_runValue ?_)
  have hI : (s.heap.push (sObj w)).objs.size = s.heap.objs.size + 1 := Heap.size_push ..
  have hIne : s.heap.objs.size ≠ (s.heap.push (sObj w)).objs.size := by rw [hI]; exact Nat.ne_of_lt (Nat.lt_succ_self _)
  have h0 : SetS w ((s.heap.push (sObj w)).push o) s.heap.objs.size (fun _ => false) 0 := setS_new (Heap.get?_push_of_some _ hS)
  refine updateS ((W A.in1.in1 (by simp [hh])).toS) s.heap.objs.size ?_ hb x.cps.size 0 { s with heap := (s.heap.push (sObj w)).push o } (by omega) hst ⟨0, Nat.le_refl 0, h0.congr fun j => ?_⟩ ?_
  · intro hm
    exact hIne (by simpa using hm)
  · simp
  · intro s' c' hm hc' hS2
    obtain ⟨h', g2, d', tk', os'⟩ := s'
    have eg : g2 = s.gens := hm.gens
    have ed : d' = s.drawn := hm.drawn
    have eo : os' = s.os := hm.os
    subst eg; subst ed; subst eo
    refine wpAny_pure ?_
    show wpAny _ _ (ret Value.none) _ _ _
    refine wpAny_pure ⟨rfl, h', tk', c', rfl, hS2, hc', fun b ob e => ?_⟩
    have hb0 : b < s.heap.objs.size := Heap.lt_size e
    refine hm.heap b ob (fun hmem => ?_) (Heap.get?_push_of_some _ (Heap.get?_push_of_some _ e))
    rcases List.mem_cons.mp hmem with z | z
    · exact absurd z (Nat.ne_of_lt hb0)
    · have z2 : b = (s.heap.push (sObj w)).objs.size := by simpa using z
      rw [z2, hI] at hb0
      exact absurd (Nat.lt_of_succ_lt hb0) (Nat.lt_irrefl _)
set_option maxHeartbeats 3200000 in
/-- set(text) -/
theorem call_set_str {x : Str} {t : Tok} {Q : Value → Shared → Prop} (hh : A.handled = none) (hb : x.cps.size + 1 < scanBound)
    (h : ∀ s', SetDoneS w s x s' → Q (.ref s.heap.objs.size) s') : wpAny (model P w) A (call (.type "set") [.str x t]) Q E s := by
  have hS : (s.heap.push (sObj w)).get? s.heap.objs.size = some (sObj w) := Heap.get?_push_size _ rfl
  have hT : ({ s with heap := s.heap.push (sObj w) } : Shared).TypeIs (.ref s.heap.objs.size) "set" := ⟨_, hS, rfl⟩
  obtain ⟨c, tl, hmro⟩ := F.called_set.mro
  have hmade := F.called_set.made
  have hsub := F.called_set.sub
  have h1 := F.called_set.notType
  have h2 := F.called_set.canCreate
  have hct := F.typeCall_set_1 (.str x t)
  refine wpAny_call (codeAny_of_tree ?_)
  show wpAny _ _ (callAny (.type "set") _) _ _ _
  refine wpAny_pure ⟨Code.quiet_builtin _ (by decide +kernel), codeAny_builtin F.entry_type_call ?_⟩
  rw [Around.under_plain (weight_type_call_type "set" [.str x t] []) rfl]
  repeat (any_goals (first | assumption | wp_step))
  refine codeAny_mono (code_set_led1 (.str x t) (E := E) (Q₁ := fun obj s₁ => obj = .ref s.heap.objs.size ∧ s₁ = { s with heap := s.heap.push (sObj w) }) ⟨rfl, rfl⟩) fun r s₁ hr => ?_
  match r, hr with
  | .error e, hr => exact hr
  | .ok (.ret obj), hr =>
    obtain ⟨rfl, rfl⟩ := hr
    have hli := F.called_set.init.lookup
    have hbi := F.called_set.init.bind (.ref s.heap.objs.size)
    repeat (any_goals (first | assumption | wp_step))
    refine codeAny_mono (init_set_str (A := A.in1) (E := E) (by simp [hh]) hb) fun r₂ s₂ hr₂ => ?_
    match r₂, hr₂ with
    | .error e, hr₂ => exact hr₂
    | .ok (.ret r), hr₂ =>
      obtain ⟨rfl, hd⟩ := hr₂
      repeat (any_goals (first | assumption | wp_step))
      exact h _ hd
theorem strs_ofS : ∀ (l : List (Int × Value)), (∀ e ∈ l, ∃ k u, e.2 = Value.str k u ∧ e.1 = hashStr w k) → StrsAre (l.map (·.2)) (l.map skey)
  | [], _ => .nil
  | e :: l, h => by
    obtain ⟨k, u, h1, _⟩ := h e List.mem_cons_self
    have h2 : skey e = k := by unfold skey; rw [h1]
    rw [List.map_cons, List.map_cons, h1, h2]
    exact .cons k u (strs_ofS l fun x hx => h x (List.mem_cons_of_mem _ hx))
theorem strs_permS {us vs : List Value} (p : List.Perm us vs) : ∀ {ss : List Str}, StrsAre vs ss → ∃ ss', StrsAre us ss' ∧ List.Perm ss' ss := by
  induction p with
  | nil => exact fun {ss} h => ⟨ss, h, List.Perm.refl _⟩
  | cons x _ ih =>
    intro ss h
    cases h with
    | cons k u r =>
      obtain ⟨s', a, b⟩ := ih r
      exact ⟨_, .cons k u a, b.cons k⟩
  | swap x y l =>
    intro ss h
    cases h with
    | cons k u r =>
      cases r with
      | cons k2 u2 r2 => exact ⟨_, .cons k2 u2 (.cons k u r2), List.Perm.swap _ _ _⟩
  | trans _ _ i1 i2 =>
    intro ss h
    obtain ⟨s1, a1, b1⟩ := i2 h
    obtain ⟨s2, a2, b2⟩ := i1 a1
    exact ⟨s2, a2, b2.trans b1⟩
/-- sorted(set of texts) -/
theorem sorted_setS {a : Addr} {S : Str → Bool} {n : Nat} {Q : Value → Shared → Prop} (R : SetS w s.heap a S n) (hh : A.handled = none) (h64 : n < 64)
    (hQ : ∀ s' p (out : Array Value) (c : Nat) (ys : List Str), (∀ b o, s.heap.get? b = some o → s'.heap.get? b = some o) → s'.gens = s.gens → s'.os = s.os → s.heap.objs.size ≤ p →
      s'.heap.get? p = some (seqObj "list" out c) → StrsAre out.toList ys → sortedS ys = true → ys.Nodup → (∀ k, k ∈ ys ↔ S k = true) → ys.length = n → Q (.ref p) s') :
    wpAny (model P w) A (call (.builtin "sorted") [.ref a]) Q E s := by
  obtain ⟨o, es, ep, t, ho, hex, hd, g, nd, hm, hb, hf, hn, hr, hl⟩ := R
  refine Calls.call_function_entry kind_sorted plain_sorted entry_sorted (args_sorted1 _) ?_
  unfold Builtin.«sorted»
  refine wpAny_bind (m := checkCount "sorted" 1 1 _) (wpAny_pure ?_)
  refine wpAny_bind (collect_set (A := A.in1) hh ⟨o, ho, hex.1, hd⟩ hf hb hr hl fun s1 vs k1 hz g1 o1 pm => ?_)
  have len : vs.length = n := by
    have q := pm.length_eq
    simp at q
    omega
  obtain ⟨ss, hI, ps⟩ := strs_permS pm (strs_ofS es.toList g)
  refine wpAny_bind (wpAny_newList ?_ (by rw [len, sizeLine_eq]; omega))
  have hoL : (s1.heap.push (seqObj "list" vs.toArray 0)).get? s1.heap.objs.size = some (seqObj "list" vs.toArray 0) := Heap.get?_push_size _ rfl
  refine wpAny_bind (wpAny_holding (wpAny_call_entry slot_list_sort ⟨_, hoL, rfl⟩ entry_list_sort (list_sort_treeK strKind_oneLt hoL hI.keysOf (fun v₁ v₂ rest e => keyKind_strs (by rw [← e]; exact hI)) (by rw [len]; exact h64) fun st' hp hs => ⟨_, rfl, ?_⟩) (args_list_sort _)))
  obtain ⟨ys, y1, y2, y3⟩ := sorted_out_str hI hp hs
  obtain ⟨c, hc⟩ := sortedHeap_at (vs := vs) (out := (arrOf st').map (·.2)) hoL
  have py : ys.Perm (es.toList.map skey) := y2.trans ps
  refine wpAny_pure ⟨_, rfl, hQ _ s1.heap.objs.size _ c ys (fun b u e => ?_) g1 o1 hz hc y1 y3 (py.nodup_iff.mpr nd) (fun k => by rw [py.mem_iff, ← hm k]) ?_⟩
  · have q := k1 b u e
    have hlt := Heap.lt_size q
    show (sortedHeap (s1.heap.push (seqObj "list" vs.toArray 0)) s1.heap.objs.size vs ((arrOf st').map (·.2))).get? b = some u
    rw [sortedHeap_old (Nat.ne_of_lt hlt) (by rw [size_push']; exact Nat.lt_succ_of_lt hlt)]
    exact Heap.get?_push_of_some _ q
  · have q := py.length_eq
    simp at q
    omega
end
/-- the set of texts at a -/
def SetSO (w : World) (a : Addr) (S : Str → Bool) (n : Nat) : HO := .ext fun h => SetS w h a S n
section
variable {X : Cx}
theorem setSO_new {w : World} {P : Program} {H : Hp} {h : Heap} {a : Addr} {S : Str → Bool} {n : Nat} (R : SetS w h a S n) : ObjOk P w H h a (SetSO w a S n) := by
  have ⟨o, _, _, _, ho, _⟩ := R
  exact ⟨R, ⟨o, ho⟩, fun h1 h2 p k => SetS.at p k⟩
def rSetS (w : World) : List V → Hp → VK → Prop := fun xs H Q => ∃ x : Str, xs = [V.str x] ∧ x.cps.size + 1 < scanBound ∧ ∀ p c, c ≤ x.cps.size → H p = none → Q (.ref p) (upd H p (SetSO w p (fun j => decide (∃ c, c ∈ x.cps.toList ∧ j = ⟨#[c]⟩)) c))
theorem cr_setS (hc : X.calm = true) : CallR X (.type "set") (rSetS X.w) := by
  intro pins s σ H xs us Q I r h
  obtain ⟨x, rfl, hb, q⟩ := h
  obtain ⟨u, rfl, ru⟩ := r.one
  obtain ⟨t, rfl⟩ := ru
  refine call_set_str (I.ok.hd hc) hb ?_
  rintro s' ⟨h', tk, c, rfl, R, hcl, hk⟩
  exact ⟨.ref _, upd H s.heap.objs.size (SetSO X.w s.heap.objs.size _ c), I.laid (t' := tk) hk (Nat.le_refl _) (setSO_new R), rfl, q _ c hcl (I.hok.fresh (Nat.le_refl _))⟩
def rSortedSS (w : World) : List V → Hp → VK → Prop := fun vs H Q => ∃ (a : Addr) (S : Str → Bool) (n : Nat), vs = [V.ref a] ∧ H a = some (SetSO w a S n) ∧ n < 64 ∧
  ∀ (ys : List Str) (p : Addr), sortedS ys = true → ys.Nodup → (∀ k, k ∈ ys ↔ S k = true) → ys.length = n → H p = none → Q (.ref p) (upd H p (.lst (ys.map V.str)))
theorem cr_sortedSS (hc : X.calm = true) : CallR X (.builtin "sorted") (rSortedSS X.w) := by
  intro pins s σ H vs us Q I r h
  obtain ⟨a, S, n, rfl, ha, h64, q⟩ := h
  have R : SetS X.w s.heap a S n := (I.hok a _ ha).1
  rw [Vals.ref1 r]
  refine sorted_setS R (I.ok.hd hc) h64 fun s' p out c ys k g o hp hg hi hs hnd hm hl => ?_
  have hlen : (ys.map V.str).length ≤ sizeLine := by rw [List.length_map, hl, sizeLine_eq]; omega
  have hn : H p = none := I.hok.fresh hp
  have J : Inv X pins σ (upd H p (.lst (ys.map V.str))) s' := I.call' (ch := []) o (Un.laid k hp hn) (I.hok.laid k hp ⟨hlen, out.toList, c, vals_of_strs hi, hg⟩) (by rw [g]; exact I.bare) (fun _ z => nomatch z)
  exact ⟨.ref p, _, J, rfl, q ys p hs hnd hm hl hn⟩
end
/-! ### the rule -/
/-- the letters of a text in order, each once -/
def usortS (l : List Nat) : List Va := (usort (l.map Int.ofNat)).map fun i => Va.str [i.toNat]
theorem ltCps_sing {a b : Nat} : ltCps [b] [a] = decide (b < a) := by
  simp [ltCps]
  try (by_cases h : b < a <;> simp [h] <;> omega)
noncomputable section
def gSrtSetS (ws : List Va) (st : Sto) : Option (Va × Sto) := match ws with
  | [.str s] => @ite _ (s.length < 63) (Classical.propDecidable _) (some (.ref st.length, st ++ [.lst (usortS s)])) none
  | _ => none
def gSrtSetA (ws : List Va) (st : Sto) : Option (Va × Sto) := match ws with
  | [.str s] => gSrtSetS [.str s] st
  | ws => gSrtSet ws st
end
end T3
set_option maxHeartbeats 2000000
/-! T3: the rule of sorted(set(x)), x a text, a list or a tuple of ints -/
namespace T3
open PySem PySem.Spec PyProof.Rows L2
def fst1 (y : Str) : Int := (y.cps.getD 0 0 : Nat)
def IsSing (y : Str) : Prop := ∃ c, y = ⟨#[c]⟩
theorem rising_pw : ∀ (l : List Str) (p : Str), risingS p l = true → (∀ y ∈ p :: l, IsSing y) → ((p :: l).map fst1).Pairwise (· ≤ ·)
  | [], p, _, _ => by simp
  | x :: r, p, h, hs => by
    have h' : (!ltCps x.cps.toList p.cps.toList && risingS x r) = true := h
    rw [Bool.and_eq_true] at h'
    obtain ⟨h1, h2⟩ := h'
    have ih := rising_pw r x h2 fun y hy => hs y (List.mem_cons_of_mem _ hy)
    obtain ⟨a, rfl⟩ := hs p List.mem_cons_self
    obtain ⟨b, rfl⟩ := hs x (List.mem_cons_of_mem _ List.mem_cons_self)
    have hab : a ≤ b := by
      rw [ltCps_eq] at h1
      have : ¬ ([b] < [a]) := by simpa using h1
      rw [List.cons_lt_cons_iff] at this
      omega
    have h0 : fst1 ⟨#[a]⟩ ≤ fst1 ⟨#[b]⟩ := by
      show ((a : Nat) : Int) ≤ ((b : Nat) : Int)
      omega
    rw [List.map_cons]
    refine List.pairwise_cons.mpr ⟨fun y hy => ?_, ih⟩
    rw [List.map_cons] at ih hy
    rcases List.mem_cons.mp hy with z | z
    · rw [z]; exact h0
    · exact Int.le_trans h0 ((List.pairwise_cons.mp ih).1 y z)
theorem sorted_pw {l : List Str} (h : sortedS l = true) (hs : ∀ y ∈ l, IsSing y) : (l.map fst1).Pairwise (· ≤ ·) := by
  cases l with
  | nil => simp
  | cons x r => exact rising_pw r x h hs
theorem sing_fst {y : Str} (h : IsSing y) : (⟨#[(fst1 y).toNat]⟩ : Str) = y := by
  obtain ⟨c, rfl⟩ := h
  rfl
theorem usortS_of {s : List Nat} {ys : List Str} (h1 : sortedS ys = true) (h2 : ys.Nodup) (h3 : ∀ k, k ∈ ys ↔ ∃ c, c ∈ s ∧ k = ⟨#[c]⟩) : ys = (usort (s.map Int.ofNat)).map fun i => ⟨#[i.toNat]⟩ := by
  have hs : ∀ y ∈ ys, IsSing y := fun y hy => let ⟨c, _, e⟩ := (h3 y).mp hy; ⟨c, e⟩
  have nd : (ys.map fst1).Nodup := by
    unfold List.Nodup
    rw [List.pairwise_map]
    exact List.Pairwise.imp_of_mem (fun {x y} hx hy hne e => hne (by rw [← sing_fst (hs x hx), ← sing_fst (hs y hy), e])) h2
  have hp := lt_of_le_nodup _ (sorted_pw h1 hs) nd
  have e := usort_of (ns := s.map Int.ofNat) hp fun k => by
    rw [List.mem_map, List.mem_map]
    constructor
    · rintro ⟨y, hy, rfl⟩
      obtain ⟨c, hc, rfl⟩ := (h3 y).mp hy
      exact ⟨c, hc, rfl⟩
    · rintro ⟨c, hc, rfl⟩
      exact ⟨⟨#[c]⟩, (h3 _).mpr ⟨c, hc, rfl⟩, rfl⟩
  rw [← e, List.map_map]
  conv => lhs; rw [← List.map_id ys]
  exact List.map_congr_left fun y hy => (sing_fst (hs y hy)).symm
section
variable {X : Cx} {e : Expr} {f : Ev} {p1 p2 pos pos2 : Pos}
theorem de_srtsetS (hc : X.calm = true) (hm1 : X.mg "sorted" = none) (hm2 : X.mg "set" = none) (he : DE X e f) (hg1 : Gl X "sorted" := by rfl) (hg2 : Gl X "set" := by rfl)
    (hs : starEach [e] X.env = (false, eval e X.env) :: starEach [] X.env := by rfl)
    (hs2 : starEach [.Call (.Name "set" p2) [e] [] pos2] X.env = (false, eval (.Call (.Name "set" p2) [e] [] pos2) X.env) :: starEach [] X.env := by rfl) :
    DE X (.Call (.Name "sorted" p1) [.Call (.Name "set" p2) [e] [] pos2] [] pos) (eA gSrtSetS (aC f aN)) :=
  PEi (pe_callB (cr_sortedSS hc) hg1 hm1 (by rfl) (pa_cons (pe_callTy (cr_setS hc) hg2 hm2 (by rfl) (da_cons he da_nil hs) (by decide) (by decide) hs (by rfl)) pa_nil hs2) (by decide) (by decide) hs2 (by rfl)) fun σ H Q h => by
    obtain ⟨ρ, fm, st, w, st', R, e, T⟩ := h
    simp only [eA, Option.bind_eq_some_iff] at e
    obtain ⟨⟨ws, s1⟩, e1, e2⟩ := e
    dsimp only at e2
    refine ⟨ρ, fm, st, ws, s1, R, e1, fun ρ1 H1 p1 k1 R1 vs rv => ?_⟩
    unfold gSrtSetS at e2
    split at e2
    · rename_i s
      by_cases hn : s.length < 63
      · rw [if_pos hn] at e2
        cases e2
        obtain ⟨v, rfl, rv1⟩ := rep1 rv
        simp only [RepV] at rv1
        subst rv1
        refine ⟨⟨s.toArray⟩, rfl, by unfold scanBound; simp; omega, fun p0 c hcl hp0 => ?_⟩
        refine ⟨p0, _, c, rfl, upd_same, by simp at hcl; omega, fun ys p h1 h2 hm hl hp => ?_⟩
        have hys : ys = (usort (s.map Int.ofNat)).map fun i => ⟨#[i.toNat]⟩ := usortS_of h1 h2 fun k => by rw [hm]; simp
        have R2 : Rel X.K ρ1 fm s1 σ (upd H1 p0 (SetSO X.w p0 (fun j => decide (∃ c, c ∈ (⟨s.toArray⟩ : Str).cps.toList ∧ j = ⟨#[c]⟩)) c)) := ⟨R1.s.same (same_new hp0) (Kp.new hp0), R1.e.mono (List.prefix_refl _) (Kp.new hp0)⟩
        refine ((T.then p1 k1).then (List.prefix_refl _) (Kp.new hp0)).push R2 hp (o := .lst (usortS s)) ⟨_, upd_same, ?_⟩ _ (ref_last R2.s.rl)
        rw [hys]
        unfold usortS
        have key : ∀ {K : PySem.W.Frag} {ρ : List Addr} {H : Hp} (l : List Int), RepL K ρ H (l.map fun i => Va.str [i.toNat]) ((l.map fun i => (⟨#[i.toNat]⟩ : Str)).map V.str) := by
          intro K ρ H l
          induction l with
          | nil => exact RepL.nil
          | cons i l ih => exact RepL.cons (by simp only [RepV]) ih
        exact key _
      · rw [if_neg hn] at e2; cases e2
    · cases e2
theorem de_srtsetA (hc : X.calm = true) (hm1 : X.mg "sorted" = none) (hm2 : X.mg "set" = none) (he : DE X e f) (hg1 : Gl X "sorted" := by rfl) (hg2 : Gl X "set" := by rfl)
    (hs : starEach [e] X.env = (false, eval e X.env) :: starEach [] X.env := by rfl)
    (hs2 : starEach [.Call (.Name "set" p2) [e] [] pos2] X.env = (false, eval (.Call (.Name "set" p2) [e] [] pos2) X.env) :: starEach [] X.env := by rfl) :
    DE X (.Call (.Name "sorted" p1) [.Call (.Name "set" p2) [e] [] pos2] [] pos) (eA gSrtSetA (aC f aN)) := PEi (PE.orr (de_srtset hc hm1 hm2 he hg1 hg2 hs hs2) (de_srtsetS hc hm1 hm2 he hg1 hg2 hs hs2)) fun σ H Q h => by
  obtain ⟨ρ, fm, st, w, st', R, e, T⟩ := h
  simp only [eA, Option.bind_eq_some_iff] at e
  obtain ⟨⟨ws, s1⟩, e1, e2⟩ := e
  dsimp only at e2
  unfold gSrtSetA at e2
  split at e2
  · exact .inr ⟨ρ, fm, st, w, st', R, by simp only [eA, Option.bind_eq_some_iff]; exact ⟨_, e1, e2⟩, T⟩
  · exact .inl ⟨ρ, fm, st, w, st', R, by simp only [eA, Option.bind_eq_some_iff]; exact ⟨_, e1, e2⟩, T⟩
end
end T3
set_option maxHeartbeats 2000000
/-! T3: generator expressions under all: the element may call defs -/
namespace T3
open PySem PySem.Spec PyProof.Rows L2 GenW

/-- the names of a generator expression in a def with the names N -/
structure GxS (N : List Str) (sc scope : Scope) (x : Str) : Prop where
  kind : scope.kind = .function
  co : scope.isCoroutine = false
  cell : ∀ y ∈ scope.names, y.2 ≠ .cell
  dot : scope.names.lookup (".0" : Str) = some NameKind.local
  loc : scope.names.lookup x = some .local
  own : ∀ y ∈ scope.names, y.2 = .local → y.1 = ".0" ∨ y.1 = x
  free : ∀ y ∈ scope.names, y.2 = .free → sc.names.lookup y.1 = some .cell ∨ sc.names.lookup y.1 = some .free
  nd : (N ++ [x]).Nodup
  nod : (".0" : Str) ∉ N
def gxSB (N : List Str) (sc scope : Scope) (x : Str) : Bool :=
  decide (scope.kind = .function) && !scope.isCoroutine && scope.names.all (fun y => !decide (y.2 = .cell)) && decide (scope.names.lookup (".0" : Str) = some NameKind.local) && decide (scope.names.lookup x = some .local) &&
    scope.names.all (fun y => !decide (y.2 = .local) || decide (y.1 = ".0") || decide (y.1 = x)) && scope.names.all (fun y => !decide (y.2 = .free) || decide (sc.names.lookup y.1 = some .cell) || decide (sc.names.lookup y.1 = some .free)) &&
    decide (N ++ [x]).Nodup && !N.contains ".0"
theorem gxS_by {N : List Str} {sc scope : Scope} {x : Str} (h : gxSB N sc scope x = true) : GxS N sc scope x := by
  unfold gxSB at h
  simp only [Bool.and_eq_true, Bool.or_eq_true, Bool.not_eq_true', decide_eq_true_eq, decide_eq_false_iff_not, List.all_eq_true] at h
  obtain ⟨⟨⟨⟨⟨⟨⟨⟨h1, h2⟩, h3⟩, h4⟩, h5⟩, h6⟩, h7⟩, h8⟩, h9⟩ := h
  refine ⟨h1, h2, h3, h4, h5, fun y hy e => ?_, fun y hy e => ?_, h8, fun hm => ?_⟩
  · rcases h6 y hy with (q | q) | q
    · exact absurd e q
    · exact .inl q
    · exact .inr q
  · rcases h7 y hy with (q | q) | q
    · exact absurd e q
    · exact .inl q
    · exact .inr q
  · have : N.contains (".0" : Str) = true := List.contains_iff_mem.mpr hm
    rw [this] at h9; cases h9
abbrev gxEnv (X : Cx) (scope : Scope) (C : Addr) (code : Value) : Env := genEnv scope (cloFrom X.env.cells scope.names []) C code builtinsNs X.env
/-- the context of a generator expression's element -/
def gxCx (X : Cx) (B : Around) (s : Shared) (H : Hp) (ex : List Addr) (scope : Scope) (x : Str) (code : Value) : Cx where
  prog := X.prog
  w := X.w
  K := X.K
  mg := X.mg
  base := X.base
  A := B.deeper (gxEnv X scope s.heap.objs.size code)
  N := X.N ++ [x]
  s_0 := s
  H_0 := H
  env := gxEnv X scope s.heap.objs.size code
  outer := X.stack
  stack := gxEnv X scope s.heap.objs.size code :: X.stack
  ex := ex
  fn := fun _ => false
  calm := true
  pn := []
  xe := fun _ _ => False
section
variable {X : Cx} {pins : List (Addr × Obj)} {σ : L2.St} {H : Hp} {s : Shared}
theorem inv_eq {s' : Shared} (I : Inv X pins σ H s) (h1 : s'.heap = s.heap) (h2 : s'.os = s.os) (h3 : AllBare s'.gens) : Inv X pins σ H s' := by
  refine ⟨I.ok, h2.trans I.os, h3, ?_, ?_, ?_, I.free, I.freeC, ?_, ?_, I.len⟩
  · rw [h1]; exact I.base
  · rw [h1]; exact I.loc
  · rw [h1]; exact I.cell
  · rw [h1]; exact I.pin
  · rw [h1]; exact I.hok
theorem GxS.has {scope : Scope} {x : Str} (S : GxS X.N X.env.scope scope x) (ok : X.Ok) : ∀ y ∈ scope.names, y.2 = .free → ∃ c, X.env.cells.lookup y.1 = some c := fun y hy e =>
  (S.free y hy e).elim (fun k => ok.has _ (.inl k)) (fun k => ok.has _ (.inr k))
theorem gx_cm {scope : Scope} {x : Str} (S : GxS X.N X.env.scope scope x) (ok : X.Ok) {y : Str} {c : Addr} (e : (cloFrom X.env.cells scope.names []).lookup y = some c) : X.env.cells.lookup y = some c := by
  rcases cloFrom_mem (PySem.mem_of_lookup e) with hm | ⟨h1, h2⟩
  · cases hm
  · obtain ⟨d, hc⟩ := S.has ok _ h1 rfl
    have hc : X.env.cells.lookup y = some d := hc
    have e2 : c = d := by rw [h2, hc] <;> rfl
    rw [e2]; exact hc
/-- the generator's frame stands -/
theorem gx_start {B : Around} {scope : Scope} {x : Str} {code u : Value} {ex : List Addr} {s' : Shared} {a : Addr} {go : Obj} (I : Inv X pins σ H s) (S : GxS X.N X.env.scope scope x) (hB : B.frames = some X.stack) (hd : B.handled = none)
    (hex : ∀ b ∈ ex, FpOk X pins H b ∧ b < s.heap.objs.size) (hns : s'.heap.Ns s.heap.objs.size fun y => if y = ".0" then some u else none) (kp : ∀ b o, s.heap.get? b = some o → s'.heap.get? b = some o)
    (hos : s'.os = s.os) (hb : AllBare s'.gens) (ha : s.heap.objs.size < a) (hgo : s'.heap.get? a = some go) (hgd : ∀ v, go.data ≠ .cell v) :
    Inv (gxCx X B s H ex scope x code) [(a, go)] (σ ++ [none]) H s' := by
  have cm : ∀ {y c}, (cloFrom X.env.cells scope.names []).lookup y = some c → X.env.cells.lookup y = some c := fun {y c} e => gx_cm S I.ok e
  have frX : ∀ b ∈ frs X.stack, b = X.env.locals ∨ b ∈ X.fs := fun b z => by
    rcases List.mem_cons.mp (I.stkSub b z) with e | e
    · exact .inl e
    · exact .inr e
  have aX : a ∉ frs X.stack := fun z => by
    rcases frX a z with e | e
    · have := I.lt
      rw [e] at ha
      exact absurd (Nat.lt_trans this ha) (Nat.lt_irrefl _)
    · exact I.nofs (Nat.le_of_lt ha) e
  refine ⟨⟨I.ok.mod, S.kind, I.ok.glob, rfl, Nat.le_refl _, fun y z c e1 e2 => I.ok.inj y z c (cm e1) (cm e2), fun y hy => ?_, fun y c z _ => ?_, fun _ => hd, Around.frames_deeper hB, .inr ⟨rfl, rfl⟩, fun b hb' => ⟨?_, fun y c e => ?_⟩, I.bs, Nat.le_trans I.ok.bsz I.sz, fun b o e hb' => ?_,
      fun b hb' z => ?_, I.stack, I.stkFree⟩, hos, hb, Un.kept kp, ⟨_, hns, fun i y v e1 e2 e3 => ?_⟩, fun y c e => ?_, I.hok.fresh (Nat.le_refl _), fun y c e => ?_, fun p hp => ?_, I.hok.kept kp, ?_⟩
  · have hy : scope.names.lookup y = some .cell ∨ scope.names.lookup y = some .free := hy
    rcases hy with hy | hy
    · exact absurd rfl (S.cell _ (PySem.mem_of_lookup hy))
    · have hm : (y, NameKind.free) ∈ scope.names := PySem.mem_of_lookup hy
      exact mem_lookup (cloFrom_has (cells := X.env.cells) (acc := []) hm)
  · have z : false = true := z
    cases z
  · exact Nat.ne_of_lt (hex b hb').2
  · exact (hex b hb').1.2.2.2.2.1 y c (cm e)
  · rcases (hex b hb').1.2.2.2.1 with q | q
    · exact I.ok.noex b o e q
    · exact absurd (Nat.lt_of_lt_of_le (Heap.lt_size e) (Nat.le_trans I.ok.bsz q)) (Nat.lt_irrefl _)
  · rcases frX b z with q | q
    · exact (hex b hb').1.2.1 q
    · exact (hex b hb').1.2.2.1 q
  · have hi : i < σ.length := by
      rcases Nat.lt_or_ge i σ.length with q | q
      · exact q
      · rw [List.getElem?_append_right q] at e2
        rcases Nat.eq_zero_or_pos (i - σ.length) with z | z
        · rw [z] at e2; cases e2
        · rw [List.getElem?_eq_none_iff.mpr (by simp; omega)] at e2; cases e2
    have hiN : i < X.N.length := by rw [← I.len]; exact hi
    have e1 : (X.N ++ [x])[i]? = some y := e1
    rw [List.getElem?_append_left hiN] at e1
    rw [List.getElem?_append_left hi] at e2
    have yN : y ∈ X.N := List.mem_of_getElem? e1
    have e3 : Vis scope y := e3
    rcases e3 with k | k | k
    · rcases S.own _ (PySem.mem_of_lookup k) rfl with z | z
      · exact absurd (show (".0" : Str) ∈ X.N by rw [← show y = ".0" from z]; exact yN) S.nod
      · have nd := S.nd
        rw [List.nodup_append] at nd
        exact absurd (show y = x from z) (nd.2.2 y yN x (by simp))
    · exact absurd rfl (S.cell _ (PySem.mem_of_lookup k))
    · obtain ⟨m, hn, hl⟩ := I.loc
      have hf := S.free _ (PySem.mem_of_lookup k) rfl
      have hvis : Vis X.env.scope y := hf.elim (fun q => .inr (.inl q)) (fun q => .inr (.inr q))
      obtain ⟨u', r, q⟩ := hl i y v e1 e2 hvis
      have hm : (y, NameKind.free) ∈ scope.names := PySem.mem_of_lookup k
      obtain ⟨c2, h2⟩ := mem_lookup (cloFrom_has (cells := X.env.cells) (acc := []) hm)
      refine ⟨u', r, .inr ⟨.inr k, c2, h2, ?_⟩⟩
      have c1 := cm h2
      rcases q with ⟨k', _⟩ | ⟨_, c3, e', z⟩
      · have k' : X.env.scope.names.lookup y = some .local := k'
        rcases hf with q | q <;> rw [show X.env.scope.names.lookup y = _ from q] at k' <;> cases k'
      · rw [c1] at e'; cases e'
        obtain ⟨o, ho, hd'⟩ := z
        exact ⟨o, kp _ _ ho, hd'⟩
  · obtain ⟨v, o, ho, hd'⟩ := I.cell y c (cm e)
    exact ⟨v, o, kp _ _ ho, hd'⟩
  · exact I.freeC y c (cm e)
  · have : p = (a, go) := by simpa [gxCx] using hp
    subst this
    exact ⟨hgo, I.hok.fresh (Nat.le_of_lt ha), Nat.ne_of_gt ha, aX, hgd⟩
  · show (σ ++ [none]).length = (X.N ++ [x]).length
    rw [List.length_append, List.length_append, I.len]; rfl
end

/-! ### what it computes -/
section
open Classical
noncomputable def gxL (gd : Sto → Prop) (z : Bool) (fe : Ev) : List Va → Ev
  | [] => fun fm st => if gd st then some (.bl (!z), st) else none
  | w :: ws => fun fm st => if gd st then (fe (fm ++ [some w]) st).bind fun r => match r.1 with
    | .bl b => if b = z then some (.bl z, r.2) else gxL gd z fe ws fm r.2
    | _ => none else none
noncomputable def eGx (z : Bool) (fi : Fi) (fe : Ev) : Ev := fun fm st => (fi fm st).bind fun r => gxL r.1.gd z fe r.1.ws fm r.2
end
/-- behind a turn that tells the end -/
def GxFin (X' : Cx) (ρ0 : List Addr) (H0 : Hp) (pins' : List (Addr × Obj)) (stF : Sto) (s : Shared) : Prop :=
  ∃ ρ' H' σ', ρ0 <+: ρ' ∧ Kp X'.K H0 H' ∧ SRel X'.K ρ' stF H' ∧ Inv X' pins' σ' H' s
def GxR1 (X' : Cx) (ρ0 : List Addr) (H0 : Hp) (pins' : List (Addr × Obj)) (w : Va) (stF : Sto) (z : Bool) : GenEnd := fun _ _ r s₁ => r = .ok .next ∧ w = .bl (!z) ∧ GxFin X' ρ0 H0 pins' stF s₁
def GxY (X' : Cx) (ρ0 : List Addr) (H0 : Hp) (pins' : List (Addr × Obj)) (w : Va) (stF : Sto) (z : Bool) : Protocol := fun _ _ v s₁ kap =>
  ∃ b σ' H', v = .bool b ∧ Inv X' pins' σ' H' s₁ ∧ (b = z → w = .bl z ∧ GxFin X' ρ0 H0 pins' stF s₁) ∧ (b ≠ z → ∀ s2 : Shared, s2.heap = s₁.heap → s2.os = s₁.os → AllBare s2.gens → kap (.send .none) s2)

theorem over_comp {A : Around} {elt : Expr} {gens : List Comprehension} {sc : Scope} {pos : Pos} {u v : Value} {env : Env} : A.over (.compLoop (.GeneratorExp elt gens sc pos) 0 u v env) [] = A.deeper env := by
  first
    | rfl
    | (obtain ⟨hd, d, fr, gs, us⟩ := A; simp [Around.over, Around.deeper, marksOver, frameCount, unitsOf, envsOf, guardsOf, pushEnvs, pushGuards, Code.envs, Code.env?, Code.isFrame, Code.guards, Code.isGuard, Code.weight, Code.frames, Code.isCreation, Code.isCaller, Code.cUnits])
theorem sigma_set {σ : L2.St} {o : Option V} {v : V} : (σ ++ [o]).set σ.length (some v) = σ ++ [some v] := by simp

section
variable {X : Cx} {B : Around} {pins : List (Addr × Obj)} {σ : L2.St} {H : Hp} {s4 : Shared} {fp : List Addr} {it a : Addr} {go : Obj} {tn : Nat → Heap → Prop} {J : It} {S : Src} {scope : Scope} {x : Str} {px gpos : Pos} {code : Value} {elt iter : Expr} {fe : Ev} {z : Bool} {fm : Fm} {ρ : List Addr} {w : Va} {stF : Sto}
theorem gx_seg (S0 : GxS X.N X.env.scope scope x) (I : Inv X pins σ H s4) (T : Turn X.prog X.w X.K (.Name x px) J fp it tn) (hfp : ∀ b ∈ fp, FpOk X pins H b ∧ b < s4.heap.objs.size) (hJ : JOk X.K ρ H S J) (E : ERel X.K ρ fm σ H)
    (hel : DE (gxCx X B s4 H fp scope x code) elt fe) (hap : ∀ b ∈ fp, a ≠ b) :
    ∀ (l : List Va) (i : Nat), S.ws.drop i = l → i + l.length = S.ws.length → ∀ (s₀ s : Shared) (o : Option V) (H' : Hp) (ρ' : List Addr) (st' : Sto), Inv (gxCx X B s4 H fp scope x code) [(a, go)] (σ ++ [o]) H' s → tn i s.heap → (∀ b ∈ fp, H' b = none) →
      ρ <+: ρ' → Kp X.K H H' → SRel X.K ρ' st' H' → gxL S.gd z fe l fm st' = some (w, stF) →
      Seg (model X.prog X.w) B (GxR1 (gxCx X B s4 H fp scope x code) ρ H [(a, go)] w stF z) (GxY (gxCx X B s4 H fp scope x code) ρ H [(a, go)] w stF z) l.length s₀
        (.compLoop (.GeneratorExp elt [⟨.Name x px, iter, [], 0⟩] scope gpos) 0 (.ref it) .none (gxEnv X scope s4.heap.objs.size code))
        ((model X.prog X.w).den (.compLoop (.GeneratorExp elt [⟨.Name x px, iter, [], 0⟩] scope gpos) 0 (.ref it) .none (gxEnv X scope s4.heap.objs.size code))) [] s := by
  have fpx : ∀ {H' : Hp}, (∀ b ∈ fp, H' b = none) → ∀ b ∈ fp, FpOk (gxCx X B s4 H fp scope x code) [(a, go)] H' b := fun {H'} hn b hb => by
    obtain ⟨⟨f0, f1, f2, f3, f4, f5⟩, hl⟩ := hfp b hb
    refine ⟨hn b hb, Nat.ne_of_lt hl, fun hm => ?_, .inl hb, fun y c e => f4 y c (gx_cm S0 I.ok e), fun p hp => ?_⟩
    · rcases List.mem_cons.mp (I.stkSub b hm) with q | q
      · exact f1 q
      · exact f2 q
    · have : p = (a, go) := by simpa [gxCx] using hp
      subst this
      exact hap b hb
  intro l
  induction l with
  | nil =>
    intro i hdr hi s₀ s o H' ρ' st' I' htn hfn hp hk SR hg
    simp only [gxL] at hg
    split at hg
    · rename_i hgd
      have hstop := (hJ i ρ' fm st' σ H' hp hk ⟨SR, E.mono hp hk⟩ hgd).2 (by simpa using hi)
      cases hg
      show Seg _ B _ _ _ s₀ _ ((compTurn (.GeneratorExp elt [⟨.Name x px, iter, [], 0⟩] scope gpos) 0 (.ref it) .none (gxEnv X scope s4.heap.objs.size code)).onRaise (leaving (gxEnv X scope s4.heap.objs.size code))) [] s
      rw [compTurn_gen, Sem.onRaise_eq_wrap]
      refine seg_bind_wrap (wpAny_standAt ?_)
      refine seg_bind_wrap ?_
      rw [over_comp]
      refine wpAny_mono (T.done (gxCx X B s4 H fp scope x code) rfl rfl rfl rfl i _ s _ H' (fun _ _ => False) I' (fpx hfn) htn hstop) (fun r s1 q => ?_) (fun _ _ e => e.elim)
      obtain ⟨hr, I1⟩ := q
      subst hr
      exact seg_end (.ok .next) ⟨rfl, rfl, ρ', H', _, hp, hk, SR, I1⟩
    · cases hg
  | cons v0 l ih =>
    intro i hdr hi s₀ s o H' ρ' st' I' htn hfn hp hk SR hg
    simp only [gxL] at hg
    split at hg
    rotate_left
    · cases hg
    rename_i hgd
    have hv0 : S.ws[i]? = some v0 := by
      have : (S.ws.drop i)[0]? = some v0 := by rw [hdr]; rfl
      simpa using this
    have hdr2 : S.ws.drop (i + 1) = l := by
      rw [← List.drop_drop, hdr]; rfl
    obtain ⟨hgo, _⟩ := hJ i ρ' fm st' σ H' hp hk ⟨SR, E.mono hp hk⟩ hgd
    obtain ⟨jgo, jyl⟩ := hgo v0 hv0
    simp only [Option.bind_eq_some_iff] at hg
    obtain ⟨⟨bv, st2⟩, e1, e2⟩ := hg
    dsimp only at e2
    split at e2
    rotate_left
    · cases e2
    rename_i b
    show Seg _ B _ _ _ s₀ _ ((compTurn (.GeneratorExp elt [⟨.Name x px, iter, [], 0⟩] scope gpos) 0 (.ref it) .none (gxEnv X scope s4.heap.objs.size code)).onRaise (leaving (gxEnv X scope s4.heap.objs.size code))) [] s
    rw [compTurn_gen, Sem.onRaise_eq_wrap]
    refine seg_bind_wrap (wpAny_standAt ?_)
    refine seg_bind_wrap ?_
    rw [over_comp]
    refine wpAny_mono (T.item (gxCx X B s4 H fp scope x code) rfl rfl rfl rfl i _ s _ H' (fun _ _ => False) I' (fpx hfn) htn jgo) (fun r s1 q => ?_) (fun _ _ e => e.elim)
    obtain ⟨u, hr, h1⟩ := q
    subst hr
    refine seg_bind_wrap ?_
    rw [over_comp]
    refine wpAny_mono h1 (fun _ s2 q => ?_) (fun _ _ e => e.elim)
    obtain ⟨xv, H3, I3, rv, hy, htn3, hfn3⟩ := q
    obtain ⟨sm3, k3, rx3⟩ := jyl xv H3 hy
    refine seg_bind_wrap ?_
    rw [over_comp]
    have hlen : X.N.length = σ.length := I.len.symm
    have hix : (gxCx X B s4 H fp scope x code).N[σ.length]? = some x := by
      show (X.N ++ [x])[σ.length]? = some x
      rw [← hlen]; simp
    refine wpAny_assign_Name (store_ok2 (X := gxCx X B s4 H fp scope x code) I3 S0.nd hix (.inl S0.loc) rv (fun s3 I4 hch => ?_) (.inr S0.loc))
    rw [sigma_set] at I4
    have htn4 : tn (i + 1) s3.heap := T.keep _ _ _ htn3 fun c hc oc e => by
      obtain ⟨ac, sb, hac⟩ := hch
      refine (sb.2 c ?_).trans e
      rcases hac with q | q
      · rw [q]; exact Nat.ne_of_lt (hfp c hc).2
      · exact fun z => (hfp c hc).1.2.2.2.2.1 _ _ (gx_cm S0 I.ok q) z.symm
    simp only [List.forIn_nil]
    refine seg_bind_wrap (wpAny_pure ?_)
    simp only [if_true]
    have hyo : ∀ y, yieldOut (gxEnv X scope s4.heap.objs.size code) y = yieldValue y := fun y => by
      simp only [yieldOut, show (gxEnv X scope s4.heap.objs.size code).scope.isCoroutine = false from S0.co, Bool.false_eq_true, if_false]
    simp only [hyo]
    rw [Sem.bind_eq_wrap', Sem.bind_eq_wrap', Sem.wrap_wrap, Sem.wrap_wrap]
    refine seg_wrap ?_
    rw [over_comp]
    have I5 := I4.pinned (fpx hfn3) (T.obj _ _ htn4)
    have SR3 : SRel X.K ρ' st' H3 := SR.same sm3 k3
    have R3 : Rel X.K ρ' (fm ++ [some v0]) st' (σ ++ [some xv]) H3 := by
      refine ⟨SR3, ?_, fun j wv ej => ?_⟩
      · have := E.1
        simp [this]
      · have E3 := (E.mono hp (hk.trans k3))
        by_cases hj : j < fm.length
        · rw [List.getElem?_append_left hj] at ej
          obtain ⟨v, hv, rv'⟩ := E3.2 j wv ej
          exact ⟨v, by rw [List.getElem?_append_left (by rw [← E.1]; exact hj)]; exact hv, rv'⟩
        · have hj' : fm.length ≤ j := Nat.le_of_not_lt hj
          rw [List.getElem?_append_right hj'] at ej
          rcases Nat.eq_zero_or_pos (j - fm.length) with q | q
          · rw [q] at ej
            cases ej
            refine ⟨xv, ?_, rx3⟩
            rw [List.getElem?_append_right (by rw [← E.1]; exact hj'), ← E.1, q]; rfl
          · rw [List.getElem?_eq_none_iff.mpr (by simp; omega)] at ej; cases ej
    refine wpAny_mono (hel.run _ s3 _ H3 (fun v H6 => v = .bl b ∧ ∃ ρ6, ρ' <+: ρ6 ∧ Kp X.K H3 H6 ∧ SRel X.K ρ6 st2 H6) I5 ⟨ρ', _, st', .bl b, st2, R3, e1, fun ρ6 H6 p6 k6 R6 v rv6 => ⟨by simpa only [RepV] using rv6, ρ6, p6, k6, R6.s⟩⟩) (fun y s6 q => ?_) (fun _ _ e => e.elim)
    obtain ⟨yv, H6, I6, ry, rfl, ρ6, p6, k6, SR6⟩ := q
    obtain rfl : y = Value.bool b := ry
    have pin6 : ∀ c ∈ fp, ∃ oc, s3.heap.get? c = some oc ∧ s6.heap.get? c = some oc ∧ H6 c = none := fun c hc => by
      obtain ⟨oc, e, d⟩ := T.obj _ _ htn4 c hc
      have q := I6.pin (c, oc) (List.mem_append_right _ (List.mem_append_right _ (mem_pinsAt hc e)))
      exact ⟨oc, e, q.1, q.2.1⟩
    have I7 : Inv (gxCx X B s4 H fp scope x code) [(a, go)] (σ ++ [some xv]) H6 s6 := I6.unpinned
    have htn7 : tn (i + 1) s6.heap := T.keep _ _ _ htn4 fun c hc oc e => by
      obtain ⟨oc', e1', e2', _⟩ := pin6 c hc
      rw [e] at e1'; cases e1'
      exact e2'
    have hfn7 : ∀ c ∈ fp, H6 c = none := fun c hc => (pin6 c hc).choose_spec.2.2
    have p7 : ρ <+: ρ6 := List.IsPrefix.trans hp p6
    have k7 : Kp X.K H H6 := hk.trans (k3.trans k6)
    refine seg_at (seg_yield rfl rfl rfl ⟨b, _, H6, rfl, I7, fun hbz => ?_, fun hbz s8 g1 g2 g3 => ?_⟩)
    · rw [if_pos hbz] at e2
      cases e2
      exact ⟨rfl, ρ6, H6, _, p7, k7, SR6, I7⟩
    · rw [if_neg hbz] at e2
      refine seg_again rfl (ih (i + 1) hdr2 (by rw [List.length_cons] at hi; omega) s8 s8 (some xv) H6 ρ6 st2 (inv_eq I7 g1 g2 g3) (by rw [g1]; exact htn7) hfn7 p7 k7 SR6 e2)
end
end T3
set_option maxHeartbeats 2000000
/-! T3: generator expressions under all: the loop of all, the making, the rule -/
namespace T3
open PySem PySem.Spec PyProof.Rows L2 GenW

/-- the end of all, any -/
def GxEnd (X' : Cx) (ρ0 : List Addr) (H0 : Hp) (pins' : List (Addr × Obj)) (w : Va) (stF : Sto) (b : Bool) (s' : Shared) : Prop :=
  w = .bl b ∧ ∃ s1, GxFin X' ρ0 H0 pins' stF s1 ∧ s'.os = s1.os ∧ AllBare s'.gens ∧ ∀ c o, s1.heap.get? c = some o → s'.heap.get? c = some o
section
variable {X' : Cx} {A : Around} {ρ0 : List Addr} {H0 : Hp} {a : Addr} {g : Nat} {go : Obj} {w : Va} {stF : Sto}
theorem gx_all (hh : A.handled = none) (hd : A.depth < recursionLimit) (hgen : ∀ h : Heap, h.get? a = some go → h.IsGen a g) :
    ∀ (m : Nat) (s : Shared), s.heap.IsGen a g → s.heap.NoLimit →
      (∃ gs, s.gens[g]? = some gs ∧ gs.Goes (model X'.prog X'.w) A.in1.in1 (GxR1 X' ρ0 H0 [(a, go)] w stF false) (GxY X' ρ0 H0 [(a, go)] w stF false) m (.send .none) (s.setGen g .running)) →
      codeAny (model X'.prog X'.w) A (.builtin "all.loop" ⟨[.ref a], []⟩) (fun r s' => ∃ b, r = .ok (.ret (.bool b)) ∧ GxEnd X' ρ0 H0 [(a, go)] w stF b s') s := by
  have turn : ∀ (m : Nat) (s : Shared), s.heap.IsGen a g → s.heap.NoLimit →
      (∃ gs, s.gens[g]? = some gs ∧ gs.Goes (model X'.prog X'.w) A.in1.in1 (GxR1 X' ρ0 H0 [(a, go)] w stF false) (GxY X' ρ0 H0 [(a, go)] w stF false) m (.send .none) (s.setGen g .running)) →
      (∀ n, m = n + 1 → ∀ s2 : Shared, s2.heap.IsGen a g → s2.heap.NoLimit →
        (∃ gs, s2.gens[g]? = some gs ∧ gs.Goes (model X'.prog X'.w) A.in1.in1 (GxR1 X' ρ0 H0 [(a, go)] w stF false) (GxY X' ρ0 H0 [(a, go)] w stF false) n (.send .none) (s2.setGen g .running)) →
        codeAny (model X'.prog X'.w) A (.builtin "all.loop" ⟨[.ref a], []⟩) (fun r s' => ∃ b, r = .ok (.ret (.bool b)) ∧ GxEnd X' ρ0 H0 [(a, go)] w stF b s') s2) →
      codeAny (model X'.prog X'.w) A (.builtin "all.loop" ⟨[.ref a], []⟩) (fun r s' => ∃ b, r = .ok (.ret (.bool b)) ∧ GxEnd X' ρ0 H0 [(a, go)] w stF b s') s := by
    intro m s hg hl hgs0 next
    obtain ⟨gs, hgs, hgo⟩ := hgs0
    have hgl : g < s.gens.size := (Array.getElem?_eq_some_iff.mp hgs).1
    refine codeAny_builtin F.entry_all_loop ?_
    rw [Around.under_plainId F.plain_all_loop _]
    refine wpAny_bind (m := pyNext (.ref a)) (wpAny_gsz (n := g + 1) hgl (wpAny_pyNext_genexpQ (A := A.in1) (P := fun _ _ s₁ => w = .bl (!false) ∧ GxFin X' ρ0 H0 [(a, go)] stF s₁) hh hl hd hg hgs hgo (fun v s₁ gs' hbare hv => ?_) (fun s₁ hp h' hk => ?_)))
    · intro hsz
      obtain ⟨b, σ', H', rfl, I, h1, h2⟩ := hv
      refine wpAny_bind (wpAny_holding (wpAny_truthy_bool ?_))
      refine wpAny_bind (wpAny_letGo ?_)
      have bare1 : AllBare (s₁.setGen g gs').gens := allBare_setGen I.bare hbare
      cases b with
      | false =>
        obtain ⟨hw, hfin⟩ := h1 rfl
        simp only [Bool.false_eq_true, if_false]
        refine wpAny_bind (wpAny_rule (wpAny_pure ?_))
        exact ⟨false, rfl, hw, s₁, hfin, rfl, bare1, fun _ _ e => e⟩
      | true =>
        have kap := h2 (by decide)
        cases m with
        | zero => exact (kap s₁ rfl rfl I.bare).elim
        | succ n =>
          simp only [if_true]
          have hg1 : g < s₁.gens.size := by
            have q : (s₁.setGen g gs').gens.size = s₁.gens.size := setGen_size _ _ _
            have hsz' : g + 1 ≤ (s₁.setGen g gs').gens.size := hsz
            omega
          refine wpAny_pure ⟨plainId_quiet F.plain_all_loop _, next n rfl (s₁.setGen g gs') (hgen _ ?_) I.nolimit ⟨gs', setGen_at hg1, kap _ rfl rfl (allBare_setGen bare1 rfl)⟩⟩
          exact (I.pin (a, go) (List.mem_append_right _ (List.mem_singleton.mpr rfl))).1
    · intro hsz
      obtain ⟨hw, hfin⟩ := hp
      refine wpAny_bind (wpAny_rule (wpAny_pure ?_))
      obtain ⟨ρ', H', σ', _, _, _, I⟩ := id hfin
      exact ⟨true, rfl, hw, s₁, hfin, rfl, allBare_setGen I.bare rfl, hk⟩
  intro m
  induction m with
  | zero => exact fun s hg hl hgs => turn 0 s hg hl hgs fun n e => by cases e
  | succ m ih => exact fun s hg hl hgs => turn (m + 1) s hg hl hgs fun n e s2 => by cases e; exact ih s2
end

/-- the making of the generator -/
structure GxMade (X : Cx) (pins : List (Addr × Obj)) (σ : L2.St) (H2 : Hp) (fp : List Addr) (it : Addr) (tn : Nat → Heap → Prop) (ge : Value → Addr → Code) (s4 : Shared) (a : Addr) (s5 : Shared) : Prop where
  inv : Inv X pins σ H2 s4
  fpk : ∀ b ∈ fp, FpOk X pins H2 b ∧ b < s4.heap.objs.size
  tn0 : tn 0 s4.heap
  lt : s4.heap.objs.size < a
  os : s5.os = s4.os
  bare : AllBare s5.gens
  kp : ∀ b o, s4.heap.get? b = some o → s5.heap.get? b = some o
  ns : s5.heap.Ns s4.heap.objs.size fun y => if y = ".0" then some (.ref it) else none
  gen : ∃ go : Obj, (∀ v, go.data ≠ .cell v) ∧ s5.heap.get? a = some go ∧ ∀ h : Heap, h.get? a = some go → h.IsGen a s4.gens.size
  fresh : ∃ code, s5.gens[s4.gens.size]? = some (.fresh (ge code s4.heap.objs.size))
section
variable {X : Cx} {pins : List (Addr × Obj)} {σ : L2.St} {H : Hp} {s : Shared}
theorem gx_make {c P : Addr} {elt iter : Expr} {x : Str} {px gpos : Pos} {scope : Scope} {wi : TI} {k : Nat} {Q' : Value → Shared → Prop} {R : It → Hp → Prop}
    (hr : Room k X.A) (TB : GxR.TabB X.base X.mg c P) (hcode : X.env.code = .ref c) (S : GxS X.N X.env.scope scope x) (hi : PI X (.Name x px) iter wi) (hs : ∀ v, genFold iter X.env v = pure v) (I : Inv X pins σ H s)
    (h : wi σ H fun J H1 => TabH H1 P ∧ R J H1)
    (hQ : ∀ (it : Addr) (fp : List Addr) (tn : Nat → Heap → Prop) (J : It) (H1 H2 : Hp) (s4 s5 : Shared) (a : Addr), R J H1 → GxR.Tabbed P H1 H2 → TabH H1 P → Turn X.prog X.w X.K (.Name x px) J fp it tn →
      GxMade X pins σ H2 fp it tn (fun code C => .compStart (.GeneratorExp elt [⟨.Name x px, iter, [], 0⟩] scope gpos) 0 (.ref it) .none (gxEnv X scope C code)) s4 a s5 → Q' (.ref a) s5) :
    wpAny (model X.prog X.w) X.A (eval (.GeneratorExp elt [⟨.Name x px, iter, [], 0⟩] scope gpos) X.env) Q' X.xe s := by
  refine wpAny_GeneratorExp_make S.co (closure_ok (S.has I.ok)) S.cell S.dot S.kind hr.depth ?_ hs
  refine wpAny_mono (hi.run pins s σ H _ I h) (fun v s1 h1 => wpAny_mono h1 (fun itv s2 h2 => ?_) fun _ _ e => e) fun _ _ e => e
  obtain ⟨it, fp, tn, J, H1, rfl, I2, T, st2, f2, ⟨ps, hP, ht⟩, hR⟩ := h2
  refine ⟨I2.nolimit, ?_⟩
  have hPs : s2.heap.get? P = some { cls := .none, data := .fields ps } := I2.hok P _ hP
  have cd : PySem.W.CodeHd s2.heap c P := TB.code.keeps I2.bk
  have fne : ∀ b ∈ fp, b ≠ P := fun b hb e => by
    have q := (f2 b hb).1
    rw [e, hP] at q; cases q
  -- from the state behind the code object on
  have rest : ∀ (code : Value) (h3 : Heap) (tk : Nat) (more : Array Value), (∀ b u, b ≠ P → s2.heap.get? b = some u → h3.get? b = some u) → s2.heap.objs.size ≤ h3.objs.size → h3.get? P = some { cls := .none, data := .fields (ps ++ more) } → TriplesOk (ps ++ more).toList →
      wpAny (model X.prog X.w) X.A (builtinsFor X.env.globals X.env.builtins) (fun bi s4 => ∀ h' : Heap, h'.Ns s4.heap.objs.size (fun y => if y = ".0" then some (.ref it) else none) → Heap.SameBut s4.heap.objs.size (s4.heap.push { cls := .type "frame", data := .dict #[] }) h' →
        Q' (.ref h'.objs.size) { s4 with
          gens := s4.gens.push (.fresh (.compStart (.GeneratorExp elt [⟨.Name x px, iter, [], 0⟩] scope gpos) 0 (.ref it) .none (genEnv scope (cloFrom X.env.cells scope.names []) s4.heap.objs.size code bi X.env))),
          toks := s4.toks + 1 + 1 + 1, heap := h'.push { cls := .type "generator", data := .fields #[.int s4.gens.size 0, .str "<genexpr>" (s4.toks + 1), .str (X.env.qual ++ "<genexpr>") (s4.toks + 1 + 1)] } }) X.xe { s2 with heap := h3, toks := tk } := by
    intro code h3 tk more kp3 hsz hP3 ht3
    have I3 : Inv X pins σ (upd H1 P (.tbl (ps ++ more))) { s2 with heap := h3, toks := tk } := GxR.inv_tab (g' := s2.gens) (d' := s2.drawn) (t' := tk) I2 hP kp3 hP3 I2.bare
    obtain ⟨bm, ob, e1, e2, e3, e4, e5, e6, e7, e8⟩ := TB.bm
    refine wpAny_builtinsFor (m := X.mg) (by rw [I3.ok.glob]; exact I3.mod.glob.keeps I3.bk) e1 e2 (I3.bk _ _ e5) e6 e7 e8 fun h' hn' hs' => ?_
    have sz' : h'.objs.size = h3.objs.size + 1 := by
      rw [hs'.1]; exact Heap.size_push ..
    have kp' : ∀ b o, h3.get? b = some o → h'.get? b = some o := fun b o e => hs'.extBut b o (Nat.ne_of_lt (Heap.lt_size e)) (Heap.get?_push_of_some _ e)
    refine hQ it fp tn J H1 (upd H1 P (.tbl (ps ++ more))) { s2 with heap := h3, toks := tk } _ _ hR ⟨⟨ps ++ more, upd_same, ht3⟩, fun b hb => upd_ne hb⟩ ⟨ps, hP, ht⟩ T
      ⟨I3, fun b hb => ⟨⟨by rw [upd_ne (fne b hb)]; exact (f2 b hb).1, (f2 b hb).2⟩, ?_⟩, T.keep _ _ _ st2 fun b hb o e => kp3 b o (fne b hb) e, ?_, rfl, I2.bare.push rfl, fun b o e => Heap.get?_push_of_some _ (kp' b o e), hn'.push _, ?_, ⟨code, ?_⟩⟩
    · obtain ⟨o, e, _⟩ := T.obj _ _ st2 b hb
      exact Nat.lt_of_lt_of_le (Heap.lt_size e) hsz
    · show h3.objs.size < h'.objs.size
      rw [sz']; exact Nat.lt_succ_self _
    · exact ⟨{ cls := .type "generator", data := .fields #[.int s2.gens.size 0, .str "<genexpr>" (tk + 1), .str (X.env.qual ++ "<genexpr>") (tk + 1 + 1)] }, fun v q => (by cases q), Heap.get?_push_size _ rfl, fun h e => ⟨_, _, _, e, rfl, rfl, rfl⟩⟩
    · exact Array.getElem?_push_size ..
  cases hf : codeAmong gpos ps.toList with
  | none =>
    refine wpAny_genexprCodeX hcode (cd.code hPs ht) (cd.tab hPs) hf fun c' h' tk hx hge hlt hco' _ htab' _ => ?_
    obtain ⟨o1, vs, f1, tf, fl, tg, inF, tx, tt, op, _, _, _, _, _, _, _, _, _, htr, _⟩ := hco'
    exact rest _ h' tk _ hx (Nat.le_trans hge (Nat.le_of_lt hlt)) htab'.2 htr
  | some cv =>
    refine wpAny_genexprCode_hit hcode (cd.code hPs ht) hf ?_
    exact rest cv s2.heap s2.toks #[] (fun b u _ e => e) (Nat.le_refl _) (by rw [Array.append_empty]; exact hPs) (by rw [Array.append_empty]; exact ht)
end

theorem kp_tabbed {K : PySem.W.Frag} {P : Addr} {H H2 : Hp} (h : TabH H P) (t : GxR.Tabbed P H H2) : Kp K H H2 := fun b xs e => by
  rw [t.2 b (fun z => ?_)]
  · exact e
  · obtain ⟨ps, q, _⟩ := h
    rw [z, q] at e; cases e
theorem srel_tabbed {K : PySem.W.Frag} {ρ : List Addr} {st : Sto} {P : Addr} {H H2 : Hp} (h : TabH H P) (t : GxR.Tabbed P H H2) (S : SRel K ρ st H) : SRel K ρ st H2 := by
  have nP : ∀ b u, H b = some u → (∀ q, u ≠ .tbl q) → b ≠ P := fun b u e q z => by
    obtain ⟨ps, e2, _⟩ := h
    rw [z, e2] at e
    exact q ps (Option.some.inj e).symm
  have kp : Kp K H H2 := kp_tabbed h t
  refine ⟨S.rl, fun i o e => ?_, S.inj, fun P' hP' => ?_⟩
  · obtain ⟨a, e1, r⟩ := S.sto i o e
    refine ⟨a, e1, ?_⟩
    cases o with
    | lst ws => obtain ⟨vs, q, r⟩ := r; exact ⟨vs, by rw [t.2 a (nP a _ q (fun _ z => by cases z))]; exact q, RepL.mono (List.prefix_refl _) kp _ _ r⟩
    | rol ws => obtain ⟨vs, q, r⟩ := r; exact ⟨vs, q.keep fun o q => by rw [t.2 a (nP a _ q (fun _ z => by cases z))]; exact q, RepL.mono (List.prefix_refl _) kp _ _ r⟩
    | dic kvs => obtain ⟨ks, q, m, r⟩ := r; exact ⟨ks, by rw [t.2 a (nP a _ q (fun _ z => by cases z))]; exact q, m, RepL.mono (List.prefix_refl _) kp _ _ r⟩
    | dit kvs => obtain ⟨ks, q, m, r⟩ := r; exact ⟨ks, by rw [t.2 a (nP a _ q (fun _ z => by cases z))]; exact q, m, RepL.mono (List.prefix_refl _) kp _ _ r⟩
  · by_cases hb : P' = P
    · obtain ⟨ps, q, r⟩ := t.1
      rw [hb]; exact ⟨ps, q, r⟩
    · obtain ⟨ps, q, r⟩ := S.tb P' hP'
      exact ⟨ps, by rw [t.2 P' hb]; exact q, r⟩
theorem jok_tabbed {K : PySem.W.Frag} {ρ : List Addr} {P : Addr} {H H2 : Hp} {S : Src} {J : It} (h : TabH H P) (t : GxR.Tabbed P H H2) (j : JOk K ρ H S J) : JOk K ρ H2 S J :=
  fun i ρ' fm st σ H' hp hk R hg => j i ρ' fm st σ H' hp ((kp_tabbed h t).trans hk) R hg

/-- all(elt for x in iter) -/
theorem de_all {X : Cx} {k : Nat} {c P : Addr} {elt iter : Expr} {x : Str} {px p pos gpos : Pos} {scope : Scope} {fi : Fi} {fe : Ev} (hr : Room (k + 1) X.A) (hg : Gl X "all") (hm : X.mg "all" = none) (hb : bootBuiltins "all" = some (.builtin "all"))
    (TB : GxR.TabB X.base X.mg c P) (hP : IsTab X.K P) (hcode : X.env.code = .ref c) (S : GxS X.N X.env.scope scope x) (hi : DI X (.Name x px) iter fi) (hs : ∀ v, genFold iter X.env v = pure v)
    (hel : ∀ (B : Around) (s : Shared) (H : Hp) (ex : List Addr) (code : Value), Room k (B.deeper (gxEnv X scope s.heap.objs.size code)) → DE (gxCx X B s H ex scope x code) elt fe)
    (he : starEach [.GeneratorExp elt [⟨.Name x px, iter, [], 0⟩] scope gpos] X.env = (false, eval (.GeneratorExp elt [⟨.Name x px, iter, [], 0⟩] scope gpos) X.env) :: starEach [] X.env := by rfl) :
    DE X (.Call (.Name "all" p) [.GeneratorExp elt [⟨.Name x px, iter, [], 0⟩] scope gpos] [] pos) (eGx false fi fe) := by
  refine ⟨fun pins s σ H Q I h => ?_⟩
  obtain ⟨ρ, fm, st, w, stF, R0, e, Tq⟩ := h
  simp only [eGx, Option.bind_eq_some_iff] at e
  obtain ⟨⟨Sr, s1⟩, e1, e2⟩ := e
  refine wpAny_Call_Name_kw (ld_blt I hg hm hb ?_)
  refine PyProof.Rows.callWith_builtin1 ?_ he (by rfl)
  rw [he]
  refine Calls.spliced_cons (gx_make (R := fun J H1 => ∃ ρ1, ρ <+: ρ1 ∧ Kp X.K H H1 ∧ Rel X.K ρ1 fm s1 σ H1 ∧ JOk X.K ρ1 H1 Sr J) hr TB hcode S hi hs I ⟨ρ, fm, st, Sr, s1, R0, e1, fun ρ1 H1 p1 k1 R1 J hJ => ⟨R1.s.tb P hP, ρ1, p1, k1, R1, hJ⟩⟩ fun it fp tn J H1 H2 s4 s5 a hR tb th T M => ?_)
  obtain ⟨ρ1, p1, k1, R1, hJ⟩ := hR
  refine Calls.spliced_nil ?_
  obtain ⟨go, hgd, hga, hgen⟩ := M.gen
  obtain ⟨code, hfr⟩ := M.fresh
  have hA2 : (X.A.in1.in1).frames = some X.stack := I.ok.frames
  have k2 : Kp X.K H1 H2 := kp_tabbed th tb
  have J2 := jok_tabbed th tb hJ
  have S2 := srel_tabbed th tb R1.s
  have E2 := R1.e.mono (List.prefix_refl _) k2
  have hel' := hel X.A.in1.in1 s4 H2 fp code (by
    have hd := hr.hd
    have dp := hr.dp
    have un := hr.un
    refine ⟨hd, ?_, ?_⟩
    · show X.A.depth + 1 + 3 * k + 5 < _
      omega
    · show X.A.units + 1 + 1 + 3 + 16 * k + 200 < _
      omega)
  have hap : ∀ b ∈ fp, a ≠ b := fun b hb' z => by
    have h1 := (M.fpk b hb').2
    have h2 := M.lt
    rw [z] at h2
    exact absurd (Nat.lt_trans h1 h2) (Nat.lt_irrefl _)
  refine call_function_tree F.kind_all F.plain_all F.entry_all (F.args_all1 _) ?_
  unfold Builtin.«all»
  refine wpAny_bind (m := oneArg "all" _) (wpAny_pure ?_)
  refine wpAny_bind (wpAny_pyIter_gen (hgen _ hga) ?_)
  refine wpAny_pure ⟨plainId_quiet F.plain_all_loop _, ?_⟩
  have I0 : ∀ s : Shared, s.heap = s5.heap → s.os = s5.os → AllBare s.gens → Inv (gxCx X X.A.in1.in1 s4 H2 fp scope x code) [(a, go)] (σ ++ [none]) H2 s := fun s q1 q2 q3 =>
    gx_start M.inv S hA2 hr.hd M.fpk (by rw [q1]; exact M.ns) (by rw [q1]; exact M.kp) (q2.trans M.os) q3 M.lt (by rw [q1]; exact hga) hgd
  have lim5 : s5.heap.NoLimit := M.inv.nolimit.keeps M.kp
  have hgl : s4.gens.size < s5.gens.size := (Array.getElem?_eq_some_iff.mp hfr).1
  refine codeAny_mono (gx_all (X' := gxCx X X.A.in1.in1 s4 H2 fp scope x code) (A := X.A) (ρ0 := ρ1) (H0 := H2) (go := go) (w := w) (stF := stF) hr.hd hr.depth hgen Sr.ws.length s5 (hgen _ hga) lim5 ⟨_, hfr, rfl, ?_⟩) fun r s' q => ?_
  · -- the start
    have hb5 : AllBare (s5.setGen s4.gens.size .running).gens := allBare_setGen M.bare rfl
    have hst : tn 0 (s5.setGen s4.gens.size .running).heap := T.keep _ _ _ M.tn0 fun b hb' o e => M.kp b o e
    have loop := gx_seg (z := false) (iter := iter) (gpos := gpos) (px := px) (go := go) (fm := fm) (w := w) (stF := stF) S M.inv T M.fpk J2 E2 hel' hap Sr.ws 0 rfl (Nat.zero_add _) (s5.setGen s4.gens.size .running) (s5.setGen s4.gens.size .running) none H2 ρ1 s1
      (I0 _ rfl rfl hb5) hst (fun b hb' => (M.fpk b hb').1.1) (List.prefix_refl _) Kp.refl S2 e2
    show Seg _ X.A.in1.in1 _ _ _ _ _ ((compStart (.GeneratorExp elt [⟨.Name x px, iter, [], 0⟩] scope gpos) 0 (.ref it) .none (gxEnv X scope s4.heap.objs.size code)).onRaise (leaving (gxEnv X scope s4.heap.objs.size code))) [] _
    unfold compStart
    rw [Sem.onRaise_eq_wrap]
    show Seg _ X.A.in1.in1 _ _ _ _ _ ((ask >>= _).wrap _ _ _ _) [] _
    refine seg_bind_wrap (wpAny_askSetting ?_)
    split
    · exact seg_again rfl loop
    · refine seg_bind_wrap (wpAny_rule ?_)
      show Seg _ X.A.in1.in1 _ _ _ _ _ ((standAt iter.pos >>= _).wrap _ _ _ _) [] _
      exact seg_bind_wrap (wpAny_standAt (seg_bind_wrap (T.self _ 0 _ _ _ hst (seg_again rfl loop))))
  · obtain ⟨b, rfl, hw, s6, ⟨ρ6, H6, σ6, p6, k6, SR6, I6⟩, q1, q2, q3⟩ := q
    have I7 : Inv X pins σ H6 s' := by
      refine M.inv.call' (s' := s') (ch := fp) ?_ (Un.trans I6.base (Un.kept q3)) (I6.hok.kept q3) q2 fun b hb' => ?_
      · exact q1.trans I6.os
      · obtain ⟨⟨f0, f1, f2, f3, f4, f5⟩, hl⟩ := M.fpk b hb'
        exact ⟨f3, f1, f4, f5⟩
    refine ⟨.bl b, H6, I7, rfl, ?_⟩
    have kk : Kp X.K H H6 := k1.trans (k2.trans k6)
    have pp : ρ <+: ρ6 := List.IsPrefix.trans p1 p6
    refine Tq ρ6 H6 pp kk ⟨SR6, R0.e.mono pp kk⟩ (.bl b) ?_
    rw [hw]; simp only [RepV]
end T3
set_option maxHeartbeats 2000000
/-! T3: the law's end where code objects' tables may grow -/
namespace T3
open PySem PySem.Spec PyProof.Rows L2

/-- the code object of the def x, its table -/
structure TabOf (K : PySem.W.Frag) (x : Str) (fd : FuncData) (c P : Addr) : Prop where
  tab : PySem.W.tabIn K x = some (c, P)
  code : fd.code = .ref c
  nP : K.lookup P = none
theorem tabOf_mk {K : PySem.W.Frag} {x : Str} {f c P : Addr} {oc e : Value} {od dd : Option Addr} {fd : FuncData} {osl sl : Array (Option Value)} {vs : Array Value} (a : PySem.W.nsIn K mainGlobals x = some (some (.ref f))) (l : K.lookup f = some ⟨oc, od, .func fd, osl⟩)
    (hc : fd.code = .ref c) (q : K.lookup c = some ⟨e, dd, .fields vs, sl⟩) (v : vs[11]? = some (.ref P)) (nP : K.lookup P = none) : TabOf K x fd c P := by
  refine ⟨?_, hc, nP⟩
  unfold PySem.W.tabIn
  simp only [a, l, hc, q, v]
theorem tab_none {K : PySem.W.Frag} {x : Str} (a : PySem.W.nsIn K mainGlobals x = some none) : PySem.W.tabIn K x = none := by
  unfold PySem.W.tabIn
  simp only [a]

section
variable {P : Program} {w : World} {K : PySem.W.Frag} {mg : Str → Option Value} {base : Heap} {k : Nat} {f : Addr} {fd : FuncData} {ps : List Str} {np : Nat} {g : Fn}
/-- the promise, whether the script's list is told as a list or as a known one -/
def spL (K : PySem.W.Frag) (g : Fn) (np : Nat) : Sp := fun vs H Q E => ∃ Q0 : V → Prop, (∀ v H', Q0 v → Q v H') ∧
  (spD K g np vs H (fun v _ => Q0 v) E ∨ ∃ a xs, H a = some (.lst xs) ∧ ∀ o, spD K g np vs (upd H a (.frz o (.lst xs))) (fun v _ => Q0 v) E)
theorem ok_lock (F : FnOk P w K mg base CX0 k f fd ps (spD K g np)) : FnOk P w K mg base CX0 k f fd ps (spL K g np) := by
  refine ⟨fun vs H Q E h => ?_, fun A outer s H args us vs Q E hr e0 hb r h => ?_⟩
  · obtain ⟨Q0, _, h | ⟨a, xs, _, h⟩⟩ := h
    · exact F.len vs H _ E h
    · exact F.len vs _ _ E (h default)
  · obtain ⟨Q0, hQ, h | ⟨a, xs, ha, h⟩⟩ := h
    · refine codeAny_mono (F.run A outer s H args us vs _ E hr e0 hb r h) fun rr s' q => ?_
      cases rr with
      | error e => exact q
      | ok fl =>
        cases fl with
        | ret u => obtain ⟨v, H', h1, h2, h3, h4, h5, h6⟩ := q; exact ⟨v, H', h1, h2, h3, h4, h5, hQ _ _ h6⟩
        | next => exact q
        | brk => exact q
        | cont => exact q
    · have oka := e0.hok a _ ha
      obtain ⟨hz, its, n, rv, hget⟩ := id oka
      let od : Obj := { cls := .type "list", data := .seq its.toArray n }
      have nn : ∀ b, H b = none → upd H a (.frz od (.lst xs)) b = none := fun b e => by
        rw [upd_ne (fun z => by rw [z, ha] at e; cases e)]; exact e
      have hok : HOk P w (upd H a (.frz od (.lst xs))) s.heap := fun b u e => by
        by_cases hba : b = a
        · subst hba
          rw [upd_same] at e
          cases e
          exact ⟨hget, hz, its, n, rv, hget⟩
        · rw [upd_ne hba] at e
          refine (e0.hok b u e).stay (fun c v _ q => q) (fun c q => ?_) fun c ys q => ?_
          · rw [upd_ne (fun z => by rw [z, ha] at q; cases q)]; exact q
          · rw [upd_ne (fun z => by rw [z, ha] at q; cases q)]; exact q
      have e1 : Env0 P w K mg base A outer s (upd H a (.frz od (.lst xs))) := ⟨e0.frames, e0.mod, fun b o e => ⟨(e0.bs b o e).1, nn b (e0.bs b o e).2⟩, e0.bsz, e0.funs, fun b hb => nn b (e0.frf b hb), hok, e0.bare⟩
      refine codeAny_mono (F.run A outer s _ args us vs _ E hr e1 hb r (h od)) fun rr s' q => ?_
      cases rr with
      | error e => exact q.elim
      | ok fl =>
        cases fl with
        | next => exact q
        | brk => exact q
        | cont => exact q
        | ret u =>
          obtain ⟨v, H', h1, h2, un, hok', h5, h6⟩ := q
          have fz : H' a = some (.frz od (.lst xs)) := un.frzs a od _ upd_same
          have back : ∀ b u, upd H a (.frz od (.lst xs)) b = some u → b ≠ a → H b = some u := fun b u e n => by rw [upd_ne n] at e; exact e
          have ne2 : ∀ b u, H b = some u → (∀ ys, u ≠ .lst ys) → b ≠ a := fun b u e n z => by
            rw [z, ha] at e
            exact n xs (Option.some.inj e).symm
          have ne3 : ∀ b u, H' b = some u → (∀ o' u', u ≠ .frz o' u') → b ≠ a := fun b u e n z => by
            rw [z, fz] at e
            exact n _ _ (Option.some.inj e).symm
          refine ⟨v, upd H' a (.lst xs), h1, h2, ⟨fun b o e n => un.keep b o e (nn b n), fun b o e n => un.slot b o e (nn b n), fun b o e n hx => ?_, un.there, fun b ys e => ?_, fun b o x e => ?_, fun b qs e => ?_⟩, fun b u' e => ?_, h5, hQ _ _ h6⟩
          · have q := un.free b o e (nn b n) hx
            rw [upd_ne (fun z => by rw [z, ha] at n; cases n)]; exact q
          · have nb := ne2 b _ e (fun _ z => nomatch z)
            rw [upd_ne nb]
            exact un.tups b ys (by rw [upd_ne nb]; exact e)
          · have nb := ne2 b _ e (fun _ z => nomatch z)
            rw [upd_ne nb]
            exact un.frzs b o x (by rw [upd_ne nb]; exact e)
          · have nb := ne2 b _ e (fun _ z => nomatch z)
            rw [upd_ne nb]
            exact un.tbls b qs (by rw [upd_ne nb]; exact e)
          · by_cases hba : b = a
            · subst hba
              rw [upd_same] at e
              cases e
              obtain ⟨_, x⟩ := hok' b _ fz
              exact x.stay (fun c v _ q => q) (fun c q => by rw [upd_ne (ne3 c _ q (fun _ _ z => nomatch z))]; exact q) fun c ys q => by rw [upd_ne (ne3 c _ q (fun _ _ z => nomatch z))]; exact q
            · rw [upd_ne hba] at e
              exact (hok' b u' e).stay (fun c v _ q => q) (fun c q => by rw [upd_ne (ne3 c _ q (fun _ _ z => nomatch z))]; exact q) fun c ys q => by rw [upd_ne (ne3 c _ q (fun _ _ z => nomatch z))]; exact q
end

/-- the end of a law row -/
theorem walk_T {l : PySem.W.OpenLaw} {n k : Nat} {q : Program} {loose : List Str} {XP : (Str → Option Value) → Heap → Prop} {YP : World → Heap → Prop} {d : DefRec} {K : Params → PySem.W.Frag} {g : Fn}
    (hn : l.most = some n) (hn2 : n ≤ sizeLine) (hdf : d.params.defaults = []) (hr : Room k callerA) (hY : ∀ (w : World) (h : Heap), YP w h → (K w.params).In h)
    (hT : ∀ (w : World) (x : Str) (c P : Addr), x ∈ gxDefs → PySem.W.tabIn (K w.params) x = some (c, P) → ((recsOf q).find? fun e => e.name == x).isSome = true ∧ (K w.params).lookup P = none)
    (F : ∀ (w : World) (mg : Str → Option Value) (fa : Addr) (h : Heap), (K w.params).In h → h.Ns mainGlobals mg → mg d.name = some (.ref fa) →
      ∃ fd : FuncData, (∀ (s : Shared) (u : Value), BindsTo s fd ⟨[u], []⟩ [("script", u)]) ∧
        ∀ base : Heap, (K w.params).In base → base.Ns mainGlobals mg → (∀ x c P, x ∈ gxDefs → PySem.W.tabIn (K w.params) x = some (c, P) → GxR.TabB base mg c P) → FnOk l.prog w (K w.params) mg base CX0 k fa fd ["script"] (spD (K w.params) g 1))
    (hlaw : ∀ ns : List Int, ns.length ≤ n → ∃ s', g [.ref 0] [.rol (ns.map Va.int)] = some (.bl true, s')) :
    PySem.W.WalkO q loose XP YP l.row.toRowW d [] (fun f vs => PySem.call f vs) := by
  refine Att.attach_callB hn hdf fun w s₀ s₁ mg mb fa o pm cd doc a vs ns G Y ho hd hcd hmg hobj hints hlen hbits hg => ?_
  have KX := hY w _ Y
  obtain ⟨fd, hb, hF⟩ := F w mg fa _ KX G.T.g hmg
  have mem : ∀ p ∈ gxDefs.filterMap (PySem.W.tabIn (K w.params)), ∃ x ∈ gxDefs, PySem.W.tabIn (K w.params) x = some p := fun p hp => List.mem_filterMap.mp hp
  have two : ∀ p ∈ gxDefs.filterMap (PySem.W.tabIn (K w.params)), PySem.W.CodeHd s₁.heap p.1 p.2 ∧ s₁.heap.get? p.2 = some { cls := .none, data := .fields #[] } := fun p hp => by
    obtain ⟨x, hx, ht⟩ := mem p hp
    obtain ⟨dx, hdx⟩ := Option.isSome_iff_exists.mp (hT w x p.1 p.2 hx ht).1
    exact PySem.W.tab_of G.T KX hdx ht
  refine LamX.law_callTs (cs := gxDefs.filterMap (PySem.W.tabIn (K w.params))) (sp := spL (K w.params) g 1) KX G.T.g G.T.b G.T.builtins G.T.nolimit hg (fun p hp => (two p hp).2) (fun p hp => ?_) (fun p hp => (two p hp).1) G.T.bmain hobj hints (Nat.le_trans hlen hn2) hr
    (fun base KB NB TB => ok_lock (hF base KB NB fun x c P hx ht => ?_)) hb (fun H hH hS => ?_) fun H e s' h => h
  · obtain ⟨x, hx, ht⟩ := mem p hp
    exact (hT w x p.1 p.2 hx ht).2
  · have t := TB (c, P) (List.mem_filterMap.mpr ⟨x, hx, ht⟩)
    exact ⟨t.code, t.bm, t.gP⟩
  · obtain ⟨s', e⟩ := hlaw ns hlen
    have hTb : ∀ P, IsTab (K w.params) P → H P = some (.tbl #[]) := fun P hP => by
      obtain ⟨x, c, hx, ht⟩ := hP
      exact hH (c, P) (List.mem_filterMap.mpr ⟨x, hx, ht⟩)
    refine ⟨fun v => v = .bl true, fun v _ h => h, ?_⟩
    rcases hS with (h | ⟨o, h⟩) | h
    · refine .inr ⟨a, _, h, fun o => end_of (fun P hP => ⟨#[], ?_, trivial⟩) (.inl ⟨o, upd_same⟩) e⟩
      rw [upd_ne (fun z => by rw [← z, hTb P hP] at h; cases h)]
      exact hTb P hP
    · exact .inl (end_of (fun P hP => ⟨#[], hTb P hP, trivial⟩) (.inl ⟨o, h⟩) e)
    · exact .inl (end_of (fun P hP => ⟨#[], hTb P hP, trivial⟩) (.inr (.inr h)) e)
end T3
set_option maxHeartbeats 4000000
namespace L_k14
open PySem PySem.Spec PyProof.Rows L2 T3
def topS (i : Nat) : Stmt := PySem.Challenge.pw_threescribes_k14_each_condition_of_box_m.main.body.getD i (.Pass ⟨0, 0, 0, 0⟩)
abbrev s__law_mix : Stmt := topS 17
abbrev s__law_stream : Stmt := topS 18
abbrev s__law_pick : Stmt := topS 19
abbrev s__law_goals : Stmt := topS 20
abbrev s__law_string : Stmt := topS 21
abbrev s__law_row : Stmt := topS 22
abbrev s__law_news : Stmt := topS 23
abbrev s__law_boxes : Stmt := topS 24
abbrev s__law_sized : Stmt := topS 27
abbrev s__law_small : Stmt := topS 26
abbrev s__law_letters : Stmt := topS 28
abbrev s__law_number : Stmt := topS 25
abbrev s__law_is_goals : Stmt := topS 29
abbrev s__law_is_row : Stmt := topS 30
abbrev s__law_once : Stmt := topS 31
abbrev s__law_is_entry : Stmt := topS 32
abbrev s__law_is_boxes : Stmt := topS 33
abbrev s__law_sizes : Stmt := topS 35
abbrev s__law_rows : Stmt := topS 37
abbrev s__law_put : Stmt := topS 34
abbrev s__law_with_entry : Stmt := topS 36
abbrev s__law_things : Stmt := topS 38
abbrev s_is_tuple_of : Stmt := topS 5
abbrev s_is_string : Stmt := topS 3
abbrev s_is_letters : Stmt := topS 2
abbrev s_is_number : Stmt := topS 4
abbrev s_is_goals : Stmt := topS 6
abbrev s_boxes_in : Stmt := topS 8
abbrev s__once : Stmt := topS 11
abbrev s__is_item : Stmt := topS 9
abbrev s__is_row : Stmt := topS 10
abbrev s__is_entry : Stmt := topS 13
abbrev s__is_state : Stmt := topS 14
abbrev s__is_end : Stmt := topS 12
abbrev s_is_boxes : Stmt := topS 15
abbrev s_law : Stmt := topS 39
/-- what the top has written -/
structure Txt (K : PySem.W.Frag) (mg : Str → Option Value) (base : Heap) where
  a__law_mix : Addr
  fd__law_mix : FuncData
  F__law_mix : Fun K "_law_mix" "_law_mix" s__law_mix a__law_mix fd__law_mix
  b__law_mix : Binds K fd__law_mix ["cell", "k"] []
  g__law_mix : mg "_law_mix" = some (.ref a__law_mix)
  a__law_stream : Addr
  fd__law_stream : FuncData
  F__law_stream : Fun K "_law_stream" "_law_stream" s__law_stream a__law_stream fd__law_stream
  b__law_stream : Binds K fd__law_stream ["script", "most"] []
  g__law_stream : mg "_law_stream" = some (.ref a__law_stream)
  a__law_pick : Addr
  fd__law_pick : FuncData
  F__law_pick : Fun K "_law_pick" "_law_pick" s__law_pick a__law_pick fd__law_pick
  b__law_pick : Binds K fd__law_pick ["draws", "many"] []
  g__law_pick : mg "_law_pick" = some (.ref a__law_pick)
  a__law_goals : Addr
  fd__law_goals : FuncData
  F__law_goals : Fun K "_law_goals" "_law_goals" s__law_goals a__law_goals fd__law_goals
  b__law_goals : Binds K fd__law_goals ["draws", "many", "width"] []
  g__law_goals : mg "_law_goals" = some (.ref a__law_goals)
  a__law_string : Addr
  fd__law_string : FuncData
  F__law_string : Fun K "_law_string" "_law_string" s__law_string a__law_string fd__law_string
  b__law_string : Binds K fd__law_string ["draws"] []
  g__law_string : mg "_law_string" = some (.ref a__law_string)
  a__law_row : Addr
  fd__law_row : FuncData
  F__law_row : Fun K "_law_row" "_law_row" s__law_row a__law_row fd__law_row
  b__law_row : Binds K fd__law_row ["draws", "boxes"] []
  g__law_row : mg "_law_row" = some (.ref a__law_row)
  a__law_news : Addr
  fd__law_news : FuncData
  F__law_news : Fun K "_law_news" "_law_news" s__law_news a__law_news fd__law_news
  b__law_news : Binds K fd__law_news ["draws", "many"] []
  g__law_news : mg "_law_news" = some (.ref a__law_news)
  a__law_boxes : Addr
  fd__law_boxes : FuncData
  F__law_boxes : Fun K "_law_boxes" "_law_boxes" s__law_boxes a__law_boxes fd__law_boxes
  b__law_boxes : Binds K fd__law_boxes ["draws", "letters", "most", "boxes", "classes"] []
  g__law_boxes : mg "_law_boxes" = some (.ref a__law_boxes)
  a__law_sized : Addr
  fd__law_sized : FuncData
  F__law_sized : Fun K "_law_sized" "_law_sized" s__law_sized a__law_sized fd__law_sized
  b__law_sized : Binds K fd__law_sized ["thing", "size"] []
  g__law_sized : mg "_law_sized" = some (.ref a__law_sized)
  a__law_small : Addr
  fd__law_small : FuncData
  F__law_small : Fun K "_law_small" "_law_small" s__law_small a__law_small fd__law_small
  b__law_small : Binds K fd__law_small ["thing"] []
  g__law_small : mg "_law_small" = some (.ref a__law_small)
  a__law_letters : Addr
  fd__law_letters : FuncData
  F__law_letters : Fun K "_law_letters" "_law_letters" s__law_letters a__law_letters fd__law_letters
  b__law_letters : Binds K fd__law_letters ["thing"] []
  g__law_letters : mg "_law_letters" = some (.ref a__law_letters)
  a__law_number : Addr
  fd__law_number : FuncData
  F__law_number : Fun K "_law_number" "_law_number" s__law_number a__law_number fd__law_number
  b__law_number : Binds K fd__law_number ["thing", "many"] []
  g__law_number : mg "_law_number" = some (.ref a__law_number)
  a__law_is_goals : Addr
  fd__law_is_goals : FuncData
  F__law_is_goals : Fun K "_law_is_goals" "_law_is_goals" s__law_is_goals a__law_is_goals fd__law_is_goals
  b__law_is_goals : Binds K fd__law_is_goals ["thing", "width"] []
  g__law_is_goals : mg "_law_is_goals" = some (.ref a__law_is_goals)
  a__law_is_row : Addr
  fd__law_is_row : FuncData
  F__law_is_row : Fun K "_law_is_row" "_law_is_row" s__law_is_row a__law_is_row fd__law_is_row
  b__law_is_row : Binds K fd__law_is_row ["thing", "many"] []
  g__law_is_row : mg "_law_is_row" = some (.ref a__law_is_row)
  a__law_once : Addr
  fd__law_once : FuncData
  F__law_once : Fun K "_law_once" "_law_once" s__law_once a__law_once fd__law_once
  b__law_once : Binds K fd__law_once ["rows"] []
  g__law_once : mg "_law_once" = some (.ref a__law_once)
  a__law_is_entry : Addr
  fd__law_is_entry : FuncData
  F__law_is_entry : Fun K "_law_is_entry" "_law_is_entry" s__law_is_entry a__law_is_entry fd__law_is_entry
  b__law_is_entry : Binds K fd__law_is_entry ["thing", "states", "many"] []
  g__law_is_entry : mg "_law_is_entry" = some (.ref a__law_is_entry)
  a__law_is_boxes : Addr
  fd__law_is_boxes : FuncData
  F__law_is_boxes : Fun K "_law_is_boxes" "_law_is_boxes" s__law_is_boxes a__law_is_boxes fd__law_is_boxes
  b__law_is_boxes : Binds K fd__law_is_boxes ["thing"] []
  g__law_is_boxes : mg "_law_is_boxes" = some (.ref a__law_is_boxes)
  a__law_sizes : Addr
  fd__law_sizes : FuncData
  F__law_sizes : Fun K "_law_sizes" "_law_sizes" s__law_sizes a__law_sizes fd__law_sizes
  b__law_sizes : Binds K fd__law_sizes ["row"] []
  g__law_sizes : mg "_law_sizes" = some (.ref a__law_sizes)
  a__law_rows : Addr
  fd__law_rows : FuncData
  F__law_rows : Fun K "_law_rows" "_law_rows" s__law_rows a__law_rows fd__law_rows
  b__law_rows : Binds K fd__law_rows ["row", "many"] []
  g__law_rows : mg "_law_rows" = some (.ref a__law_rows)
  a__law_put : Addr
  fd__law_put : FuncData
  F__law_put : Fun K "_law_put" "_law_put" s__law_put a__law_put fd__law_put
  b__law_put : Binds K fd__law_put ["row", "at", "thing"] []
  g__law_put : mg "_law_put" = some (.ref a__law_put)
  a__law_with_entry : Addr
  fd__law_with_entry : FuncData
  F__law_with_entry : Fun K "_law_with_entry" "_law_with_entry" s__law_with_entry a__law_with_entry fd__law_with_entry
  b__law_with_entry : Binds K fd__law_with_entry ["boxes", "q", "k", "c", "entry"] []
  g__law_with_entry : mg "_law_with_entry" = some (.ref a__law_with_entry)
  a__law_things : Addr
  fd__law_things : FuncData
  F__law_things : Fun K "_law_things" "_law_things" s__law_things a__law_things fd__law_things
  b__law_things : Binds K fd__law_things ["draws", "boxes"] []
  g__law_things : mg "_law_things" = some (.ref a__law_things)
  a_is_tuple_of : Addr
  fd_is_tuple_of : FuncData
  F_is_tuple_of : Fun K "is_tuple_of" "is_tuple_of" s_is_tuple_of a_is_tuple_of fd_is_tuple_of
  b_is_tuple_of : Binds K fd_is_tuple_of ["thing", "size"] []
  g_is_tuple_of : mg "is_tuple_of" = some (.ref a_is_tuple_of)
  a_is_string : Addr
  fd_is_string : FuncData
  F_is_string : Fun K "is_string" "is_string" s_is_string a_is_string fd_is_string
  b_is_string : Binds K fd_is_string ["thing"] []
  g_is_string : mg "is_string" = some (.ref a_is_string)
  tc_is_string : Addr
  tp_is_string : Addr
  to_is_string : TabOf K "is_string" fd_is_string tc_is_string tp_is_string
  tb_is_string : GxR.TabB base mg tc_is_string tp_is_string
  a_is_letters : Addr
  fd_is_letters : FuncData
  F_is_letters : Fun K "is_letters" "is_letters" s_is_letters a_is_letters fd_is_letters
  b_is_letters : Binds K fd_is_letters ["thing"] []
  g_is_letters : mg "is_letters" = some (.ref a_is_letters)
  a_is_number : Addr
  fd_is_number : FuncData
  F_is_number : Fun K "is_number" "is_number" s_is_number a_is_number fd_is_number
  b_is_number : Binds K fd_is_number ["thing", "many"] []
  g_is_number : mg "is_number" = some (.ref a_is_number)
  a_is_goals : Addr
  fd_is_goals : FuncData
  F_is_goals : Fun K "is_goals" "is_goals" s_is_goals a_is_goals fd_is_goals
  b_is_goals : Binds K fd_is_goals ["thing", "width"] []
  g_is_goals : mg "is_goals" = some (.ref a_is_goals)
  tc_is_goals : Addr
  tp_is_goals : Addr
  to_is_goals : TabOf K "is_goals" fd_is_goals tc_is_goals tp_is_goals
  tb_is_goals : GxR.TabB base mg tc_is_goals tp_is_goals
  a_boxes_in : Addr
  fd_boxes_in : FuncData
  F_boxes_in : Fun K "boxes_in" "boxes_in" s_boxes_in a_boxes_in fd_boxes_in
  b_boxes_in : Binds K fd_boxes_in ["row"] []
  g_boxes_in : mg "boxes_in" = some (.ref a_boxes_in)
  a__once : Addr
  fd__once : FuncData
  F__once : Fun K "_once" "_once" s__once a__once fd__once
  b__once : Binds K fd__once ["rows"] []
  g__once : mg "_once" = some (.ref a__once)
  a__is_item : Addr
  fd__is_item : FuncData
  F__is_item : Fun K "_is_item" "_is_item" s__is_item a__is_item fd__is_item
  b__is_item : Binds K fd__is_item ["item", "many"] []
  g__is_item : mg "_is_item" = some (.ref a__is_item)
  a__is_row : Addr
  fd__is_row : FuncData
  F__is_row : Fun K "_is_row" "_is_row" s__is_row a__is_row fd__is_row
  b__is_row : Binds K fd__is_row ["thing", "many"] []
  g__is_row : mg "_is_row" = some (.ref a__is_row)
  tc__is_row : Addr
  tp__is_row : Addr
  to__is_row : TabOf K "_is_row" fd__is_row tc__is_row tp__is_row
  tb__is_row : GxR.TabB base mg tc__is_row tp__is_row
  a__is_entry : Addr
  fd__is_entry : FuncData
  F__is_entry : Fun K "_is_entry" "_is_entry" s__is_entry a__is_entry fd__is_entry
  b__is_entry : Binds K fd__is_entry ["thing", "states", "many"] []
  g__is_entry : mg "_is_entry" = some (.ref a__is_entry)
  tc__is_entry : Addr
  tp__is_entry : Addr
  to__is_entry : TabOf K "_is_entry" fd__is_entry tc__is_entry tp__is_entry
  tb__is_entry : GxR.TabB base mg tc__is_entry tp__is_entry
  a__is_state : Addr
  fd__is_state : FuncData
  F__is_state : Fun K "_is_state" "_is_state" s__is_state a__is_state fd__is_state
  b__is_state : Binds K fd__is_state ["thing", "width", "classes", "states", "many"] []
  g__is_state : mg "_is_state" = some (.ref a__is_state)
  tc__is_state : Addr
  tp__is_state : Addr
  to__is_state : TabOf K "_is_state" fd__is_state tc__is_state tp__is_state
  tb__is_state : GxR.TabB base mg tc__is_state tp__is_state
  a__is_end : Addr
  fd__is_end : FuncData
  F__is_end : Fun K "_is_end" "_is_end" s__is_end a__is_end fd__is_end
  b__is_end : Binds K fd__is_end ["thing", "many"] []
  g__is_end : mg "_is_end" = some (.ref a__is_end)
  a_is_boxes : Addr
  fd_is_boxes : FuncData
  F_is_boxes : Fun K "is_boxes" "is_boxes" s_is_boxes a_is_boxes fd_is_boxes
  b_is_boxes : Binds K fd_is_boxes ["thing"] []
  g_is_boxes : mg "is_boxes" = some (.ref a_is_boxes)
  tc_is_boxes : Addr
  tp_is_boxes : Addr
  to_is_boxes : TabOf K "is_boxes" fd_is_boxes tc_is_boxes tp_is_boxes
  tb_is_boxes : GxR.TabB base mg tc_is_boxes tp_is_boxes
  a_law : Addr
  fd_law : FuncData
  F_law : Fun K "law" "law" s_law a_law fd_law
  b_law : Binds K fd_law ["script"] []
  g_law : mg "law" = some (.ref a_law)
  m_all : mg "all" = none
  m_bool : mg "bool" = none
  m_int : mg "int" = none
  m_isinstance : mg "isinstance" = none
  m_len : mg "len" = none
  m_list : mg "list" = none
  m_min : mg "min" = none
  m_range : mg "range" = none
  m_set : mg "set" = none
  m_sorted : mg "sorted" = none
  m_str : mg "str" = none
  m_sum : mg "sum" = none
  m_tuple : mg "tuple" = none
  t_SMALL : Tok
  c_SMALL : mg "SMALL" = some (.str "abcdefghijklmnopqrstuvwxyz" t_SMALL)
section
variable {P : Program} {w : World} {K : PySem.W.Frag} {mg : Str → Option Value} {base : Heap}
noncomputable def m__law_mix : Fn := fn 3 2 (sCons (sSet 2 (eB gMod (eA gInt (aC (eB gAdd (eB gAdd (eB gMul (eV 0) (eC (.int 48271))) (eB gMul (eV 1) (eC (.int 69621)))) (eC (.int 11))) aN)) (eC (.int 2147483647))))
  (sCons (sRet (eB gMod (eB gMod (eA gInt (aC (eB gAdd (eB gAdd (eB gAdd (eB gMul (eV 2) (eV 2)) (eB gMul (eV 0) (eC (.int 40692)))) (eB gMul (eV 1) (eC (.int 7)))) (eC (.int 3))) aN)) (eC (.int 1000003))) (eC (.int 1000))))
  sNil))
theorem sc__law_mix : FnScope ["cell", "k", "low"] ["cell", "k"] (defScope s__law_mix) := ⟨rfl, rfl, rfl, by decide +kernel, rfl, by decide +kernel, by decide +kernel⟩
theorem w__law_mix (T : Txt K mg base) : FnOk P w K mg base CX0 2 T.a__law_mix T.fd__law_mix ["cell", "k"] (spD K m__law_mix 2) := by
  refine ok_def (k := 1) T.F__law_mix sc__law_mix rfl rfl (by decide) fun cdv A outer sh H E hr => ?_
  have sc := sc__law_mix
  have hu1 := hu_of hr
  have hu64 := hr.units
  have hu65 := hu65_of hr
  exact (dss_cons (ds_set (i := 2) sc.nd rfl (by first | exact .inl rfl | exact .inr rfl) (de_mod (de_T _ _ cInt (by decide +kernel) T.m_int (da_cons (de_add (de_add (de_mul (de_v (pv 0)) de_int) (de_mul (de_v (pv 1)) de_int)) de_int) da_nil)) de_int))
  (dss_cons (ds_ret (de_mod (de_mod (de_T _ _ cInt (by decide +kernel) T.m_int (da_cons (de_add (de_add (de_add (de_mul (de_v (pv 2)) (de_v (pv 2))) (de_mul (de_v (pv 0)) de_int)) (de_mul (de_v (pv 1)) de_int)) de_int) da_nil)) de_int) de_int))
  dss_nil))
noncomputable def m__law_stream : Fn := fn 6 2 (sCons (sSet 2 (eLst aN))
  (sCons (sFor (iR1 (eA gMin (aC (eA gLen (aC (eV 0) aN)) (aC (eC (.int 63)) aN)))) (gN 3) (sCons (sSet 4 (eB gIx (eV 0) (eV 3)))
  (sCons (sIf (bB gGe (eV 4) (eB gPow (eC (.int 10)) (eC (.int 18)))) (sCons (sFor (iR1 (eC (.int 60))) (gN 5) (sCons (sIf (bAnd (bB gGt (eV 4) (eC (.int 0))) (bB gLt (eA gLen (aC (eV 2) aN)) (eV 1))) (sCons (sEx (eMt "list" gApp (eV 2) (aC (eB gMod (eA gInt (aC (eV 4) aN)) (eC (.int 1000))) aN)))
  (sCons (sSet 4 (eB gDiv (eV 4) (eC (.int 1000))))
  sNil)) sNil)
  sNil))
  sNil) (sCons (sFor (iR1 (eC (.int 4))) (gN 5) (sCons (sIf (bB gLt (eA gLen (aC (eV 2) aN)) (eV 1)) (sCons (sEx (eMt "list" gApp (eV 2) (aC (eCall 2 m__law_mix (aC (eV 4) (aC (eB gAdd (eB gMul (eC (.int 64)) (eV 5)) (eV 3)) aN))) aN)))
  sNil) sNil)
  sNil))
  sNil))
  sNil)))
  (sCons (sRet (eDic (pC (eC (.str [114, 111, 119])) (eV 2) (pC (eC (.str [97, 116])) (eC (.int 0)) (pC (eC (.str [115, 101, 101, 100])) (eB gAdd (eA gSum (aC (eV 2) aN)) (eA gLen (aC (eV 2) aN))) pN)))))
  sNil)))
theorem sc__law_stream : FnScope ["script", "most", "row", "k", "rest", "j"] ["script", "most"] (defScope s__law_stream) := ⟨rfl, rfl, rfl, by decide +kernel, rfl, by decide +kernel, by decide +kernel⟩
theorem w__law_stream (T : Txt K mg base) : FnOk P w K mg base CX0 3 T.a__law_stream T.fd__law_stream ["script", "most"] (spD K m__law_stream 2) := by
  refine ok_def (k := 2) T.F__law_stream sc__law_stream rfl rfl (by decide) fun cdv A outer sh H E hr => ?_
  have sc := sc__law_stream
  have hu1 := hu_of hr
  have hu64 := hr.units
  have hu65 := hu65_of hr
  exact (dss_cons (ds_set (i := 2) sc.nd rfl (by first | exact .inl rfl | exact .inr rfl) (de_lst da_nil))
  (dss_cons (ds_for PassesOwn.never rfl (di_r1 rfl T.m_range (de_B _ _ (cMin rfl) (by decide +kernel) T.m_min (da_cons (de_B _ _ cLen (by decide +kernel) T.m_len (da_cons (de_v (pv 0)) da_nil)) (da_cons de_int da_nil)))) (dg_n (i := 3) sc.nd rfl (by first | exact .inl rfl | exact .inr rfl)) (dss_cons (ds_set (i := 4) sc.nd rfl (by first | exact .inl rfl | exact .inr rfl) (de_ix2 (de_v (pv 0)) (de_v (pv 3)) hu1))
  (dss_cons (ds_if (dt_ge (de_v (pv 4)) (de_pow de_int de_int)) (dss_cons (ds_for PassesOwn.never rfl (di_r1 rfl T.m_range de_int) (dg_n (i := 5) sc.nd rfl (by first | exact .inl rfl | exact .inr rfl)) (dss_cons (ds_if (dt_w (dw_and (dt_gt (de_v (pv 4)) de_int) (dw_and1 (dt_lt (de_B _ _ cLen (by decide +kernel) T.m_len (da_cons (de_v (pv 2)) da_nil)) (de_v (pv 1)))))) (dss_cons (ds_ex (de_app (de_v (pv 2)) (de_mod (de_T _ _ cInt (by decide +kernel) T.m_int (da_cons (de_v (pv 4)) da_nil)) de_int)))
  (dss_cons (ds_set (i := 4) sc.nd rfl (by first | exact .inl rfl | exact .inr rfl) (de_div (de_v (pv 4)) de_int))
  dss_nil)) dss_nil)
  dss_nil))
  dss_nil) (dss_cons (ds_for PassesOwn.never rfl (di_r1 rfl T.m_range de_int) (dg_n (i := 5) sc.nd rfl (by first | exact .inl rfl | exact .inr rfl)) (dss_cons (ds_if (dt_lt (de_B _ _ cLen (by decide +kernel) T.m_len (da_cons (de_v (pv 2)) da_nil)) (de_v (pv 1))) (dss_cons (ds_ex (de_app (de_v (pv 2)) (de_call ((w__law_mix T).mono (by omega)) hr rfl T.g__law_mix T.F__law_mix.kp T.b__law_mix (da_cons (de_v (pv 4)) (da_cons (de_add (de_mul de_int (de_v (pv 5))) (de_v (pv 3))) da_nil)))))
  dss_nil) dss_nil)
  dss_nil))
  dss_nil))
  dss_nil)))
  (dss_cons (ds_ret (de_dic (dps_cons (de_str rfl) (de_v (pv 2)) (dps_cons (de_str rfl) de_int (dps_cons (de_str rfl) (de_add (de_B _ _ (cSum rfl) (by decide +kernel) T.m_sum (da_cons (de_v (pv 2)) da_nil)) (de_B _ _ cLen (by decide +kernel) T.m_len (da_cons (de_v (pv 2)) da_nil))) dps_nil))) rfl rfl (by simp) (by decide)))
  dss_nil)))
noncomputable def m__law_pick : Fn := fn 4 2 (sCons (sSet 2 (eB gIx (eV 0) (eC (.str [97, 116]))))
  (sCons (sPut (eV 0) (eC (.str [97, 116])) (eB gAdd (eV 2) (eC (.int 1))))
  (sCons (sSet 3 (eCall 2 m__law_mix (aC (eB gIx (eV 0) (eC (.str [115, 101, 101, 100]))) (aC (eV 2) aN))))
  (sCons (sIf (bB gLt (eV 2) (eA gLen (aC (eB gIx (eV 0) (eC (.str [114, 111, 119]))) aN))) (sCons (sSet 3 (eB gIx (eB gIx (eV 0) (eC (.str [114, 111, 119]))) (eV 2)))
  sNil) sNil)
  (sCons (sRet (eB gMod (eA gInt (aC (eV 3) aN)) (eV 1)))
  sNil)))))
theorem sc__law_pick : FnScope ["draws", "many", "at", "number"] ["draws", "many"] (defScope s__law_pick) := ⟨rfl, rfl, rfl, by decide +kernel, rfl, by decide +kernel, by decide +kernel⟩
theorem w__law_pick (T : Txt K mg base) : FnOk P w K mg base CX0 3 T.a__law_pick T.fd__law_pick ["draws", "many"] (spD K m__law_pick 2) := by
  refine ok_def (k := 2) T.F__law_pick sc__law_pick rfl rfl (by decide) fun cdv A outer sh H E hr => ?_
  have sc := sc__law_pick
  have hu1 := hu_of hr
  have hu64 := hr.units
  have hu65 := hu65_of hr
  exact (dss_cons (ds_set (i := 2) sc.nd rfl (by first | exact .inl rfl | exact .inr rfl) (de_ix2 (de_v (pv 0)) (de_str rfl) hu1))
  (dss_cons (ds_put (de_v (pv 0)) (de_str rfl) (de_add (de_v (pv 2)) de_int) hu1)
  (dss_cons (ds_set (i := 3) sc.nd rfl (by first | exact .inl rfl | exact .inr rfl) (de_call ((w__law_mix T).mono (by omega)) hr rfl T.g__law_mix T.F__law_mix.kp T.b__law_mix (da_cons (de_ix2 (de_v (pv 0)) (de_str rfl) hu1) (da_cons (de_v (pv 2)) da_nil))))
  (dss_cons (ds_if (dt_lt (de_v (pv 2)) (de_B _ _ cLen (by decide +kernel) T.m_len (da_cons (de_ix2 (de_v (pv 0)) (de_str rfl) hu1) da_nil))) (dss_cons (ds_set (i := 3) sc.nd rfl (by first | exact .inl rfl | exact .inr rfl) (de_ix2 (de_ix2 (de_v (pv 0)) (de_str rfl) hu1) (de_v (pv 2)) hu1))
  dss_nil) dss_nil)
  (dss_cons (ds_ret (de_mod (de_T _ _ cInt (by decide +kernel) T.m_int (da_cons (de_v (pv 3)) da_nil)) (de_v (pv 1))))
  dss_nil)))))
noncomputable def m__law_goals : Fn := fn 6 3 (sCons (sSet 3 (eLst aN))
  (sCons (sFor (iR1 (eV 1)) (gN 4) (sCons (sEx (eMt "list" gApp (eV 3) (aC (eA gTuple (aC (eLc (iR1 (eV 2)) (gN 5) bYes (eCall 2 m__law_pick (aC (eV 0) (aC (eV 1) aN))) [5]) aN)) aN)))
  sNil))
  (sCons (sRet (eA gTuple (aC (eV 3) aN)))
  sNil)))
theorem sc__law_goals : FnScope ["draws", "many", "width", "goals", "c", "k"] ["draws", "many", "width"] (defScope s__law_goals) := ⟨rfl, rfl, rfl, by decide +kernel, rfl, by decide +kernel, by decide +kernel⟩
theorem w__law_goals (T : Txt K mg base) : FnOk P w K mg base CX0 4 T.a__law_goals T.fd__law_goals ["draws", "many", "width"] (spD K m__law_goals 3) := by
  refine ok_def (k := 3) T.F__law_goals sc__law_goals rfl rfl (by decide) fun cdv A outer sh H E hr => ?_
  have sc := sc__law_goals
  have hu1 := hu_of hr
  have hu64 := hr.units
  have hu65 := hu65_of hr
  exact (dss_cons (ds_set (i := 3) sc.nd rfl (by first | exact .inl rfl | exact .inr rfl) (de_lst da_nil))
  (dss_cons (ds_for PassesOwn.never rfl (di_r1 rfl T.m_range (de_v (pv 1))) (dg_n (i := 4) sc.nd rfl (by first | exact .inl rfl | exact .inr rfl)) (dss_cons (ds_ex (de_app (de_v (pv 3)) (de_T _ _ cTuple (by decide +kernel) T.m_tuple (da_cons (de_lc (own := [("k", 5)]) [5] rfl sc.nd (di_r1 rfl T.m_range (de_v (pv 2))) (blkOk_by (own := [("k", 5)]) (N := ["draws", "many", "width", "goals", "c", "k"]) (sc := defScope s__law_goals) (by decide +kernel)) (fun _ _ _ _ _ => (dg_n (i := 5) sc.nd rfl (by first | exact .inl rfl | exact .inr rfl))) (fun _ _ _ _ _ => dts_nil) (fun _ _ _ _ _ => (de_call ((w__law_pick T).mono (by omega)) hr rfl T.g__law_pick T.F__law_pick.kp T.b__law_pick (da_cons (de_v (pv 0)) (da_cons (de_v (pv 1)) da_nil)))) rfl (by decide)) da_nil))))
  dss_nil))
  (dss_cons (ds_ret (de_T _ _ cTuple (by decide +kernel) T.m_tuple (da_cons (de_v (pv 3)) da_nil)))
  dss_nil)))
noncomputable def m__law_string : Fn := fn 1 1 (sCons (sRet (eB gIx (eLst (aC (eC (.str [])) (aC (eC (.str [97])) (aC (eC (.str [])) (aC (eC (.str [98])) (aC (eC (.str [97, 98])) (aC (eC (.str [])) (aC (eC (.str [98, 97])) (aC (eC (.str [122])) aN))))))))) (eCall 2 m__law_pick (aC (eV 0) (aC (eC (.int 8)) aN)))))
  sNil)
theorem sc__law_string : FnScope ["draws"] ["draws"] (defScope s__law_string) := ⟨rfl, rfl, rfl, by decide +kernel, rfl, by decide +kernel, by decide +kernel⟩
theorem w__law_string (T : Txt K mg base) : FnOk P w K mg base CX0 4 T.a__law_string T.fd__law_string ["draws"] (spD K m__law_string 1) := by
  refine ok_def (k := 3) T.F__law_string sc__law_string rfl rfl (by decide) fun cdv A outer sh H E hr => ?_
  have sc := sc__law_string
  have hu1 := hu_of hr
  have hu64 := hr.units
  have hu65 := hu65_of hr
  exact (dss_cons (ds_ret (de_ix2 (de_lst (da_cons (de_str rfl) (da_cons (de_str rfl) (da_cons (de_str rfl) (da_cons (de_str rfl) (da_cons (de_str rfl) (da_cons (de_str rfl) (da_cons (de_str rfl) (da_cons (de_str rfl) da_nil))))))))) (de_call ((w__law_pick T).mono (by omega)) hr rfl T.g__law_pick T.F__law_pick.kp T.b__law_pick (da_cons (de_v (pv 0)) (da_cons de_int da_nil))) hu1))
  dss_nil)
noncomputable def m__law_row : Fn := fn 5 2 (sCons (sSet 2 (eLst (aC (eCall 1 m__law_string (aC (eV 0) aN)) aN)))
  (sCons (sFor (iA (eV 1)) (gN 3) (sCons (sSet 2 (eB gAdd (eV 2) (eLst (aC (eV 3) (aC (eCall 1 m__law_string (aC (eV 0) aN)) aN)))))
  sNil))
  (sCons (sRet (eA gTuple (aC (eLc (iA (eV 2)) (gN 4) (bB gNe (eV 4) (eC (.str []))) (eV 4) [4]) aN)))
  sNil)))
theorem sc__law_row : FnScope ["draws", "boxes", "row", "box", "item"] ["draws", "boxes"] (defScope s__law_row) := ⟨rfl, rfl, rfl, by decide +kernel, rfl, by decide +kernel, by decide +kernel⟩
theorem w__law_row (T : Txt K mg base) : FnOk P w K mg base CX0 5 T.a__law_row T.fd__law_row ["draws", "boxes"] (spD K m__law_row 2) := by
  refine ok_def (k := 4) T.F__law_row sc__law_row rfl rfl (by decide) fun cdv A outer sh H E hr => ?_
  have sc := sc__law_row
  have hu1 := hu_of hr
  have hu64 := hr.units
  have hu65 := hu65_of hr
  exact (dss_cons (ds_set (i := 2) sc.nd rfl (by first | exact .inl rfl | exact .inr rfl) (de_lst (da_cons (de_call ((w__law_string T).mono (by omega)) hr rfl T.g__law_string T.F__law_string.kp T.b__law_string (da_cons (de_v (pv 0)) da_nil)) da_nil)))
  (dss_cons (ds_for PassesOwn.never rfl (di_a (de_v (pv 1))) (dg_n (i := 3) sc.nd rfl (by first | exact .inl rfl | exact .inr rfl)) (dss_cons (ds_set (i := 2) sc.nd rfl (by first | exact .inl rfl | exact .inr rfl) (de_add (de_v (pv 2)) (de_lst (da_cons (de_v (pv 3)) (da_cons (de_call ((w__law_string T).mono (by omega)) hr rfl T.g__law_string T.F__law_string.kp T.b__law_string (da_cons (de_v (pv 0)) da_nil)) da_nil)))))
  dss_nil))
  (dss_cons (ds_ret (de_T _ _ cTuple (by decide +kernel) T.m_tuple (da_cons (de_lc (own := [("item", 4)]) [4] rfl sc.nd (di_a (de_v (pv 2))) (blkOk_by (own := [("item", 4)]) (N := ["draws", "boxes", "row", "box", "item"]) (sc := defScope s__law_row) (by decide +kernel)) (fun _ _ _ _ _ => (dg_n (i := 4) sc.nd rfl (by first | exact .inl rfl | exact .inr rfl))) (fun _ _ _ _ _ => (dts_one (dt_ne hu64 (de_v (pv 4)) (de_str rfl)))) (fun _ _ _ _ _ => (de_v (pv 4))) rfl (by decide)) da_nil)))
  dss_nil)))
noncomputable def m__law_news : Fn := fn 6 2 (sCons (sSet 2 (eLc (iR1 (eV 1)) (gN 3) bYes (eLst aN) [3]))
  (sCons (sFor (iR1 (eV 1)) (gN 3) (sCons (sSet 4 (eCall 2 m__law_pick (aC (eV 0) (aC (eB gAdd (eV 1) (eC (.int 3))) aN))))
  (sCons (sIf (bB gGe (eV 4) (eV 1)) (sCons (sSet 4 (eV 3))
  sNil) sNil)
  (sCons (sIf (bB gGt (eCall 2 m__law_pick (aC (eV 0) (aC (eC (.int 9)) aN))) (eC (.int 0))) (sCons (sEx (eMt "list" gIns (eB gIx (eV 2) (eV 4)) (aC (eB gMul (eCall 2 m__law_pick (aC (eV 0) (aC (eC (.int 2)) aN))) (eA gLen (aC (eB gIx (eV 2) (eV 4)) aN))) (aC (eV 3) aN))))
  sNil) sNil)
  sNil))))
  (sCons (sRet (eA gTuple (aC (eLc (iA (eV 2)) (gN 5) bYes (eCall 2 m__law_row (aC (eV 0) (aC (eV 5) aN))) [5]) aN)))
  sNil)))
theorem sc__law_news : FnScope ["draws", "many", "rows", "box", "goal", "row"] ["draws", "many"] (defScope s__law_news) := ⟨rfl, rfl, rfl, by decide +kernel, rfl, by decide +kernel, by decide +kernel⟩
theorem w__law_news (T : Txt K mg base) : FnOk P w K mg base CX0 6 T.a__law_news T.fd__law_news ["draws", "many"] (spD K m__law_news 2) := by
  refine ok_def (k := 5) T.F__law_news sc__law_news rfl rfl (by decide) fun cdv A outer sh H E hr => ?_
  have sc := sc__law_news
  have hu1 := hu_of hr
  have hu64 := hr.units
  have hu65 := hu65_of hr
  exact (dss_cons (ds_lc (own := [("box", 3)]) [3] (i := 2) rfl sc.nd rfl rfl (sw_true rfl rfl rfl (by decide +kernel)) (di_r1 rfl T.m_range (de_v (pv 1))) (blkOk_by (own := [("box", 3)]) (N := ["draws", "many", "rows", "box", "goal", "row"]) (sc := defScope s__law_news) (by decide +kernel)) (fun _ _ _ _ _ => (dg_n (i := 3) sc.nd rfl (by first | exact .inl rfl | exact .inr rfl))) (fun _ _ _ _ _ => dts_nil) (fun _ _ _ _ _ => (de_lst da_nil)) rfl (by decide))
  (dss_cons (ds_for PassesOwn.never rfl (di_r1 rfl T.m_range (de_v (pv 1))) (dg_n (i := 3) sc.nd rfl (by first | exact .inl rfl | exact .inr rfl)) (dss_cons (ds_set (i := 4) sc.nd rfl (by first | exact .inl rfl | exact .inr rfl) (de_call ((w__law_pick T).mono (by omega)) hr rfl T.g__law_pick T.F__law_pick.kp T.b__law_pick (da_cons (de_v (pv 0)) (da_cons (de_add (de_v (pv 1)) de_int) da_nil))))
  (dss_cons (ds_if (dt_ge (de_v (pv 4)) (de_v (pv 1))) (dss_cons (ds_set (i := 4) sc.nd rfl (by first | exact .inl rfl | exact .inr rfl) (de_v (pv 3)))
  dss_nil) dss_nil)
  (dss_cons (ds_if (dt_gt (de_call ((w__law_pick T).mono (by omega)) hr rfl T.g__law_pick T.F__law_pick.kp T.b__law_pick (da_cons (de_v (pv 0)) (da_cons de_int da_nil))) de_int) (dss_cons (ds_ex (de_ins (de_ix2 (de_v (pv 2)) (de_v (pv 4)) hu1) (de_mul (de_call ((w__law_pick T).mono (by omega)) hr rfl T.g__law_pick T.F__law_pick.kp T.b__law_pick (da_cons (de_v (pv 0)) (da_cons de_int da_nil))) (de_B _ _ cLen (by decide +kernel) T.m_len (da_cons (de_ix2 (de_v (pv 2)) (de_v (pv 4)) hu1) da_nil))) (de_v (pv 3))))
  dss_nil) dss_nil)
  dss_nil))))
  (dss_cons (ds_ret (de_T _ _ cTuple (by decide +kernel) T.m_tuple (da_cons (de_lc (own := [("row", 5)]) [5] rfl sc.nd (di_a (de_v (pv 2))) (blkOk_by (own := [("row", 5)]) (N := ["draws", "many", "rows", "box", "goal", "row"]) (sc := defScope s__law_news) (by decide +kernel)) (fun _ _ _ _ _ => (dg_n (i := 5) sc.nd rfl (by first | exact .inl rfl | exact .inr rfl))) (fun _ _ _ _ _ => dts_nil) (fun _ _ _ _ _ => (de_call ((w__law_row T).mono (by omega)) hr rfl T.g__law_row T.F__law_row.kp T.b__law_row (da_cons (de_v (pv 0)) (da_cons (de_v (pv 5)) da_nil)))) rfl (by decide)) da_nil)))
  dss_nil)))
noncomputable def m__law_boxes : Fn := fn 19 5 (sCons (sSet 5 (eCall 3 m__law_goals (aC (eV 0) (aC (eB gAdd (eC (.int 1)) (eCall 2 m__law_pick (aC (eV 0) (aC (eV 4) aN)))) (aC (eA gLen (aC (eV 1) aN)) aN)))))
  (sCons (sSet 6 (eCall 2 m__law_pick (aC (eV 0) (aC (eB gAdd (eV 3) (eC (.int 1))) aN))))
  (sCons (sSet 7 (eB gAdd (eC (.int 1)) (eCall 2 m__law_pick (aC (eV 0) (aC (eV 2) aN)))))
  (sCons (sSet 8 (eB gEq (eCall 2 m__law_pick (aC (eV 0) (aC (eC (.int 3)) aN))) (eC (.int 0))))
  (sCons (sSet 9 (eLst aN))
  (sCons (sFor (iR1 (eV 7)) (gN 10) (sCons (sSet 11 (eLst aN))
  (sCons (sFor (iR1 (eA gLen (aC (eV 1) aN))) (gN 12) (sCons (sSet 13 (eLst aN))
  (sCons (sFor (iR1 (eA gLen (aC (eV 5) aN))) (gN 14) (sCons (sSet 15 (eTup (aC (eCall 2 m__law_pick (aC (eV 0) (aC (eV 7) aN))) (aC (eCall 2 m__law_news (aC (eV 0) (aC (eV 6) aN))) aN))))
  (sCons (sEx (eMt "list" gApp (eV 13) (aC (eB gIx (eLst (aC (eV 15) (aC (eC .non) aN))) (eA gInt (aC (eAnd (eV 8) (eB gEq (eCall 2 m__law_pick (aC (eV 0) (aC (eC (.int 8)) aN))) (eC (.int 0)))) aN))) aN)))
  sNil)))
  (sCons (sEx (eMt "list" gApp (eV 11) (aC (eA gTuple (aC (eV 13) aN)) aN)))
  sNil))))
  (sCons (sEx (eMt "list" gApp (eV 9) (aC (eA gTuple (aC (eV 11) aN)) aN)))
  sNil))))
  (sCons (sSet 16 (eLst aN))
  (sCons (sFor (iR1 (eV 7)) (gN 10) (sCons (sSet 17 (eCall 2 m__law_row (aC (eV 0) (aC (eLc (iR1 (eV 6)) (gN 18) (bB gGt (eCall 2 m__law_pick (aC (eV 0) (aC (eC (.int 5)) aN))) (eC (.int 0))) (eV 18) [18]) aN))))
  (sCons (sEx (eMt "list" gApp (eV 16) (aC (eB gIx (eLst (aC (eV 17) (aC (eC .non) aN))) (eA gInt (aC (eB gEq (eCall 2 m__law_pick (aC (eV 0) (aC (eC (.int 6)) aN))) (eC (.int 0))) aN))) aN)))
  sNil)))
  (sCons (sRet (eTup (aC (eC (.str [98, 111, 120, 101, 115])) (aC (eV 1) (aC (eV 5) (aC (eV 6) (aC (eA gTuple (aC (eV 9) aN)) (aC (eA gTuple (aC (eV 16) aN)) aN))))))))
  sNil)))))))))
theorem sc__law_boxes : FnScope ["draws", "letters", "most", "boxes", "classes", "ahead", "many", "states", "holes", "rows", "q", "parts", "k", "part", "c", "entry", "ends", "end", "box"] ["draws", "letters", "most", "boxes", "classes"] (defScope s__law_boxes) := ⟨rfl, rfl, rfl, by decide +kernel, rfl, by decide +kernel, by decide +kernel⟩
theorem w__law_boxes (T : Txt K mg base) : FnOk P w K mg base CX0 7 T.a__law_boxes T.fd__law_boxes ["draws", "letters", "most", "boxes", "classes"] (spD K m__law_boxes 5) := by
  refine ok_def (k := 6) T.F__law_boxes sc__law_boxes rfl rfl (by decide) fun cdv A outer sh H E hr => ?_
  have sc := sc__law_boxes
  have hu1 := hu_of hr
  have hu64 := hr.units
  have hu65 := hu65_of hr
  exact (dss_cons (ds_set (i := 5) sc.nd rfl (by first | exact .inl rfl | exact .inr rfl) (de_call ((w__law_goals T).mono (by omega)) hr rfl T.g__law_goals T.F__law_goals.kp T.b__law_goals (da_cons (de_v (pv 0)) (da_cons (de_add de_int (de_call ((w__law_pick T).mono (by omega)) hr rfl T.g__law_pick T.F__law_pick.kp T.b__law_pick (da_cons (de_v (pv 0)) (da_cons (de_v (pv 4)) da_nil)))) (da_cons (de_B _ _ cLen (by decide +kernel) T.m_len (da_cons (de_v (pv 1)) da_nil)) da_nil)))))
  (dss_cons (ds_set (i := 6) sc.nd rfl (by first | exact .inl rfl | exact .inr rfl) (de_call ((w__law_pick T).mono (by omega)) hr rfl T.g__law_pick T.F__law_pick.kp T.b__law_pick (da_cons (de_v (pv 0)) (da_cons (de_add (de_v (pv 3)) de_int) da_nil))))
  (dss_cons (ds_set (i := 7) sc.nd rfl (by first | exact .inl rfl | exact .inr rfl) (de_add de_int (de_call ((w__law_pick T).mono (by omega)) hr rfl T.g__law_pick T.F__law_pick.kp T.b__law_pick (da_cons (de_v (pv 0)) (da_cons (de_v (pv 2)) da_nil)))))
  (dss_cons (ds_set (i := 8) sc.nd rfl (by first | exact .inl rfl | exact .inr rfl) (de_eq hu64 (de_call ((w__law_pick T).mono (by omega)) hr rfl T.g__law_pick T.F__law_pick.kp T.b__law_pick (da_cons (de_v (pv 0)) (da_cons de_int da_nil))) de_int))
  (dss_cons (ds_set (i := 9) sc.nd rfl (by first | exact .inl rfl | exact .inr rfl) (de_lst da_nil))
  (dss_cons (ds_for PassesOwn.never rfl (di_r1 rfl T.m_range (de_v (pv 7))) (dg_n (i := 10) sc.nd rfl (by first | exact .inl rfl | exact .inr rfl)) (dss_cons (ds_set (i := 11) sc.nd rfl (by first | exact .inl rfl | exact .inr rfl) (de_lst da_nil))
  (dss_cons (ds_for PassesOwn.never rfl (di_r1 rfl T.m_range (de_B _ _ cLen (by decide +kernel) T.m_len (da_cons (de_v (pv 1)) da_nil))) (dg_n (i := 12) sc.nd rfl (by first | exact .inl rfl | exact .inr rfl)) (dss_cons (ds_set (i := 13) sc.nd rfl (by first | exact .inl rfl | exact .inr rfl) (de_lst da_nil))
  (dss_cons (ds_for PassesOwn.never rfl (di_r1 rfl T.m_range (de_B _ _ cLen (by decide +kernel) T.m_len (da_cons (de_v (pv 5)) da_nil))) (dg_n (i := 14) sc.nd rfl (by first | exact .inl rfl | exact .inr rfl)) (dss_cons (ds_set (i := 15) sc.nd rfl (by first | exact .inl rfl | exact .inr rfl) (de_tup (da_cons (de_call ((w__law_pick T).mono (by omega)) hr rfl T.g__law_pick T.F__law_pick.kp T.b__law_pick (da_cons (de_v (pv 0)) (da_cons (de_v (pv 7)) da_nil))) (da_cons (de_call ((w__law_news T).mono (by omega)) hr rfl T.g__law_news T.F__law_news.kp T.b__law_news (da_cons (de_v (pv 0)) (da_cons (de_v (pv 6)) da_nil))) da_nil))))
  (dss_cons (ds_ex (de_app (de_v (pv 13)) (de_ix2 (de_lst (da_cons (de_v (pv 15)) (da_cons de_non da_nil))) (de_T _ _ cInt (by decide +kernel) T.m_int (da_cons (de_and (de_v (pv 8)) (de_one (de_eq hu64 (de_call ((w__law_pick T).mono (by omega)) hr rfl T.g__law_pick T.F__law_pick.kp T.b__law_pick (da_cons (de_v (pv 0)) (da_cons de_int da_nil))) de_int))) da_nil)) hu1)))
  dss_nil)))
  (dss_cons (ds_ex (de_app (de_v (pv 11)) (de_T _ _ cTuple (by decide +kernel) T.m_tuple (da_cons (de_v (pv 13)) da_nil))))
  dss_nil))))
  (dss_cons (ds_ex (de_app (de_v (pv 9)) (de_T _ _ cTuple (by decide +kernel) T.m_tuple (da_cons (de_v (pv 11)) da_nil))))
  dss_nil))))
  (dss_cons (ds_set (i := 16) sc.nd rfl (by first | exact .inl rfl | exact .inr rfl) (de_lst da_nil))
  (dss_cons (ds_for PassesOwn.never rfl (di_r1 rfl T.m_range (de_v (pv 7))) (dg_n (i := 10) sc.nd rfl (by first | exact .inl rfl | exact .inr rfl)) (dss_cons (ds_set (i := 17) sc.nd rfl (by first | exact .inl rfl | exact .inr rfl) (de_call ((w__law_row T).mono (by omega)) hr rfl T.g__law_row T.F__law_row.kp T.b__law_row (da_cons (de_v (pv 0)) (da_cons (de_lc (own := [("box", 18)]) [18] rfl sc.nd (di_r1 rfl T.m_range (de_v (pv 6))) (blkOk_by (own := [("box", 18)]) (N := ["draws", "letters", "most", "boxes", "classes", "ahead", "many", "states", "holes", "rows", "q", "parts", "k", "part", "c", "entry", "ends", "end", "box"]) (sc := defScope s__law_boxes) (by decide +kernel)) (fun _ _ _ _ _ => (dg_n (i := 18) sc.nd rfl (by first | exact .inl rfl | exact .inr rfl))) (fun _ _ _ _ _ => (dts_one (dt_gt (de_call ((w__law_pick T).mono (by omega)) hr rfl T.g__law_pick T.F__law_pick.kp T.b__law_pick (da_cons (de_v (pv 0)) (da_cons de_int da_nil))) de_int))) (fun _ _ _ _ _ => (de_v (pv 18))) rfl (by decide)) da_nil))))
  (dss_cons (ds_ex (de_app (de_v (pv 16)) (de_ix2 (de_lst (da_cons (de_v (pv 17)) (da_cons de_non da_nil))) (de_T _ _ cInt (by decide +kernel) T.m_int (da_cons (de_eq hu64 (de_call ((w__law_pick T).mono (by omega)) hr rfl T.g__law_pick T.F__law_pick.kp T.b__law_pick (da_cons (de_v (pv 0)) (da_cons de_int da_nil))) de_int) da_nil)) hu1)))
  dss_nil)))
  (dss_cons (ds_ret (de_tup (da_cons (de_str rfl) (da_cons (de_v (pv 1)) (da_cons (de_v (pv 5)) (da_cons (de_v (pv 6)) (da_cons (de_T _ _ cTuple (by decide +kernel) T.m_tuple (da_cons (de_v (pv 9)) da_nil)) (da_cons (de_T _ _ cTuple (by decide +kernel) T.m_tuple (da_cons (de_v (pv 16)) da_nil)) da_nil))))))))
  dss_nil)))))))))
noncomputable def m__law_sized : Fn := fn 2 2 (sCons (sRet (eAnd (eA gIsi (aC (eV 0) (aC (eC (.ty "tuple")) aN))) (eB gEq (eA gLen (aC (eV 0) aN)) (eV 1))))
  sNil)
theorem sc__law_sized : FnScope ["thing", "size"] ["thing", "size"] (defScope s__law_sized) := ⟨rfl, rfl, rfl, by decide +kernel, rfl, by decide +kernel, by decide +kernel⟩
theorem w__law_sized (T : Txt K mg base) : FnOk P w K mg base CX0 2 T.a__law_sized T.fd__law_sized ["thing", "size"] (spD K m__law_sized 2) := by
  refine ok_def (k := 1) T.F__law_sized sc__law_sized rfl rfl (by decide) fun cdv A outer sh H E hr => ?_
  have sc := sc__law_sized
  have hu1 := hu_of hr
  have hu64 := hr.units
  have hu65 := hu65_of hr
  exact (dss_cons (ds_ret (de_and (de_B _ _ cIsi (by decide +kernel) T.m_isinstance (da_cons (de_v (pv 0)) (da_cons (de_ty rfl T.m_tuple (by decide +kernel)) da_nil))) (de_one (de_eq hu64 (de_B _ _ cLen (by decide +kernel) T.m_len (da_cons (de_v (pv 0)) da_nil)) (de_v (pv 1))))))
  dss_nil)
noncomputable def m__law_small : Fn := fn 2 1 (sCons (sIf (bNot (bV (eA gIsi (aC (eV 0) (aC (eC (.ty "str")) aN))))) (sCons (sRet (eC (.bl false)))
  sNil) sNil)
  (sCons (sFor (iA (eV 0)) (gN 1) (sCons (sIf (bB gNin (eV 1) (eC (.str [97, 98, 99, 100, 101, 102, 103, 104, 105, 106, 107, 108, 109, 110, 111, 112, 113, 114, 115, 116, 117, 118, 119, 120, 121, 122]))) (sCons (sRet (eC (.bl false)))
  sNil) sNil)
  sNil))
  (sCons (sRet (eC (.bl true)))
  sNil)))
theorem sc__law_small : FnScope ["thing", "sign"] ["thing"] (defScope s__law_small) := ⟨rfl, rfl, rfl, by decide +kernel, rfl, by decide +kernel, by decide +kernel⟩
theorem w__law_small (T : Txt K mg base) : FnOk P w K mg base CX0 2 T.a__law_small T.fd__law_small ["thing"] (spD K m__law_small 1) := by
  refine ok_def (k := 1) T.F__law_small sc__law_small rfl rfl (by decide) fun cdv A outer sh H E hr => ?_
  have sc := sc__law_small
  have hu1 := hu_of hr
  have hu64 := hr.units
  have hu65 := hu65_of hr
  exact (dss_cons (ds_if (dt_not (dt_v (de_B _ _ cIsi (by decide +kernel) T.m_isinstance (da_cons (de_v (pv 0)) (da_cons (de_ty rfl T.m_str (by decide +kernel)) da_nil))) (fun _ => rfl))) (dss_cons (ds_ret de_bl)
  dss_nil) dss_nil)
  (dss_cons (ds_for PassesOwn.never rfl (di_a (de_v (pv 0))) (dg_n (i := 1) sc.nd rfl (by first | exact .inl rfl | exact .inr rfl)) (dss_cons (ds_if (dt_nin hu65 (de_v (pv 1)) (de_str rfl)) (dss_cons (ds_ret de_bl)
  dss_nil) dss_nil)
  dss_nil))
  (dss_cons (ds_ret de_bl)
  dss_nil)))
noncomputable def m__law_letters : Fn := fn 2 1 (sCons (sIf (bOr (bNot (bV (eA gIsi (aC (eV 0) (aC (eC (.ty "str")) aN))))) (bOr (bNot (bV (eCall 1 m__law_small (aC (eV 0) aN)))) (bOr (bB gLt (eA gLen (aC (eV 0) aN)) (eC (.int 1))) (bB gGt (eA gLen (aC (eV 0) aN)) (eC (.int 6)))))) (sCons (sRet (eC (.bl false)))
  sNil) sNil)
  (sCons (sFor (iR2 (eC (.int 1)) (eA gLen (aC (eV 0) aN))) (gN 1) (sCons (sIf (bB gGe (eB gIx (eV 0) (eB gSub (eV 1) (eC (.int 1)))) (eB gIx (eV 0) (eV 1))) (sCons (sRet (eC (.bl false)))
  sNil) sNil)
  sNil))
  (sCons (sRet (eC (.bl true)))
  sNil)))
theorem sc__law_letters : FnScope ["thing", "k"] ["thing"] (defScope s__law_letters) := ⟨rfl, rfl, rfl, by decide +kernel, rfl, by decide +kernel, by decide +kernel⟩
theorem w__law_letters (T : Txt K mg base) : FnOk P w K mg base CX0 3 T.a__law_letters T.fd__law_letters ["thing"] (spD K m__law_letters 1) := by
  refine ok_def (k := 2) T.F__law_letters sc__law_letters rfl rfl (by decide) fun cdv A outer sh H E hr => ?_
  have sc := sc__law_letters
  have hu1 := hu_of hr
  have hu64 := hr.units
  have hu65 := hu65_of hr
  exact (dss_cons (ds_if (dt_w (dw_or (dt_not (dt_v (de_B _ _ cIsi (by decide +kernel) T.m_isinstance (da_cons (de_v (pv 0)) (da_cons (de_ty rfl T.m_str (by decide +kernel)) da_nil))) (fun _ => rfl))) (dw_or (dt_not (dt_v (de_call ((w__law_small T).mono (by omega)) hr rfl T.g__law_small T.F__law_small.kp T.b__law_small (da_cons (de_v (pv 0)) da_nil)) (fun _ => rfl))) (dw_or (dt_lt (de_B _ _ cLen (by decide +kernel) T.m_len (da_cons (de_v (pv 0)) da_nil)) de_int) (dw_or1 (dt_gt (de_B _ _ cLen (by decide +kernel) T.m_len (da_cons (de_v (pv 0)) da_nil)) de_int)))))) (dss_cons (ds_ret de_bl)
  dss_nil) dss_nil)
  (dss_cons (ds_for PassesOwn.never rfl (di_r2 rfl T.m_range de_int (de_B _ _ cLen (by decide +kernel) T.m_len (da_cons (de_v (pv 0)) da_nil))) (dg_n (i := 1) sc.nd rfl (by first | exact .inl rfl | exact .inr rfl)) (dss_cons (ds_if (dt_ge (de_ix2 (de_v (pv 0)) (de_sub (de_v (pv 1)) de_int) hu1) (de_ix2 (de_v (pv 0)) (de_v (pv 1)) hu1)) (dss_cons (ds_ret de_bl)
  dss_nil) dss_nil)
  dss_nil))
  (dss_cons (ds_ret de_bl)
  dss_nil)))
noncomputable def m__law_number : Fn := fn 2 2 (sCons (sRet (eAnd (eA gIsi (aC (eV 0) (aC (eC (.ty "int")) aN))) (eAnd (eNot (eA gIsi (aC (eV 0) (aC (eC (.ty "bool")) aN)))) (eAnd (eB gGe (eV 0) (eC (.int 0))) (eB gLt (eV 0) (eV 1))))))
  sNil)
theorem sc__law_number : FnScope ["thing", "many"] ["thing", "many"] (defScope s__law_number) := ⟨rfl, rfl, rfl, by decide +kernel, rfl, by decide +kernel, by decide +kernel⟩
theorem w__law_number (T : Txt K mg base) : FnOk P w K mg base CX0 2 T.a__law_number T.fd__law_number ["thing", "many"] (spD K m__law_number 2) := by
  refine ok_def (k := 1) T.F__law_number sc__law_number rfl rfl (by decide) fun cdv A outer sh H E hr => ?_
  have sc := sc__law_number
  have hu1 := hu_of hr
  have hu64 := hr.units
  have hu65 := hu65_of hr
  exact (dss_cons (ds_ret (de_and (de_B _ _ cIsi (by decide +kernel) T.m_isinstance (da_cons (de_v (pv 0)) (da_cons (de_ty rfl T.m_int (by decide +kernel)) da_nil))) (de_and (de_not (de_B _ _ cIsi (by decide +kernel) T.m_isinstance (da_cons (de_v (pv 0)) (da_cons (de_ty rfl T.m_bool (by decide +kernel)) da_nil)))) (de_and (de_ge (de_v (pv 0)) de_int) (de_one (de_lt (de_v (pv 0)) (de_v (pv 1))))))))
  dss_nil)
noncomputable def m__law_is_goals : Fn := fn 4 2 (sCons (sIf (bOr (bNot (bV (eA gIsi (aC (eV 0) (aC (eC (.ty "tuple")) aN))))) (bB gEq (eA gLen (aC (eV 0) aN)) (eC (.int 0)))) (sCons (sRet (eC (.bl false)))
  sNil) sNil)
  (sCons (sFor (iA (eV 0)) (gN 2) (sCons (sIf (bOr (bNot (bV (eCall 2 m__law_sized (aC (eV 2) (aC (eV 1) aN))))) (bB gIn (eC (.bl false)) (eLc (iA (eV 2)) (gN 3) bYes (eCall 2 m__law_number (aC (eV 3) (aC (eA gLen (aC (eV 0) aN)) aN))) [3]))) (sCons (sRet (eC (.bl false)))
  sNil) sNil)
  sNil))
  (sCons (sRet (eC (.bl true)))
  sNil)))
theorem sc__law_is_goals : FnScope ["thing", "width", "row", "goal"] ["thing", "width"] (defScope s__law_is_goals) := ⟨rfl, rfl, rfl, by decide +kernel, rfl, by decide +kernel, by decide +kernel⟩
theorem w__law_is_goals (T : Txt K mg base) : FnOk P w K mg base CX0 3 T.a__law_is_goals T.fd__law_is_goals ["thing", "width"] (spD K m__law_is_goals 2) := by
  refine ok_def (k := 2) T.F__law_is_goals sc__law_is_goals rfl rfl (by decide) fun cdv A outer sh H E hr => ?_
  have sc := sc__law_is_goals
  have hu1 := hu_of hr
  have hu64 := hr.units
  have hu65 := hu65_of hr
  exact (dss_cons (ds_if (dt_w (dw_or (dt_not (dt_v (de_B _ _ cIsi (by decide +kernel) T.m_isinstance (da_cons (de_v (pv 0)) (da_cons (de_ty rfl T.m_tuple (by decide +kernel)) da_nil))) (fun _ => rfl))) (dw_or1 (dt_eq hu64 (de_B _ _ cLen (by decide +kernel) T.m_len (da_cons (de_v (pv 0)) da_nil)) de_int)))) (dss_cons (ds_ret de_bl)
  dss_nil) dss_nil)
  (dss_cons (ds_for PassesOwn.never rfl (di_a (de_v (pv 0))) (dg_n (i := 2) sc.nd rfl (by first | exact .inl rfl | exact .inr rfl)) (dss_cons (ds_if (dt_w (dw_or (dt_not (dt_v (de_call ((w__law_sized T).mono (by omega)) hr rfl T.g__law_sized T.F__law_sized.kp T.b__law_sized (da_cons (de_v (pv 2)) (da_cons (de_v (pv 1)) da_nil))) (fun _ => rfl))) (dw_or1 (dt_in hu65 de_bl (de_lc (own := [("goal", 3)]) [3] rfl sc.nd (di_a (de_v (pv 2))) (blkOk_by (own := [("goal", 3)]) (N := ["thing", "width", "row", "goal"]) (sc := defScope s__law_is_goals) (by decide +kernel)) (fun _ _ _ _ _ => (dg_n (i := 3) sc.nd rfl (by first | exact .inl rfl | exact .inr rfl))) (fun _ _ _ _ _ => dts_nil) (fun _ _ _ _ _ => (de_call ((w__law_number T).mono (by omega)) hr rfl T.g__law_number T.F__law_number.kp T.b__law_number (da_cons (de_v (pv 3)) (da_cons (de_B _ _ cLen (by decide +kernel) T.m_len (da_cons (de_v (pv 0)) da_nil)) da_nil)))) rfl (by decide)))))) (dss_cons (ds_ret de_bl)
  dss_nil) dss_nil)
  dss_nil))
  (dss_cons (ds_ret de_bl)
  dss_nil)))
noncomputable def m__law_is_row : Fn := fn 4 2 (sCons (sIf (bNot (bV (eA gIsi (aC (eV 0) (aC (eC (.ty "tuple")) aN))))) (sCons (sRet (eC (.bl false)))
  sNil) sNil)
  (sCons (sSet 2 (eC (.int 0)))
  (sCons (sFor (iA (eV 0)) (gN 3) (sCons (sIf (bV (eA gIsi (aC (eV 3) (aC (eC (.ty "str")) aN)))) (sCons (sIf (bOr (bB gEq (eV 3) (eC (.str []))) (bOr (bNot (bV (eCall 1 m__law_small (aC (eV 3) aN)))) (bV (eA gIsi (aC (eV 2) (aC (eC (.ty "str")) aN)))))) (sCons (sRet (eC (.bl false)))
  sNil) sNil)
  sNil) (sCons (sIf (bNot (bV (eCall 2 m__law_number (aC (eV 3) (aC (eV 1) aN))))) (sCons (sRet (eC (.bl false)))
  sNil) sNil)
  sNil))
  (sCons (sSet 2 (eV 3))
  sNil)))
  (sCons (sRet (eC (.bl true)))
  sNil))))
theorem sc__law_is_row : FnScope ["thing", "many", "before", "item"] ["thing", "many"] (defScope s__law_is_row) := ⟨rfl, rfl, rfl, by decide +kernel, rfl, by decide +kernel, by decide +kernel⟩
theorem w__law_is_row (T : Txt K mg base) : FnOk P w K mg base CX0 3 T.a__law_is_row T.fd__law_is_row ["thing", "many"] (spD K m__law_is_row 2) := by
  refine ok_def (k := 2) T.F__law_is_row sc__law_is_row rfl rfl (by decide) fun cdv A outer sh H E hr => ?_
  have sc := sc__law_is_row
  have hu1 := hu_of hr
  have hu64 := hr.units
  have hu65 := hu65_of hr
  exact (dss_cons (ds_if (dt_not (dt_v (de_B _ _ cIsi (by decide +kernel) T.m_isinstance (da_cons (de_v (pv 0)) (da_cons (de_ty rfl T.m_tuple (by decide +kernel)) da_nil))) (fun _ => rfl))) (dss_cons (ds_ret de_bl)
  dss_nil) dss_nil)
  (dss_cons (ds_set (i := 2) sc.nd rfl (by first | exact .inl rfl | exact .inr rfl) de_int)
  (dss_cons (ds_for PassesOwn.never rfl (di_a (de_v (pv 0))) (dg_n (i := 3) sc.nd rfl (by first | exact .inl rfl | exact .inr rfl)) (dss_cons (ds_if (dt_v (de_B _ _ cIsi (by decide +kernel) T.m_isinstance (da_cons (de_v (pv 3)) (da_cons (de_ty rfl T.m_str (by decide +kernel)) da_nil))) (fun _ => rfl)) (dss_cons (ds_if (dt_w (dw_or (dt_eq hu64 (de_v (pv 3)) (de_str rfl)) (dw_or (dt_not (dt_v (de_call ((w__law_small T).mono (by omega)) hr rfl T.g__law_small T.F__law_small.kp T.b__law_small (da_cons (de_v (pv 3)) da_nil)) (fun _ => rfl))) (dw_or1 (dt_v (de_B _ _ cIsi (by decide +kernel) T.m_isinstance (da_cons (de_v (pv 2)) (da_cons (de_ty rfl T.m_str (by decide +kernel)) da_nil))) (fun _ => rfl)))))) (dss_cons (ds_ret de_bl)
  dss_nil) dss_nil)
  dss_nil) (dss_cons (ds_if (dt_not (dt_v (de_call ((w__law_number T).mono (by omega)) hr rfl T.g__law_number T.F__law_number.kp T.b__law_number (da_cons (de_v (pv 3)) (da_cons (de_v (pv 1)) da_nil))) (fun _ => rfl))) (dss_cons (ds_ret de_bl)
  dss_nil) dss_nil)
  dss_nil))
  (dss_cons (ds_set (i := 2) sc.nd rfl (by first | exact .inl rfl | exact .inr rfl) (de_v (pv 3)))
  dss_nil)))
  (dss_cons (ds_ret de_bl)
  dss_nil))))
noncomputable def m__law_once : Fn := fn 4 1 (sCons (sSet 1 (eLst aN))
  (sCons (sFor (iA (eV 0)) (gN 2) (sCons (sFor (iA (eV 2)) (gN 3) (sCons (sIf (bNot (bV (eA gIsi (aC (eV 3) (aC (eC (.ty "str")) aN))))) (sCons (sIf (bB gIn (eV 3) (eV 1)) (sCons (sRet (eC (.bl false)))
  sNil) sNil)
  (sCons (sEx (eMt "list" gApp (eV 1) (aC (eV 3) aN)))
  sNil)) sNil)
  sNil))
  sNil))
  (sCons (sRet (eC (.bl true)))
  sNil)))
theorem sc__law_once : FnScope ["rows", "seen", "row", "item"] ["rows"] (defScope s__law_once) := ⟨rfl, rfl, rfl, by decide +kernel, rfl, by decide +kernel, by decide +kernel⟩
theorem w__law_once (T : Txt K mg base) : FnOk P w K mg base CX0 2 T.a__law_once T.fd__law_once ["rows"] (spD K m__law_once 1) := by
  refine ok_def (k := 1) T.F__law_once sc__law_once rfl rfl (by decide) fun cdv A outer sh H E hr => ?_
  have sc := sc__law_once
  have hu1 := hu_of hr
  have hu64 := hr.units
  have hu65 := hu65_of hr
  exact (dss_cons (ds_set (i := 1) sc.nd rfl (by first | exact .inl rfl | exact .inr rfl) (de_lst da_nil))
  (dss_cons (ds_for PassesOwn.never rfl (di_a (de_v (pv 0))) (dg_n (i := 2) sc.nd rfl (by first | exact .inl rfl | exact .inr rfl)) (dss_cons (ds_for PassesOwn.never rfl (di_a (de_v (pv 2))) (dg_n (i := 3) sc.nd rfl (by first | exact .inl rfl | exact .inr rfl)) (dss_cons (ds_if (dt_not (dt_v (de_B _ _ cIsi (by decide +kernel) T.m_isinstance (da_cons (de_v (pv 3)) (da_cons (de_ty rfl T.m_str (by decide +kernel)) da_nil))) (fun _ => rfl))) (dss_cons (ds_if (dt_in hu65 (de_v (pv 3)) (de_v (pv 1))) (dss_cons (ds_ret de_bl)
  dss_nil) dss_nil)
  (dss_cons (ds_ex (de_app (de_v (pv 1)) (de_v (pv 3))))
  dss_nil)) dss_nil)
  dss_nil))
  dss_nil))
  (dss_cons (ds_ret de_bl)
  dss_nil)))
noncomputable def m__law_is_entry : Fn := fn 4 3 (sCons (sIf (bB gIs (eV 0) (eC .non)) (sCons (sRet (eC (.bl true)))
  sNil) sNil)
  (sCons (sIf (bOr (bNot (bV (eCall 2 m__law_sized (aC (eV 0) (aC (eC (.int 2)) aN))))) (bOr (bNot (bV (eCall 2 m__law_number (aC (eB gIx (eV 0) (eC (.int 0))) (aC (eV 1) aN))))) (bNot (bV (eCall 2 m__law_sized (aC (eB gIx (eV 0) (eC (.int 1))) (aC (eV 2) aN))))))) (sCons (sRet (eC (.bl false)))
  sNil) sNil)
  (sCons (sRet (eAnd (eB gNin (eC (.bl false)) (eLc (iA (eB gIx (eV 0) (eC (.int 1)))) (gN 3) bYes (eCall 2 m__law_is_row (aC (eV 3) (aC (eV 2) aN))) [3])) (eCall 1 m__law_once (aC (eB gIx (eV 0) (eC (.int 1))) aN))))
  sNil)))
theorem sc__law_is_entry : FnScope ["thing", "states", "many", "row"] ["thing", "states", "many"] (defScope s__law_is_entry) := ⟨rfl, rfl, rfl, by decide +kernel, rfl, by decide +kernel, by decide +kernel⟩
theorem w__law_is_entry (T : Txt K mg base) : FnOk P w K mg base CX0 4 T.a__law_is_entry T.fd__law_is_entry ["thing", "states", "many"] (spD K m__law_is_entry 3) := by
  refine ok_def (k := 3) T.F__law_is_entry sc__law_is_entry rfl rfl (by decide) fun cdv A outer sh H E hr => ?_
  have sc := sc__law_is_entry
  have hu1 := hu_of hr
  have hu64 := hr.units
  have hu65 := hu65_of hr
  exact (dss_cons (ds_if (dt_is (de_v (pv 0)) de_non) (dss_cons (ds_ret de_bl)
  dss_nil) dss_nil)
  (dss_cons (ds_if (dt_w (dw_or (dt_not (dt_v (de_call ((w__law_sized T).mono (by omega)) hr rfl T.g__law_sized T.F__law_sized.kp T.b__law_sized (da_cons (de_v (pv 0)) (da_cons de_int da_nil))) (fun _ => rfl))) (dw_or (dt_not (dt_v (de_call ((w__law_number T).mono (by omega)) hr rfl T.g__law_number T.F__law_number.kp T.b__law_number (da_cons (de_ix2 (de_v (pv 0)) de_int hu1) (da_cons (de_v (pv 1)) da_nil))) (fun _ => rfl))) (dw_or1 (dt_not (dt_v (de_call ((w__law_sized T).mono (by omega)) hr rfl T.g__law_sized T.F__law_sized.kp T.b__law_sized (da_cons (de_ix2 (de_v (pv 0)) de_int hu1) (da_cons (de_v (pv 2)) da_nil))) (fun _ => rfl))))))) (dss_cons (ds_ret de_bl)
  dss_nil) dss_nil)
  (dss_cons (ds_ret (de_and (de_nin hu65 de_bl (de_lc (own := [("row", 3)]) [3] rfl sc.nd (di_a (de_ix2 (de_v (pv 0)) de_int hu1)) (blkOk_by (own := [("row", 3)]) (N := ["thing", "states", "many", "row"]) (sc := defScope s__law_is_entry) (by decide +kernel)) (fun _ _ _ _ _ => (dg_n (i := 3) sc.nd rfl (by first | exact .inl rfl | exact .inr rfl))) (fun _ _ _ _ _ => dts_nil) (fun _ _ _ _ _ => (de_call ((w__law_is_row T).mono (by omega)) hr rfl T.g__law_is_row T.F__law_is_row.kp T.b__law_is_row (da_cons (de_v (pv 3)) (da_cons (de_v (pv 2)) da_nil)))) rfl (by decide))) (de_one (de_call ((w__law_once T).mono (by omega)) hr rfl T.g__law_once T.F__law_once.kp T.b__law_once (da_cons (de_ix2 (de_v (pv 0)) de_int hu1) da_nil)))))
  dss_nil)))
noncomputable def m__law_is_boxes : Fn := fn 10 1 (sCons (sIf (bOr (bNot (bV (eCall 2 m__law_sized (aC (eV 0) (aC (eC (.int 6)) aN))))) (bOr (bB gNe (eB gIx (eV 0) (eC (.int 0))) (eC (.str [98, 111, 120, 101, 115]))) (bNot (bV (eCall 1 m__law_letters (aC (eB gIx (eV 0) (eC (.int 1))) aN)))))) (sCons (sRet (eC (.bl false)))
  sNil) sNil)
  (sCons (sAsg (gT (gsC (gN 1) (gsC (gN 2) (gsC (gN 3) (gsC (gN 4) (gsC (gN 5) gsN)))))) (eTup (aC (eB gIx (eV 0) (eC (.int 1))) (aC (eB gIx (eV 0) (eC (.int 2))) (aC (eB gIx (eV 0) (eC (.int 3))) (aC (eB gIx (eV 0) (eC (.int 4))) (aC (eB gIx (eV 0) (eC (.int 5))) aN)))))))
  (sCons (sIf (bOr (bNot (bV (eCall 2 m__law_is_goals (aC (eV 2) (aC (eA gLen (aC (eV 1) aN)) aN))))) (bOr (bNot (bV (eA gIsi (aC (eV 3) (aC (eC (.ty "int")) aN))))) (bOr (bV (eA gIsi (aC (eV 3) (aC (eC (.ty "bool")) aN)))) (bB gLt (eV 3) (eC (.int 0)))))) (sCons (sRet (eC (.bl false)))
  sNil) sNil)
  (sCons (sIf (bOr (bNot (bV (eA gIsi (aC (eV 5) (aC (eC (.ty "tuple")) aN))))) (bOr (bB gEq (eA gLen (aC (eV 5) aN)) (eC (.int 0))) (bNot (bV (eCall 2 m__law_sized (aC (eV 4) (aC (eA gLen (aC (eV 5) aN)) aN))))))) (sCons (sRet (eC (.bl false)))
  sNil) sNil)
  (sCons (sFor (iA (eV 5)) (gN 6) (sCons (sIf (bAnd (bB gIsN (eV 6) (eC .non)) (bOr (bNot (bV (eCall 2 m__law_is_row (aC (eV 6) (aC (eV 3) aN))))) (bNot (bV (eCall 1 m__law_once (aC (eLst (aC (eV 6) aN)) aN)))))) (sCons (sRet (eC (.bl false)))
  sNil) sNil)
  sNil))
  (sCons (sFor (iA (eV 4)) (gN 7) (sCons (sIf (bNot (bV (eCall 2 m__law_sized (aC (eV 7) (aC (eA gLen (aC (eV 1) aN)) aN))))) (sCons (sRet (eC (.bl false)))
  sNil) sNil)
  (sCons (sFor (iA (eV 7)) (gN 8) (sCons (sIf (bOr (bNot (bV (eCall 2 m__law_sized (aC (eV 8) (aC (eA gLen (aC (eV 2) aN)) aN))))) (bB gIn (eC (.bl false)) (eLc (iA (eV 8)) (gN 9) bYes (eCall 3 m__law_is_entry (aC (eV 9) (aC (eA gLen (aC (eV 5) aN)) (aC (eV 3) aN)))) [9]))) (sCons (sRet (eC (.bl false)))
  sNil) sNil)
  sNil))
  sNil)))
  (sCons (sRet (eC (.bl true)))
  sNil)))))))
theorem sc__law_is_boxes : FnScope ["thing", "letters", "ahead", "many", "rows", "ends", "end", "state", "part", "entry"] ["thing"] (defScope s__law_is_boxes) := ⟨rfl, rfl, rfl, by decide +kernel, rfl, by decide +kernel, by decide +kernel⟩
theorem w__law_is_boxes (T : Txt K mg base) : FnOk P w K mg base CX0 5 T.a__law_is_boxes T.fd__law_is_boxes ["thing"] (spD K m__law_is_boxes 1) := by
  refine ok_def (k := 4) T.F__law_is_boxes sc__law_is_boxes rfl rfl (by decide) fun cdv A outer sh H E hr => ?_
  have sc := sc__law_is_boxes
  have hu1 := hu_of hr
  have hu64 := hr.units
  have hu65 := hu65_of hr
  exact (dss_cons (ds_if (dt_w (dw_or (dt_not (dt_v (de_call ((w__law_sized T).mono (by omega)) hr rfl T.g__law_sized T.F__law_sized.kp T.b__law_sized (da_cons (de_v (pv 0)) (da_cons de_int da_nil))) (fun _ => rfl))) (dw_or (dt_ne hu64 (de_ix2 (de_v (pv 0)) de_int hu1) (de_str rfl)) (dw_or1 (dt_not (dt_v (de_call ((w__law_letters T).mono (by omega)) hr rfl T.g__law_letters T.F__law_letters.kp T.b__law_letters (da_cons (de_ix2 (de_v (pv 0)) de_int hu1) da_nil)) (fun _ => rfl))))))) (dss_cons (ds_ret de_bl)
  dss_nil) dss_nil)
  (dss_cons (ds_asg (de_tup (da_cons (de_ix2 (de_v (pv 0)) de_int hu1) (da_cons (de_ix2 (de_v (pv 0)) de_int hu1) (da_cons (de_ix2 (de_v (pv 0)) de_int hu1) (da_cons (de_ix2 (de_v (pv 0)) de_int hu1) (da_cons (de_ix2 (de_v (pv 0)) de_int hu1) da_nil)))))) (dg_t rfl (dgs_cons (dg_n (i := 1) sc.nd rfl (by first | exact .inl rfl | exact .inr rfl)) (dgs_cons (dg_n (i := 2) sc.nd rfl (by first | exact .inl rfl | exact .inr rfl)) (dgs_cons (dg_n (i := 3) sc.nd rfl (by first | exact .inl rfl | exact .inr rfl)) (dgs_cons (dg_n (i := 4) sc.nd rfl (by first | exact .inl rfl | exact .inr rfl)) (dgs_cons (dg_n (i := 5) sc.nd rfl (by first | exact .inl rfl | exact .inr rfl)) dgs_nil))))) rfl rfl (gslc (gslc (gslc (gslc (gslc gsl0)))))))
  (dss_cons (ds_if (dt_w (dw_or (dt_not (dt_v (de_call ((w__law_is_goals T).mono (by omega)) hr rfl T.g__law_is_goals T.F__law_is_goals.kp T.b__law_is_goals (da_cons (de_v (pv 2)) (da_cons (de_B _ _ cLen (by decide +kernel) T.m_len (da_cons (de_v (pv 1)) da_nil)) da_nil))) (fun _ => rfl))) (dw_or (dt_not (dt_v (de_B _ _ cIsi (by decide +kernel) T.m_isinstance (da_cons (de_v (pv 3)) (da_cons (de_ty rfl T.m_int (by decide +kernel)) da_nil))) (fun _ => rfl))) (dw_or (dt_v (de_B _ _ cIsi (by decide +kernel) T.m_isinstance (da_cons (de_v (pv 3)) (da_cons (de_ty rfl T.m_bool (by decide +kernel)) da_nil))) (fun _ => rfl)) (dw_or1 (dt_lt (de_v (pv 3)) de_int)))))) (dss_cons (ds_ret de_bl)
  dss_nil) dss_nil)
  (dss_cons (ds_if (dt_w (dw_or (dt_not (dt_v (de_B _ _ cIsi (by decide +kernel) T.m_isinstance (da_cons (de_v (pv 5)) (da_cons (de_ty rfl T.m_tuple (by decide +kernel)) da_nil))) (fun _ => rfl))) (dw_or (dt_eq hu64 (de_B _ _ cLen (by decide +kernel) T.m_len (da_cons (de_v (pv 5)) da_nil)) de_int) (dw_or1 (dt_not (dt_v (de_call ((w__law_sized T).mono (by omega)) hr rfl T.g__law_sized T.F__law_sized.kp T.b__law_sized (da_cons (de_v (pv 4)) (da_cons (de_B _ _ cLen (by decide +kernel) T.m_len (da_cons (de_v (pv 5)) da_nil)) da_nil))) (fun _ => rfl))))))) (dss_cons (ds_ret de_bl)
  dss_nil) dss_nil)
  (dss_cons (ds_for PassesOwn.never rfl (di_a (de_v (pv 5))) (dg_n (i := 6) sc.nd rfl (by first | exact .inl rfl | exact .inr rfl)) (dss_cons (ds_if (dt_w (dw_and (dt_isn (de_v (pv 6)) de_non) (dw_and1 (dt_w (dw_or (dt_not (dt_v (de_call ((w__law_is_row T).mono (by omega)) hr rfl T.g__law_is_row T.F__law_is_row.kp T.b__law_is_row (da_cons (de_v (pv 6)) (da_cons (de_v (pv 3)) da_nil))) (fun _ => rfl))) (dw_or1 (dt_not (dt_v (de_call ((w__law_once T).mono (by omega)) hr rfl T.g__law_once T.F__law_once.kp T.b__law_once (da_cons (de_lst (da_cons (de_v (pv 6)) da_nil)) da_nil)) (fun _ => rfl))))))))) (dss_cons (ds_ret de_bl)
  dss_nil) dss_nil)
  dss_nil))
  (dss_cons (ds_for PassesOwn.never rfl (di_a (de_v (pv 4))) (dg_n (i := 7) sc.nd rfl (by first | exact .inl rfl | exact .inr rfl)) (dss_cons (ds_if (dt_not (dt_v (de_call ((w__law_sized T).mono (by omega)) hr rfl T.g__law_sized T.F__law_sized.kp T.b__law_sized (da_cons (de_v (pv 7)) (da_cons (de_B _ _ cLen (by decide +kernel) T.m_len (da_cons (de_v (pv 1)) da_nil)) da_nil))) (fun _ => rfl))) (dss_cons (ds_ret de_bl)
  dss_nil) dss_nil)
  (dss_cons (ds_for PassesOwn.never rfl (di_a (de_v (pv 7))) (dg_n (i := 8) sc.nd rfl (by first | exact .inl rfl | exact .inr rfl)) (dss_cons (ds_if (dt_w (dw_or (dt_not (dt_v (de_call ((w__law_sized T).mono (by omega)) hr rfl T.g__law_sized T.F__law_sized.kp T.b__law_sized (da_cons (de_v (pv 8)) (da_cons (de_B _ _ cLen (by decide +kernel) T.m_len (da_cons (de_v (pv 2)) da_nil)) da_nil))) (fun _ => rfl))) (dw_or1 (dt_in hu65 de_bl (de_lc (own := [("entry", 9)]) [9] rfl sc.nd (di_a (de_v (pv 8))) (blkOk_by (own := [("entry", 9)]) (N := ["thing", "letters", "ahead", "many", "rows", "ends", "end", "state", "part", "entry"]) (sc := defScope s__law_is_boxes) (by decide +kernel)) (fun _ _ _ _ _ => (dg_n (i := 9) sc.nd rfl (by first | exact .inl rfl | exact .inr rfl))) (fun _ _ _ _ _ => dts_nil) (fun _ _ _ _ _ => (de_call ((w__law_is_entry T).mono (by omega)) hr rfl T.g__law_is_entry T.F__law_is_entry.kp T.b__law_is_entry (da_cons (de_v (pv 9)) (da_cons (de_B _ _ cLen (by decide +kernel) T.m_len (da_cons (de_v (pv 5)) da_nil)) (da_cons (de_v (pv 3)) da_nil))))) rfl (by decide)))))) (dss_cons (ds_ret de_bl)
  dss_nil) dss_nil)
  dss_nil))
  dss_nil)))
  (dss_cons (ds_ret de_bl)
  dss_nil)))))))
noncomputable def m__law_sizes : Fn := fn 1 1 (sCons (sRet (eLst (aC (eCut (eV 0) pNo (pSo (eB gSub (eA gLen (aC (eV 0) aN)) (eC (.int 1))))) (aC (eB gAdd (eV 0) (eCut (eV 0) pNo (pSo (eC (.int 1))))) (aC (eCut (eV 0) (pSo (eC (.int 1))) pNo) (aC (eIf (bB gGt (eA gLen (aC (eV 0) aN)) (eC (.int 0))) (eB gIx (eV 0) (eC (.int 0))) (eC (.int 0))) aN))))))
  sNil)
theorem sc__law_sizes : FnScope ["row"] ["row"] (defScope s__law_sizes) := ⟨rfl, rfl, rfl, by decide +kernel, rfl, by decide +kernel, by decide +kernel⟩
theorem w__law_sizes (T : Txt K mg base) : FnOk P w K mg base CX0 2 T.a__law_sizes T.fd__law_sizes ["row"] (spD K m__law_sizes 1) := by
  refine ok_def (k := 1) T.F__law_sizes sc__law_sizes rfl rfl (by decide) fun cdv A outer sh H E hr => ?_
  have sc := sc__law_sizes
  have hu1 := hu_of hr
  have hu64 := hr.units
  have hu65 := hu65_of hr
  exact (dss_cons (ds_ret (de_lst (da_cons (de_cut (de_v (pv 0)) dp_no (dp_so (de_sub (de_B _ _ cLen (by decide +kernel) T.m_len (da_cons (de_v (pv 0)) da_nil)) de_int))) (da_cons (de_add (de_v (pv 0)) (de_cut (de_v (pv 0)) dp_no (dp_so de_int))) (da_cons (de_cut (de_v (pv 0)) (dp_so de_int) dp_no) (da_cons (de_if (dt_gt (de_B _ _ cLen (by decide +kernel) T.m_len (da_cons (de_v (pv 0)) da_nil)) de_int) (de_ix2 (de_v (pv 0)) de_int hu1) de_int) da_nil))))))
  dss_nil)
noncomputable def m__law_rows : Fn := fn 3 2 (sCons (sSet 2 (eLst (aC (eTup (aC (eC (.str [97])) (aC (eC (.str [98])) aN))) (aC (eTup (aC (eC (.str [])) aN)) (aC (eTup (aC (eC (.str [65])) aN)) (aC (eTup (aC (eC (.str [97, 32, 98])) aN)) (aC (eTup (aC (eC (.bl true)) aN)) (aC (eTup (aC (eC .non) aN)) (aC (eTup (aC (eU gNeg (eC (.int 1))) aN)) (aC (eTup (aC (eV 1) aN)) (aC (eTup (aC (eTup aN) aN)) (aC (eC (.str [97])) (aC (eC (.int 0)) (aC (eC .non) (aC (eTup (aC (eC (.str [97])) aN)) (aC (eTup aN) aN))))))))))))))))
  (sCons (sIf (bB gGt (eV 1) (eC (.int 0))) (sCons (sSet 2 (eB gAdd (eV 2) (eLst (aC (eTup (aC (eC (.int 0)) (aC (eC (.int 0)) aN))) (aC (eTup (aC (eC (.int 0)) (aC (eC (.str [97])) (aC (eC (.int 0)) aN)))) (aC (eTup (aC (eC (.int 0)) (aC (eC (.str [120])) aN))) (aC (eTup (aC (eC (.str [120])) (aC (eC (.int 0)) (aC (eC (.str [121])) aN)))) (aC (eTup (aC (eB gSub (eV 1) (eC (.int 1))) (aC (eC (.str [])) (aC (eC (.str [97])) aN)))) (aC (eTup (aC (eC (.int 0)) (aC (eC (.bl false)) aN))) (aC (eTup (aC (eC (.int 0)) (aC (eC (.str [97])) (aC (eC (.str [98])) aN)))) aN))))))))))
  sNil) sNil)
  (sCons (sRet (eB gAdd (eV 2) (eLst (aC (eB gAdd (eV 0) (eCut (eV 0) pNo (pSo (eC (.int 1))))) (aC (eB gAdd (eV 0) (eTup (aC (eC (.str [113])) aN))) (aC (eB gAdd (eTup (aC (eC (.str [113])) aN)) (eV 0)) aN))))))
  sNil)))
theorem sc__law_rows : FnScope ["row", "many", "rows"] ["row", "many"] (defScope s__law_rows) := ⟨rfl, rfl, rfl, by decide +kernel, rfl, by decide +kernel, by decide +kernel⟩
theorem w__law_rows (T : Txt K mg base) : FnOk P w K mg base CX0 2 T.a__law_rows T.fd__law_rows ["row", "many"] (spD K m__law_rows 2) := by
  refine ok_def (k := 1) T.F__law_rows sc__law_rows rfl rfl (by decide) fun cdv A outer sh H E hr => ?_
  have sc := sc__law_rows
  have hu1 := hu_of hr
  have hu64 := hr.units
  have hu65 := hu65_of hr
  exact (dss_cons (ds_set (i := 2) sc.nd rfl (by first | exact .inl rfl | exact .inr rfl) (de_lst (da_cons (de_tup (da_cons (de_str rfl) (da_cons (de_str rfl) da_nil))) (da_cons (de_tup (da_cons (de_str rfl) da_nil)) (da_cons (de_tup (da_cons (de_str rfl) da_nil)) (da_cons (de_tup (da_cons (de_str rfl) da_nil)) (da_cons (de_tup (da_cons de_bl da_nil)) (da_cons (de_tup (da_cons de_non da_nil)) (da_cons (de_tup (da_cons (de_neg de_int) da_nil)) (da_cons (de_tup (da_cons (de_v (pv 1)) da_nil)) (da_cons (de_tup (da_cons (de_tup da_nil) da_nil)) (da_cons (de_str rfl) (da_cons de_int (da_cons de_non (da_cons (de_tup (da_cons (de_str rfl) da_nil)) (da_cons (de_tup da_nil) da_nil))))))))))))))))
  (dss_cons (ds_if (dt_gt (de_v (pv 1)) de_int) (dss_cons (ds_set (i := 2) sc.nd rfl (by first | exact .inl rfl | exact .inr rfl) (de_add (de_v (pv 2)) (de_lst (da_cons (de_tup (da_cons de_int (da_cons de_int da_nil))) (da_cons (de_tup (da_cons de_int (da_cons (de_str rfl) (da_cons de_int da_nil)))) (da_cons (de_tup (da_cons de_int (da_cons (de_str rfl) da_nil))) (da_cons (de_tup (da_cons (de_str rfl) (da_cons de_int (da_cons (de_str rfl) da_nil)))) (da_cons (de_tup (da_cons (de_sub (de_v (pv 1)) de_int) (da_cons (de_str rfl) (da_cons (de_str rfl) da_nil)))) (da_cons (de_tup (da_cons de_int (da_cons de_bl da_nil))) (da_cons (de_tup (da_cons de_int (da_cons (de_str rfl) (da_cons (de_str rfl) da_nil)))) da_nil))))))))))
  dss_nil) dss_nil)
  (dss_cons (ds_ret (de_add (de_v (pv 2)) (de_lst (da_cons (de_add (de_v (pv 0)) (de_cut (de_v (pv 0)) dp_no (dp_so de_int))) (da_cons (de_add (de_v (pv 0)) (de_tup (da_cons (de_str rfl) da_nil))) (da_cons (de_add (de_tup (da_cons (de_str rfl) da_nil)) (de_v (pv 0))) da_nil))))))
  dss_nil)))
noncomputable def m__law_put : Fn := fn 3 3 (sCons (sRet (eB gAdd (eB gAdd (eCut (eV 0) pNo (pSo (eV 1))) (eTup (aC (eV 2) aN))) (eCut (eV 0) (pSo (eB gAdd (eV 1) (eC (.int 1)))) pNo)))
  sNil)
theorem sc__law_put : FnScope ["row", "at", "thing"] ["row", "at", "thing"] (defScope s__law_put) := ⟨rfl, rfl, rfl, by decide +kernel, rfl, by decide +kernel, by decide +kernel⟩
theorem w__law_put (T : Txt K mg base) : FnOk P w K mg base CX0 2 T.a__law_put T.fd__law_put ["row", "at", "thing"] (spD K m__law_put 3) := by
  refine ok_def (k := 1) T.F__law_put sc__law_put rfl rfl (by decide) fun cdv A outer sh H E hr => ?_
  have sc := sc__law_put
  have hu1 := hu_of hr
  have hu64 := hr.units
  have hu65 := hu65_of hr
  exact (dss_cons (ds_ret (de_add (de_add (de_cut (de_v (pv 0)) dp_no (dp_so (de_v (pv 1)))) (de_tup (da_cons (de_v (pv 2)) da_nil))) (de_cut (de_v (pv 0)) (dp_so (de_add (de_v (pv 1)) de_int)) dp_no)))
  dss_nil)
noncomputable def m__law_with_entry : Fn := fn 6 5 (sCons (sSet 5 (eB gIx (eV 0) (eC (.int 4))))
  (sCons (sRet (eCall 3 m__law_put (aC (eV 0) (aC (eC (.int 4)) (aC (eCall 3 m__law_put (aC (eV 5) (aC (eV 1) (aC (eCall 3 m__law_put (aC (eB gIx (eV 5) (eV 1)) (aC (eV 2) (aC (eCall 3 m__law_put (aC (eB gIx (eB gIx (eV 5) (eV 1)) (eV 2)) (aC (eV 3) (aC (eV 4) aN)))) aN)))) aN)))) aN)))))
  sNil))
theorem sc__law_with_entry : FnScope ["boxes", "q", "k", "c", "entry", "rows"] ["boxes", "q", "k", "c", "entry"] (defScope s__law_with_entry) := ⟨rfl, rfl, rfl, by decide +kernel, rfl, by decide +kernel, by decide +kernel⟩
theorem w__law_with_entry (T : Txt K mg base) : FnOk P w K mg base CX0 3 T.a__law_with_entry T.fd__law_with_entry ["boxes", "q", "k", "c", "entry"] (spD K m__law_with_entry 5) := by
  refine ok_def (k := 2) T.F__law_with_entry sc__law_with_entry rfl rfl (by decide) fun cdv A outer sh H E hr => ?_
  have sc := sc__law_with_entry
  have hu1 := hu_of hr
  have hu64 := hr.units
  have hu65 := hu65_of hr
  exact (dss_cons (ds_set (i := 5) sc.nd rfl (by first | exact .inl rfl | exact .inr rfl) (de_ix2 (de_v (pv 0)) de_int hu1))
  (dss_cons (ds_ret (de_call ((w__law_put T).mono (by omega)) hr rfl T.g__law_put T.F__law_put.kp T.b__law_put (da_cons (de_v (pv 0)) (da_cons de_int (da_cons (de_call ((w__law_put T).mono (by omega)) hr rfl T.g__law_put T.F__law_put.kp T.b__law_put (da_cons (de_v (pv 5)) (da_cons (de_v (pv 1)) (da_cons (de_call ((w__law_put T).mono (by omega)) hr rfl T.g__law_put T.F__law_put.kp T.b__law_put (da_cons (de_ix2 (de_v (pv 5)) (de_v (pv 1)) hu1) (da_cons (de_v (pv 2)) (da_cons (de_call ((w__law_put T).mono (by omega)) hr rfl T.g__law_put T.F__law_put.kp T.b__law_put (da_cons (de_ix2 (de_ix2 (de_v (pv 5)) (de_v (pv 1)) hu1) (de_v (pv 2)) hu1) (da_cons (de_v (pv 3)) (da_cons (de_v (pv 4)) da_nil)))) da_nil)))) da_nil)))) da_nil)))))
  dss_nil))
noncomputable def m__law_things : Fn := fn 17 2 (sCons (sAsg (gT (gsC (gN 2) (gsC (gN 3) (gsC (gN 4) (gsC (gN 5) (gsC (gN 6) gsN)))))) (eTup (aC (eB gIx (eV 1) (eC (.int 1))) (aC (eB gIx (eV 1) (eC (.int 2))) (aC (eB gIx (eV 1) (eC (.int 3))) (aC (eB gIx (eV 1) (eC (.int 4))) (aC (eB gIx (eV 1) (eC (.int 5))) aN)))))))
  (sCons (sSet 7 (eB gAdd (eCall 1 m__law_sizes (aC (eV 1) aN)) (eLc (iA (eLst (aC (eC (.str [98, 111, 120])) (aC (eC (.str [104, 101, 97, 100])) (aC (eC (.int 0)) (aC (eC .non) aN)))))) (gN 15) bYes (eCall 3 m__law_put (aC (eV 1) (aC (eC (.int 0)) (aC (eV 15) aN)))) [15])))
  (sCons (sSet 7 (eB gAdd (eV 7) (eLc (iA (eLst (aC (eC (.str [])) (aC (eB gAdd (eV 2) (eC (.str [121]))) (aC (eCut (eV 2) pNo (pSo (eC (.int 1)))) (aC (eC (.str [98, 97])) (aC (eC (.str [97, 97])) (aC (eC (.str [97, 66])) (aC (eC (.int 5)) (aC (eTup (aC (eC (.str [97])) (aC (eC (.str [98])) aN))) (aC (eC (.str [97, 32])) aN))))))))))) (gN 15) bYes (eCall 3 m__law_put (aC (eV 1) (aC (eC (.int 1)) (aC (eV 15) aN)))) [15])))
  (sCons (sSet 7 (eB gAdd (eV 7) (eLc (iA (eLst (aC (eB gAdd (eV 4) (eC (.int 1))) (aC (eB gSub (eV 4) (eC (.int 1))) (aC (eU gNeg (eC (.int 1))) (aC (eC (.bl true)) (aC (eC (.bl false)) (aC (eC .non) (aC (eC (.str [49])) aN))))))))) (gN 16) bYes (eCall 3 m__law_put (aC (eV 1) (aC (eC (.int 3)) (aC (eV 16) aN)))) [16])))
  (sCons (sSet 8 (eCall 2 m__law_pick (aC (eV 0) (aC (eA gLen (aC (eV 3) aN)) aN))))
  (sCons (sSet 9 (eCall 2 m__law_pick (aC (eV 0) (aC (eA gLen (aC (eV 2) aN)) aN))))
  (sCons (sSet 10 (eCall 2 m__law_pick (aC (eV 0) (aC (eA gLen (aC (eV 6) aN)) aN))))
  (sCons (sFor (iA (eLst (aC (eA gLen (aC (eV 3) aN)) (aC (eU gNeg (eC (.int 1))) (aC (eC (.bl true)) (aC (eC (.str [48])) (aC (eC .non) (aC (eB gSub (eA gLen (aC (eV 3) aN)) (eC (.int 1))) aN)))))))) (gN 11) (sCons (sEx (eMt "list" gApp (eV 7) (aC (eCall 3 m__law_put (aC (eV 1) (aC (eC (.int 2)) (aC (eCall 3 m__law_put (aC (eV 3) (aC (eV 8) (aC (eCall 3 m__law_put (aC (eB gIx (eV 3) (eV 8)) (aC (eV 9) (aC (eV 11) aN)))) aN)))) aN)))) aN)))
  sNil))
  (sCons (sFor (iA (eB gAdd (eCall 1 m__law_sizes (aC (eB gIx (eV 3) (eV 8)) aN)) (eLst (aC (eC (.int 0)) (aC (eTup aN) aN))))) (gN 12) (sCons (sEx (eMt "list" gApp (eV 7) (aC (eCall 3 m__law_put (aC (eV 1) (aC (eC (.int 2)) (aC (eCall 3 m__law_put (aC (eV 3) (aC (eV 8) (aC (eV 12) aN)))) aN)))) aN)))
  sNil))
  (sCons (sFor (iA (eB gAdd (eCall 1 m__law_sizes (aC (eV 3) aN)) (eLst (aC (eTup aN) aN)))) (gN 12) (sCons (sEx (eMt "list" gApp (eV 7) (aC (eCall 3 m__law_put (aC (eV 1) (aC (eC (.int 2)) (aC (eV 12) aN)))) aN)))
  sNil))
  (sCons (sFor (iA (eB gAdd (eCall 1 m__law_sizes (aC (eV 5) aN)) (eLst (aC (eTup aN) aN)))) (gN 12) (sCons (sEx (eMt "list" gApp (eV 7) (aC (eCall 3 m__law_put (aC (eV 1) (aC (eC (.int 4)) (aC (eV 12) aN)))) aN)))
  sNil))
  (sCons (sFor (iA (eB gAdd (eCall 1 m__law_sizes (aC (eV 6) aN)) (eLst (aC (eTup aN) aN)))) (gN 12) (sCons (sEx (eMt "list" gApp (eV 7) (aC (eCall 3 m__law_put (aC (eV 1) (aC (eC (.int 5)) (aC (eV 12) aN)))) aN)))
  sNil))
  (sCons (sFor (iA (eCall 1 m__law_sizes (aC (eB gIx (eV 5) (eV 10)) aN))) (gN 12) (sCons (sEx (eMt "list" gApp (eV 7) (aC (eCall 3 m__law_put (aC (eV 1) (aC (eC (.int 4)) (aC (eCall 3 m__law_put (aC (eV 5) (aC (eV 10) (aC (eV 12) aN)))) aN)))) aN)))
  sNil))
  (sCons (sFor (iA (eCall 1 m__law_sizes (aC (eB gIx (eB gIx (eV 5) (eV 10)) (eV 9)) aN))) (gN 12) (sCons (sEx (eMt "list" gApp (eV 7) (aC (eCall 3 m__law_put (aC (eV 1) (aC (eC (.int 4)) (aC (eCall 3 m__law_put (aC (eV 5) (aC (eV 10) (aC (eCall 3 m__law_put (aC (eB gIx (eV 5) (eV 10)) (aC (eV 9) (aC (eV 12) aN)))) aN)))) aN)))) aN)))
  sNil))
  (sCons (sSet 13 (eCall 2 m__law_news (aC (eV 0) (aC (eV 4) aN))))
  (sCons (sFor (iA (eLst (aC (eC .non) (aC (eTup aN) (aC (eTup (aC (eC (.int 0)) aN)) (aC (eTup (aC (eC (.int 0)) (aC (eV 13) (aC (eC (.int 0)) aN)))) (aC (eTup (aC (eA gLen (aC (eV 6) aN)) (aC (eV 13) aN))) (aC (eTup (aC (eU gNeg (eC (.int 1))) (aC (eV 13) aN))) (aC (eTup (aC (eC (.bl true)) (aC (eV 13) aN))) (aC (eTup (aC (eC (.str [48])) (aC (eV 13) aN))) (aC (eTup (aC (eB gSub (eA gLen (aC (eV 6) aN)) (eC (.int 1))) (aC (eV 13) aN))) (aC (eV 13) (aC (eC (.int 0)) (aC (eTup (aC (eC (.int 0)) (aC (eC .non) aN))) aN)))))))))))))) (gN 14) (sCons (sEx (eMt "list" gApp (eV 7) (aC (eCall 5 m__law_with_entry (aC (eV 1) (aC (eV 10) (aC (eV 9) (aC (eV 8) (aC (eV 14) aN)))))) aN)))
  sNil))
  (sCons (sFor (iA (eCall 1 m__law_sizes (aC (eV 13) aN))) (gN 12) (sCons (sEx (eMt "list" gApp (eV 7) (aC (eCall 5 m__law_with_entry (aC (eV 1) (aC (eV 10) (aC (eV 9) (aC (eV 8) (aC (eTup (aC (eC (.int 0)) (aC (eV 12) aN))) aN)))))) aN)))
  sNil))
  (sCons (sIf (bB gGt (eV 4) (eC (.int 0))) (sCons (sFor (iA (eCall 2 m__law_rows (aC (eB gIx (eV 13) (eC (.int 0))) (aC (eV 4) aN)))) (gN 12) (sCons (sEx (eMt "list" gApp (eV 7) (aC (eCall 5 m__law_with_entry (aC (eV 1) (aC (eV 10) (aC (eV 9) (aC (eV 8) (aC (eTup (aC (eC (.int 0)) (aC (eB gAdd (eTup (aC (eV 12) aN)) (eCut (eV 13) (pSo (eC (.int 1))) pNo)) aN))) aN)))))) aN)))
  (sCons (sEx (eMt "list" gApp (eV 7) (aC (eCall 5 m__law_with_entry (aC (eV 1) (aC (eV 10) (aC (eV 9) (aC (eV 8) (aC (eTup (aC (eC (.int 0)) (aC (eB gAdd (eTup (aC (eV 12) aN)) (eB gMul (eTup (aC (eTup aN) aN)) (eB gSub (eV 4) (eC (.int 1))))) aN))) aN)))))) aN)))
  sNil)))
  (sCons (sEx (eMt "list" gApp (eV 7) (aC (eCall 5 m__law_with_entry (aC (eV 1) (aC (eV 10) (aC (eV 9) (aC (eV 8) (aC (eTup (aC (eC (.int 0)) (aC (eB gMul (eTup (aC (eTup (aC (eC (.int 0)) aN)) aN)) (eV 4)) aN))) aN)))))) aN)))
  sNil)) sNil)
  (sCons (sFor (iA (eCall 2 m__law_rows (aC (eTup aN) (aC (eV 4) aN)))) (gN 12) (sCons (sEx (eMt "list" gApp (eV 7) (aC (eCall 3 m__law_put (aC (eV 1) (aC (eC (.int 5)) (aC (eCall 3 m__law_put (aC (eV 6) (aC (eV 10) (aC (eV 12) aN)))) aN)))) aN)))
  sNil))
  (sCons (sRet (eV 7))
  sNil))))))))))))))))))))
theorem sc__law_things : FnScope ["draws", "boxes", "letters", "ahead", "many", "rows", "ends", "things", "c", "k", "q", "goal", "row", "news", "entry", "word", "number"] ["draws", "boxes"] (defScope s__law_things) := ⟨rfl, rfl, rfl, by decide +kernel, rfl, by decide +kernel, by decide +kernel⟩
theorem w__law_things (T : Txt K mg base) : FnOk P w K mg base CX0 7 T.a__law_things T.fd__law_things ["draws", "boxes"] (spD K m__law_things 2) := by
  refine ok_def (k := 6) T.F__law_things sc__law_things rfl rfl (by decide) fun cdv A outer sh H E hr => ?_
  have sc := sc__law_things
  have hu1 := hu_of hr
  have hu64 := hr.units
  have hu65 := hu65_of hr
  exact (dss_cons (ds_asg (de_tup (da_cons (de_ix2 (de_v (pv 1)) de_int hu1) (da_cons (de_ix2 (de_v (pv 1)) de_int hu1) (da_cons (de_ix2 (de_v (pv 1)) de_int hu1) (da_cons (de_ix2 (de_v (pv 1)) de_int hu1) (da_cons (de_ix2 (de_v (pv 1)) de_int hu1) da_nil)))))) (dg_t rfl (dgs_cons (dg_n (i := 2) sc.nd rfl (by first | exact .inl rfl | exact .inr rfl)) (dgs_cons (dg_n (i := 3) sc.nd rfl (by first | exact .inl rfl | exact .inr rfl)) (dgs_cons (dg_n (i := 4) sc.nd rfl (by first | exact .inl rfl | exact .inr rfl)) (dgs_cons (dg_n (i := 5) sc.nd rfl (by first | exact .inl rfl | exact .inr rfl)) (dgs_cons (dg_n (i := 6) sc.nd rfl (by first | exact .inl rfl | exact .inr rfl)) dgs_nil))))) rfl rfl (gslc (gslc (gslc (gslc (gslc gsl0)))))))
  (dss_cons (ds_set (i := 7) sc.nd rfl (by first | exact .inl rfl | exact .inr rfl) (de_add (de_call ((w__law_sizes T).mono (by omega)) hr rfl T.g__law_sizes T.F__law_sizes.kp T.b__law_sizes (da_cons (de_v (pv 1)) da_nil)) (de_lc (own := [("word", 15)]) [15] rfl sc.nd (di_a (de_lst (da_cons (de_str rfl) (da_cons (de_str rfl) (da_cons de_int (da_cons de_non da_nil)))))) (blkOk_by (own := [("word", 15)]) (N := ["draws", "boxes", "letters", "ahead", "many", "rows", "ends", "things", "c", "k", "q", "goal", "row", "news", "entry", "word", "number"]) (sc := defScope s__law_things) (by decide +kernel)) (fun _ _ _ _ _ => (dg_n (i := 15) sc.nd rfl (by first | exact .inl rfl | exact .inr rfl))) (fun _ _ _ _ _ => dts_nil) (fun _ _ _ _ _ => (de_call ((w__law_put T).mono (by omega)) hr rfl T.g__law_put T.F__law_put.kp T.b__law_put (da_cons (de_v (pv 1)) (da_cons de_int (da_cons (de_v (pv 15)) da_nil))))) rfl (by decide))))
  (dss_cons (ds_set (i := 7) sc.nd rfl (by first | exact .inl rfl | exact .inr rfl) (de_add (de_v (pv 7)) (de_lc (own := [("word", 15)]) [15] rfl sc.nd (di_a (de_lst (da_cons (de_str rfl) (da_cons (de_add (de_v (pv 2)) (de_str rfl)) (da_cons (de_cut (de_v (pv 2)) dp_no (dp_so de_int)) (da_cons (de_str rfl) (da_cons (de_str rfl) (da_cons (de_str rfl) (da_cons de_int (da_cons (de_tup (da_cons (de_str rfl) (da_cons (de_str rfl) da_nil))) (da_cons (de_str rfl) da_nil))))))))))) (blkOk_by (own := [("word", 15)]) (N := ["draws", "boxes", "letters", "ahead", "many", "rows", "ends", "things", "c", "k", "q", "goal", "row", "news", "entry", "word", "number"]) (sc := defScope s__law_things) (by decide +kernel)) (fun _ _ _ _ _ => (dg_n (i := 15) sc.nd rfl (by first | exact .inl rfl | exact .inr rfl))) (fun _ _ _ _ _ => dts_nil) (fun _ _ _ _ _ => (de_call ((w__law_put T).mono (by omega)) hr rfl T.g__law_put T.F__law_put.kp T.b__law_put (da_cons (de_v (pv 1)) (da_cons de_int (da_cons (de_v (pv 15)) da_nil))))) rfl (by decide))))
  (dss_cons (ds_set (i := 7) sc.nd rfl (by first | exact .inl rfl | exact .inr rfl) (de_add (de_v (pv 7)) (de_lc (own := [("number", 16)]) [16] rfl sc.nd (di_a (de_lst (da_cons (de_add (de_v (pv 4)) de_int) (da_cons (de_sub (de_v (pv 4)) de_int) (da_cons (de_neg de_int) (da_cons de_bl (da_cons de_bl (da_cons de_non (da_cons (de_str rfl) da_nil))))))))) (blkOk_by (own := [("number", 16)]) (N := ["draws", "boxes", "letters", "ahead", "many", "rows", "ends", "things", "c", "k", "q", "goal", "row", "news", "entry", "word", "number"]) (sc := defScope s__law_things) (by decide +kernel)) (fun _ _ _ _ _ => (dg_n (i := 16) sc.nd rfl (by first | exact .inl rfl | exact .inr rfl))) (fun _ _ _ _ _ => dts_nil) (fun _ _ _ _ _ => (de_call ((w__law_put T).mono (by omega)) hr rfl T.g__law_put T.F__law_put.kp T.b__law_put (da_cons (de_v (pv 1)) (da_cons de_int (da_cons (de_v (pv 16)) da_nil))))) rfl (by decide))))
  (dss_cons (ds_set (i := 8) sc.nd rfl (by first | exact .inl rfl | exact .inr rfl) (de_call ((w__law_pick T).mono (by omega)) hr rfl T.g__law_pick T.F__law_pick.kp T.b__law_pick (da_cons (de_v (pv 0)) (da_cons (de_B _ _ cLen (by decide +kernel) T.m_len (da_cons (de_v (pv 3)) da_nil)) da_nil))))
  (dss_cons (ds_set (i := 9) sc.nd rfl (by first | exact .inl rfl | exact .inr rfl) (de_call ((w__law_pick T).mono (by omega)) hr rfl T.g__law_pick T.F__law_pick.kp T.b__law_pick (da_cons (de_v (pv 0)) (da_cons (de_B _ _ cLen (by decide +kernel) T.m_len (da_cons (de_v (pv 2)) da_nil)) da_nil))))
  (dss_cons (ds_set (i := 10) sc.nd rfl (by first | exact .inl rfl | exact .inr rfl) (de_call ((w__law_pick T).mono (by omega)) hr rfl T.g__law_pick T.F__law_pick.kp T.b__law_pick (da_cons (de_v (pv 0)) (da_cons (de_B _ _ cLen (by decide +kernel) T.m_len (da_cons (de_v (pv 6)) da_nil)) da_nil))))
  (dss_cons (ds_for PassesOwn.never rfl (di_a (de_lst (da_cons (de_B _ _ cLen (by decide +kernel) T.m_len (da_cons (de_v (pv 3)) da_nil)) (da_cons (de_neg de_int) (da_cons de_bl (da_cons (de_str rfl) (da_cons de_non (da_cons (de_sub (de_B _ _ cLen (by decide +kernel) T.m_len (da_cons (de_v (pv 3)) da_nil)) de_int) da_nil)))))))) (dg_n (i := 11) sc.nd rfl (by first | exact .inl rfl | exact .inr rfl)) (dss_cons (ds_ex (de_app (de_v (pv 7)) (de_call ((w__law_put T).mono (by omega)) hr rfl T.g__law_put T.F__law_put.kp T.b__law_put (da_cons (de_v (pv 1)) (da_cons de_int (da_cons (de_call ((w__law_put T).mono (by omega)) hr rfl T.g__law_put T.F__law_put.kp T.b__law_put (da_cons (de_v (pv 3)) (da_cons (de_v (pv 8)) (da_cons (de_call ((w__law_put T).mono (by omega)) hr rfl T.g__law_put T.F__law_put.kp T.b__law_put (da_cons (de_ix2 (de_v (pv 3)) (de_v (pv 8)) hu1) (da_cons (de_v (pv 9)) (da_cons (de_v (pv 11)) da_nil)))) da_nil)))) da_nil))))))
  dss_nil))
  (dss_cons (ds_for PassesOwn.never rfl (di_a (de_add (de_call ((w__law_sizes T).mono (by omega)) hr rfl T.g__law_sizes T.F__law_sizes.kp T.b__law_sizes (da_cons (de_ix2 (de_v (pv 3)) (de_v (pv 8)) hu1) da_nil)) (de_lst (da_cons de_int (da_cons (de_tup da_nil) da_nil))))) (dg_n (i := 12) sc.nd rfl (by first | exact .inl rfl | exact .inr rfl)) (dss_cons (ds_ex (de_app (de_v (pv 7)) (de_call ((w__law_put T).mono (by omega)) hr rfl T.g__law_put T.F__law_put.kp T.b__law_put (da_cons (de_v (pv 1)) (da_cons de_int (da_cons (de_call ((w__law_put T).mono (by omega)) hr rfl T.g__law_put T.F__law_put.kp T.b__law_put (da_cons (de_v (pv 3)) (da_cons (de_v (pv 8)) (da_cons (de_v (pv 12)) da_nil)))) da_nil))))))
  dss_nil))
  (dss_cons (ds_for PassesOwn.never rfl (di_a (de_add (de_call ((w__law_sizes T).mono (by omega)) hr rfl T.g__law_sizes T.F__law_sizes.kp T.b__law_sizes (da_cons (de_v (pv 3)) da_nil)) (de_lst (da_cons (de_tup da_nil) da_nil)))) (dg_n (i := 12) sc.nd rfl (by first | exact .inl rfl | exact .inr rfl)) (dss_cons (ds_ex (de_app (de_v (pv 7)) (de_call ((w__law_put T).mono (by omega)) hr rfl T.g__law_put T.F__law_put.kp T.b__law_put (da_cons (de_v (pv 1)) (da_cons de_int (da_cons (de_v (pv 12)) da_nil))))))
  dss_nil))
  (dss_cons (ds_for PassesOwn.never rfl (di_a (de_add (de_call ((w__law_sizes T).mono (by omega)) hr rfl T.g__law_sizes T.F__law_sizes.kp T.b__law_sizes (da_cons (de_v (pv 5)) da_nil)) (de_lst (da_cons (de_tup da_nil) da_nil)))) (dg_n (i := 12) sc.nd rfl (by first | exact .inl rfl | exact .inr rfl)) (dss_cons (ds_ex (de_app (de_v (pv 7)) (de_call ((w__law_put T).mono (by omega)) hr rfl T.g__law_put T.F__law_put.kp T.b__law_put (da_cons (de_v (pv 1)) (da_cons de_int (da_cons (de_v (pv 12)) da_nil))))))
  dss_nil))
  (dss_cons (ds_for PassesOwn.never rfl (di_a (de_add (de_call ((w__law_sizes T).mono (by omega)) hr rfl T.g__law_sizes T.F__law_sizes.kp T.b__law_sizes (da_cons (de_v (pv 6)) da_nil)) (de_lst (da_cons (de_tup da_nil) da_nil)))) (dg_n (i := 12) sc.nd rfl (by first | exact .inl rfl | exact .inr rfl)) (dss_cons (ds_ex (de_app (de_v (pv 7)) (de_call ((w__law_put T).mono (by omega)) hr rfl T.g__law_put T.F__law_put.kp T.b__law_put (da_cons (de_v (pv 1)) (da_cons de_int (da_cons (de_v (pv 12)) da_nil))))))
  dss_nil))
  (dss_cons (ds_for PassesOwn.never rfl (di_a (de_call ((w__law_sizes T).mono (by omega)) hr rfl T.g__law_sizes T.F__law_sizes.kp T.b__law_sizes (da_cons (de_ix2 (de_v (pv 5)) (de_v (pv 10)) hu1) da_nil))) (dg_n (i := 12) sc.nd rfl (by first | exact .inl rfl | exact .inr rfl)) (dss_cons (ds_ex (de_app (de_v (pv 7)) (de_call ((w__law_put T).mono (by omega)) hr rfl T.g__law_put T.F__law_put.kp T.b__law_put (da_cons (de_v (pv 1)) (da_cons de_int (da_cons (de_call ((w__law_put T).mono (by omega)) hr rfl T.g__law_put T.F__law_put.kp T.b__law_put (da_cons (de_v (pv 5)) (da_cons (de_v (pv 10)) (da_cons (de_v (pv 12)) da_nil)))) da_nil))))))
  dss_nil))
  (dss_cons (ds_for PassesOwn.never rfl (di_a (de_call ((w__law_sizes T).mono (by omega)) hr rfl T.g__law_sizes T.F__law_sizes.kp T.b__law_sizes (da_cons (de_ix2 (de_ix2 (de_v (pv 5)) (de_v (pv 10)) hu1) (de_v (pv 9)) hu1) da_nil))) (dg_n (i := 12) sc.nd rfl (by first | exact .inl rfl | exact .inr rfl)) (dss_cons (ds_ex (de_app (de_v (pv 7)) (de_call ((w__law_put T).mono (by omega)) hr rfl T.g__law_put T.F__law_put.kp T.b__law_put (da_cons (de_v (pv 1)) (da_cons de_int (da_cons (de_call ((w__law_put T).mono (by omega)) hr rfl T.g__law_put T.F__law_put.kp T.b__law_put (da_cons (de_v (pv 5)) (da_cons (de_v (pv 10)) (da_cons (de_call ((w__law_put T).mono (by omega)) hr rfl T.g__law_put T.F__law_put.kp T.b__law_put (da_cons (de_ix2 (de_v (pv 5)) (de_v (pv 10)) hu1) (da_cons (de_v (pv 9)) (da_cons (de_v (pv 12)) da_nil)))) da_nil)))) da_nil))))))
  dss_nil))
  (dss_cons (ds_set (i := 13) sc.nd rfl (by first | exact .inl rfl | exact .inr rfl) (de_call ((w__law_news T).mono (by omega)) hr rfl T.g__law_news T.F__law_news.kp T.b__law_news (da_cons (de_v (pv 0)) (da_cons (de_v (pv 4)) da_nil))))
  (dss_cons (ds_for PassesOwn.never rfl (di_a (de_lst (da_cons de_non (da_cons (de_tup da_nil) (da_cons (de_tup (da_cons de_int da_nil)) (da_cons (de_tup (da_cons de_int (da_cons (de_v (pv 13)) (da_cons de_int da_nil)))) (da_cons (de_tup (da_cons (de_B _ _ cLen (by decide +kernel) T.m_len (da_cons (de_v (pv 6)) da_nil)) (da_cons (de_v (pv 13)) da_nil))) (da_cons (de_tup (da_cons (de_neg de_int) (da_cons (de_v (pv 13)) da_nil))) (da_cons (de_tup (da_cons de_bl (da_cons (de_v (pv 13)) da_nil))) (da_cons (de_tup (da_cons (de_str rfl) (da_cons (de_v (pv 13)) da_nil))) (da_cons (de_tup (da_cons (de_sub (de_B _ _ cLen (by decide +kernel) T.m_len (da_cons (de_v (pv 6)) da_nil)) de_int) (da_cons (de_v (pv 13)) da_nil))) (da_cons (de_v (pv 13)) (da_cons de_int (da_cons (de_tup (da_cons de_int (da_cons de_non da_nil))) da_nil)))))))))))))) (dg_n (i := 14) sc.nd rfl (by first | exact .inl rfl | exact .inr rfl)) (dss_cons (ds_ex (de_app (de_v (pv 7)) (de_call ((w__law_with_entry T).mono (by omega)) hr rfl T.g__law_with_entry T.F__law_with_entry.kp T.b__law_with_entry (da_cons (de_v (pv 1)) (da_cons (de_v (pv 10)) (da_cons (de_v (pv 9)) (da_cons (de_v (pv 8)) (da_cons (de_v (pv 14)) da_nil))))))))
  dss_nil))
  (dss_cons (ds_for PassesOwn.never rfl (di_a (de_call ((w__law_sizes T).mono (by omega)) hr rfl T.g__law_sizes T.F__law_sizes.kp T.b__law_sizes (da_cons (de_v (pv 13)) da_nil))) (dg_n (i := 12) sc.nd rfl (by first | exact .inl rfl | exact .inr rfl)) (dss_cons (ds_ex (de_app (de_v (pv 7)) (de_call ((w__law_with_entry T).mono (by omega)) hr rfl T.g__law_with_entry T.F__law_with_entry.kp T.b__law_with_entry (da_cons (de_v (pv 1)) (da_cons (de_v (pv 10)) (da_cons (de_v (pv 9)) (da_cons (de_v (pv 8)) (da_cons (de_tup (da_cons de_int (da_cons (de_v (pv 12)) da_nil))) da_nil))))))))
  dss_nil))
  (dss_cons (ds_if (dt_gt (de_v (pv 4)) de_int) (dss_cons (ds_for PassesOwn.never rfl (di_a (de_call ((w__law_rows T).mono (by omega)) hr rfl T.g__law_rows T.F__law_rows.kp T.b__law_rows (da_cons (de_ix2 (de_v (pv 13)) de_int hu1) (da_cons (de_v (pv 4)) da_nil)))) (dg_n (i := 12) sc.nd rfl (by first | exact .inl rfl | exact .inr rfl)) (dss_cons (ds_ex (de_app (de_v (pv 7)) (de_call ((w__law_with_entry T).mono (by omega)) hr rfl T.g__law_with_entry T.F__law_with_entry.kp T.b__law_with_entry (da_cons (de_v (pv 1)) (da_cons (de_v (pv 10)) (da_cons (de_v (pv 9)) (da_cons (de_v (pv 8)) (da_cons (de_tup (da_cons de_int (da_cons (de_add (de_tup (da_cons (de_v (pv 12)) da_nil)) (de_cut (de_v (pv 13)) (dp_so de_int) dp_no)) da_nil))) da_nil))))))))
  (dss_cons (ds_ex (de_app (de_v (pv 7)) (de_call ((w__law_with_entry T).mono (by omega)) hr rfl T.g__law_with_entry T.F__law_with_entry.kp T.b__law_with_entry (da_cons (de_v (pv 1)) (da_cons (de_v (pv 10)) (da_cons (de_v (pv 9)) (da_cons (de_v (pv 8)) (da_cons (de_tup (da_cons de_int (da_cons (de_add (de_tup (da_cons (de_v (pv 12)) da_nil)) (de_mul (de_tup (da_cons (de_tup da_nil) da_nil)) (de_sub (de_v (pv 4)) de_int))) da_nil))) da_nil))))))))
  dss_nil)))
  (dss_cons (ds_ex (de_app (de_v (pv 7)) (de_call ((w__law_with_entry T).mono (by omega)) hr rfl T.g__law_with_entry T.F__law_with_entry.kp T.b__law_with_entry (da_cons (de_v (pv 1)) (da_cons (de_v (pv 10)) (da_cons (de_v (pv 9)) (da_cons (de_v (pv 8)) (da_cons (de_tup (da_cons de_int (da_cons (de_mul (de_tup (da_cons (de_tup (da_cons de_int da_nil)) da_nil)) (de_v (pv 4))) da_nil))) da_nil))))))))
  dss_nil)) dss_nil)
  (dss_cons (ds_for PassesOwn.never rfl (di_a (de_call ((w__law_rows T).mono (by omega)) hr rfl T.g__law_rows T.F__law_rows.kp T.b__law_rows (da_cons (de_tup da_nil) (da_cons (de_v (pv 4)) da_nil)))) (dg_n (i := 12) sc.nd rfl (by first | exact .inl rfl | exact .inr rfl)) (dss_cons (ds_ex (de_app (de_v (pv 7)) (de_call ((w__law_put T).mono (by omega)) hr rfl T.g__law_put T.F__law_put.kp T.b__law_put (da_cons (de_v (pv 1)) (da_cons de_int (da_cons (de_call ((w__law_put T).mono (by omega)) hr rfl T.g__law_put T.F__law_put.kp T.b__law_put (da_cons (de_v (pv 6)) (da_cons (de_v (pv 10)) (da_cons (de_v (pv 12)) da_nil)))) da_nil))))))
  dss_nil))
  (dss_cons (ds_ret (de_v (pv 7)))
  dss_nil))))))))))))))))))))
noncomputable def m_is_tuple_of : Fn := fn 2 2 (sCons (sRet (eAnd (eA gIsi (aC (eV 0) (aC (eC (.ty "tuple")) aN))) (eB gEq (eA gLen (aC (eV 0) aN)) (eV 1))))
  sNil)
theorem sc_is_tuple_of : FnScope ["thing", "size"] ["thing", "size"] (defScope s_is_tuple_of) := ⟨rfl, rfl, rfl, by decide +kernel, rfl, by decide +kernel, by decide +kernel⟩
theorem w_is_tuple_of (T : Txt K mg base) : FnOk P w K mg base CX0 2 T.a_is_tuple_of T.fd_is_tuple_of ["thing", "size"] (spD K m_is_tuple_of 2) := by
  refine ok_def (k := 1) T.F_is_tuple_of sc_is_tuple_of rfl rfl (by decide) fun cdv A outer sh H E hr => ?_
  have sc := sc_is_tuple_of
  have hu1 := hu_of hr
  have hu64 := hr.units
  have hu65 := hu65_of hr
  exact (dss_cons (ds_ret (de_and (de_B _ _ cIsi (by decide +kernel) T.m_isinstance (da_cons (de_v (pv 0)) (da_cons (de_ty rfl T.m_tuple (by decide +kernel)) da_nil))) (de_one (de_eq hu64 (de_B _ _ cLen (by decide +kernel) T.m_len (da_cons (de_v (pv 0)) da_nil)) (de_v (pv 1))))))
  dss_nil)
noncomputable def m_is_string : Fn := fn 1 1 (sCons (sRet (eAnd (eA gIsi (aC (eV 0) (aC (eC (.ty "str")) aN))) (eGx false (iA (eV 0)) (eB gIn (eV 1) (eC (.str [97, 98, 99, 100, 101, 102, 103, 104, 105, 106, 107, 108, 109, 110, 111, 112, 113, 114, 115, 116, 117, 118, 119, 120, 121, 122]))))))
  sNil)
theorem sc_is_string : FnScope ["thing"] ["thing"] (defScope s_is_string) := ⟨rfl, rfl, rfl, by decide +kernel, rfl, by decide +kernel, by decide +kernel⟩
theorem w_is_string (T : Txt K mg base) : FnOk P w K mg base CX0 2 T.a_is_string T.fd_is_string ["thing"] (spD K m_is_string 1) := by
  refine ok_defC (k := 1) T.F_is_string sc_is_string rfl rfl (by decide) fun cdv hcd A outer sh H E hr => ?_
  obtain rfl : cdv = .ref T.tc_is_string := hcd.symm.trans T.to_is_string.code
  have sc := sc_is_string
  have hu1 := hu_of hr
  have hu64 := hr.units
  have hu65 := hu65_of hr
  exact (dss_cons (ds_ret (de_and (de_B _ _ cIsi (by decide +kernel) T.m_isinstance (da_cons (de_v (pv 0)) (da_cons (de_ty rfl T.m_str (by decide +kernel)) da_nil))) (de_one (de_all hr rfl T.m_all (by decide +kernel) T.tb_is_string ⟨"is_string", _, by decide, T.to_is_string.tab⟩ rfl (gxS_by (N := ["thing"]) (sc := defScope s_is_string) (by decide +kernel)) (di_a (de_v (pv 0))) (fun _ => rfl) (fun _ _ _ _ _ hr => have hu1 := hu_of hr; have hu64 := hr.units; have hu65 := hu65_of hr; (de_in hu65 (de_v (pv 1)) (de_gs _ T.c_SMALL rfl)))))))
  dss_nil)
noncomputable def m_is_letters : Fn := fn 1 1 (sCons (sIf (bOr (bNot (bV (eA gIsi (aC (eV 0) (aC (eC (.ty "str")) aN))))) (bNot (bO (eCh gLe gLe (eC (.int 1)) (eA gLen (aC (eV 0) aN)) (eC (.int 6)))))) (sCons (sRet (eC (.bl false)))
  sNil) sNil)
  (sCons (sRet (eAnd (eCall 1 m_is_string (aC (eV 0) aN)) (eB gEq (eA gList (aC (eV 0) aN)) (eA gSrtSetA (aC (eV 0) aN)))))
  sNil))
theorem sc_is_letters : FnScope ["thing"] ["thing"] (defScope s_is_letters) := ⟨rfl, rfl, rfl, by decide +kernel, rfl, by decide +kernel, by decide +kernel⟩
theorem w_is_letters (T : Txt K mg base) : FnOk P w K mg base CX0 3 T.a_is_letters T.fd_is_letters ["thing"] (spD K m_is_letters 1) := by
  refine ok_def (k := 2) T.F_is_letters sc_is_letters rfl rfl (by decide) fun cdv A outer sh H E hr => ?_
  have sc := sc_is_letters
  have hu1 := hu_of hr
  have hu64 := hr.units
  have hu65 := hu65_of hr
  exact (dss_cons (ds_if (dt_w (dw_or (dt_not (dt_v (de_B _ _ cIsi (by decide +kernel) T.m_isinstance (da_cons (de_v (pv 0)) (da_cons (de_ty rfl T.m_str (by decide +kernel)) da_nil))) (fun _ => rfl))) (dw_or1 (dt_not (dt_ch cmpLe cmpLe de_int (de_B _ _ cLen (by decide +kernel) T.m_len (da_cons (de_v (pv 0)) da_nil)) de_int))))) (dss_cons (ds_ret de_bl)
  dss_nil) dss_nil)
  (dss_cons (ds_ret (de_and (de_call ((w_is_string T).mono (by omega)) hr rfl T.g_is_string T.F_is_string.kp T.b_is_string (da_cons (de_v (pv 0)) da_nil)) (de_one (de_eq hu64 (de_T _ _ (cList rfl) (by decide +kernel) T.m_list (da_cons (de_v (pv 0)) da_nil)) (de_srtsetA rfl T.m_sorted T.m_set (de_v (pv 0)))))))
  dss_nil))
noncomputable def m_is_number : Fn := fn 2 2 (sCons (sRet (eAnd (eA gIsi (aC (eV 0) (aC (eC (.ty "int")) aN))) (eAnd (eNot (eA gIsi (aC (eV 0) (aC (eC (.ty "bool")) aN)))) (eCh gLe gLt (eC (.int 0)) (eV 0) (eV 1)))))
  sNil)
theorem sc_is_number : FnScope ["thing", "many"] ["thing", "many"] (defScope s_is_number) := ⟨rfl, rfl, rfl, by decide +kernel, rfl, by decide +kernel, by decide +kernel⟩
theorem w_is_number (T : Txt K mg base) : FnOk P w K mg base CX0 2 T.a_is_number T.fd_is_number ["thing", "many"] (spD K m_is_number 2) := by
  refine ok_def (k := 1) T.F_is_number sc_is_number rfl rfl (by decide) fun cdv A outer sh H E hr => ?_
  have sc := sc_is_number
  have hu1 := hu_of hr
  have hu64 := hr.units
  have hu65 := hu65_of hr
  exact (dss_cons (ds_ret (de_and (de_B _ _ cIsi (by decide +kernel) T.m_isinstance (da_cons (de_v (pv 0)) (da_cons (de_ty rfl T.m_int (by decide +kernel)) da_nil))) (de_and (de_not (de_B _ _ cIsi (by decide +kernel) T.m_isinstance (da_cons (de_v (pv 0)) (da_cons (de_ty rfl T.m_bool (by decide +kernel)) da_nil)))) (de_one (de_ch cmpLe cmpLt de_int (de_v (pv 0)) (de_v (pv 1)))))))
  dss_nil)
noncomputable def m_is_goals : Fn := fn 3 2 (sCons (sIf (bOr (bNot (bV (eA gIsi (aC (eV 0) (aC (eC (.ty "tuple")) aN))))) (bB gEq (eA gLen (aC (eV 0) aN)) (eC (.int 0)))) (sCons (sRet (eC (.bl false)))
  sNil) sNil)
  (sCons (sFor (iA (eV 0)) (gN 2) (sCons (sIf (bNot (bV (eCall 2 m_is_tuple_of (aC (eV 2) (aC (eV 1) aN))))) (sCons (sRet (eC (.bl false)))
  sNil) sNil)
  (sCons (sIf (bNot (bV (eGx false (iA (eV 2)) (eCall 2 m_is_number (aC (eV 3) (aC (eA gLen (aC (eV 0) aN)) aN)))))) (sCons (sRet (eC (.bl false)))
  sNil) sNil)
  sNil)))
  (sCons (sRet (eC (.bl true)))
  sNil)))
theorem sc_is_goals : FnScope ["thing", "width", "row"] ["thing", "width"] (defScope s_is_goals) := ⟨rfl, rfl, rfl, by decide +kernel, rfl, by decide +kernel, by decide +kernel⟩
theorem w_is_goals (T : Txt K mg base) : FnOk P w K mg base CX0 4 T.a_is_goals T.fd_is_goals ["thing", "width"] (spD K m_is_goals 2) := by
  refine ok_defC (k := 3) T.F_is_goals sc_is_goals rfl rfl (by decide) fun cdv hcd A outer sh H E hr => ?_
  obtain rfl : cdv = .ref T.tc_is_goals := hcd.symm.trans T.to_is_goals.code
  have sc := sc_is_goals
  have hu1 := hu_of hr
  have hu64 := hr.units
  have hu65 := hu65_of hr
  exact (dss_cons (ds_if (dt_w (dw_or (dt_not (dt_v (de_B _ _ cIsi (by decide +kernel) T.m_isinstance (da_cons (de_v (pv 0)) (da_cons (de_ty rfl T.m_tuple (by decide +kernel)) da_nil))) (fun _ => rfl))) (dw_or1 (dt_eq hu64 (de_B _ _ cLen (by decide +kernel) T.m_len (da_cons (de_v (pv 0)) da_nil)) de_int)))) (dss_cons (ds_ret de_bl)
  dss_nil) dss_nil)
  (dss_cons (ds_for PassesOwn.never rfl (di_a (de_v (pv 0))) (dg_n (i := 2) sc.nd rfl (by first | exact .inl rfl | exact .inr rfl)) (dss_cons (ds_if (dt_not (dt_v (de_call ((w_is_tuple_of T).mono (by omega)) hr rfl T.g_is_tuple_of T.F_is_tuple_of.kp T.b_is_tuple_of (da_cons (de_v (pv 2)) (da_cons (de_v (pv 1)) da_nil))) (fun _ => rfl))) (dss_cons (ds_ret de_bl)
  dss_nil) dss_nil)
  (dss_cons (ds_if (dt_not (dt_v (de_all hr rfl T.m_all (by decide +kernel) T.tb_is_goals ⟨"is_goals", _, by decide, T.to_is_goals.tab⟩ rfl (gxS_by (N := ["thing", "width", "row"]) (sc := defScope s_is_goals) (by decide +kernel)) (di_a (de_v (pv 2))) (fun _ => rfl) (fun _ _ _ _ _ hr => have hu1 := hu_of hr; have hu64 := hr.units; have hu65 := hu65_of hr; (de_call ((w_is_number T).mono (by omega)) hr rfl T.g_is_number T.F_is_number.kp T.b_is_number (da_cons (de_v (pv 3)) (da_cons (de_B _ _ cLen (by decide +kernel) T.m_len (da_cons (de_v (pv 0)) da_nil)) da_nil))))) (fun _ => rfl))) (dss_cons (ds_ret de_bl)
  dss_nil) dss_nil)
  dss_nil)))
  (dss_cons (ds_ret de_bl)
  dss_nil)))
noncomputable def m_boxes_in : Fn := fn 2 1 (sCons (sRet (eLc (iA (eV 0)) (gN 1) (bNot (bV (eA gIsi (aC (eV 1) (aC (eC (.ty "str")) aN))))) (eV 1) [1]))
  sNil)
theorem sc_boxes_in : FnScope ["row", "item"] ["row"] (defScope s_boxes_in) := ⟨rfl, rfl, rfl, by decide +kernel, rfl, by decide +kernel, by decide +kernel⟩
theorem w_boxes_in (T : Txt K mg base) : FnOk P w K mg base CX0 2 T.a_boxes_in T.fd_boxes_in ["row"] (spD K m_boxes_in 1) := by
  refine ok_def (k := 1) T.F_boxes_in sc_boxes_in rfl rfl (by decide) fun cdv A outer sh H E hr => ?_
  have sc := sc_boxes_in
  have hu1 := hu_of hr
  have hu64 := hr.units
  have hu65 := hu65_of hr
  exact (dss_cons (ds_ret (de_lc (own := [("item", 1)]) [1] rfl sc.nd (di_a (de_v (pv 0))) (blkOk_by (own := [("item", 1)]) (N := ["row", "item"]) (sc := defScope s_boxes_in) (by decide +kernel)) (fun _ _ _ _ _ => (dg_n (i := 1) sc.nd rfl (by first | exact .inl rfl | exact .inr rfl))) (fun _ _ _ _ _ => (dts_one (dt_not (dt_v (de_B _ _ cIsi (by decide +kernel) T.m_isinstance (da_cons (de_v (pv 1)) (da_cons (de_ty rfl T.m_str (by decide +kernel)) da_nil))) (fun _ => rfl))))) (fun _ _ _ _ _ => (de_v (pv 1))) rfl (by decide)))
  dss_nil)
noncomputable def m__once : Fn := fn 4 1 (sCons (sSet 1 (eLc2 (iA (eV 0)) (gN 2) bYes (iA (eCall 1 m_boxes_in (aC (eV 2) aN))) (gN 3) bYes (eV 3) [2, 3] [3]))
  (sCons (sRet (eB gEq (eA gLen (aC (eV 1) aN)) (eA gLenSet (aC (eV 1) aN))))
  sNil))
theorem sc__once : FnScope ["rows", "found", "row", "box"] ["rows"] (defScope s__once) := ⟨rfl, rfl, rfl, by decide +kernel, rfl, by decide +kernel, by decide +kernel⟩
theorem w__once (T : Txt K mg base) : FnOk P w K mg base CX0 3 T.a__once T.fd__once ["rows"] (spD K m__once 1) := by
  refine ok_def (k := 2) T.F__once sc__once rfl rfl (by decide) fun cdv A outer sh H E hr => ?_
  have sc := sc__once
  have hu1 := hu_of hr
  have hu64 := hr.units
  have hu65 := hu65_of hr
  exact (dss_cons (ds_lc2 (own := [("row", 2), ("box", 3)]) [2, 3] [3] (i := 1) rfl sc.nd rfl rfl (sw_true rfl rfl rfl (by decide +kernel)) (di_a (de_v (pv 0))) (blkOk_by (own := [("row", 2), ("box", 3)]) (N := ["rows", "found", "row", "box"]) (sc := defScope s__once) (by decide +kernel)) (fun _ _ _ _ _ => (dg_n (i := 2) sc.nd rfl (by first | exact .inl rfl | exact .inr rfl))) (fun _ _ _ _ _ => dts_nil) (fun _ _ _ _ _ => (di_a (de_call ((w_boxes_in T).mono (by omega)) hr rfl T.g_boxes_in T.F_boxes_in.kp T.b_boxes_in (da_cons (de_v (pv 2)) da_nil)))) (fun _ _ _ _ _ => (dg_n (i := 3) sc.nd rfl (by first | exact .inl rfl | exact .inr rfl))) (fun _ _ _ _ _ => dts_nil) (fun _ _ _ _ _ => (de_v (pv 3))) rfl (by decide) (by decide) (by decide))
  (dss_cons (ds_ret (de_eq hu64 (de_B _ _ cLen (by decide +kernel) T.m_len (da_cons (de_v (pv 1)) da_nil)) (de_lenset rfl T.m_len T.m_set (de_v (pv 1)))))
  dss_nil))
noncomputable def m__is_item : Fn := fn 2 2 (sCons (sIf (bV (eA gIsi (aC (eV 0) (aC (eC (.ty "str")) aN)))) (sCons (sRet (eAnd (eB gNe (eV 0) (eC (.str []))) (eCall 1 m_is_string (aC (eV 0) aN))))
  sNil) sNil)
  (sCons (sRet (eCall 2 m_is_number (aC (eV 0) (aC (eV 1) aN))))
  sNil))
theorem sc__is_item : FnScope ["item", "many"] ["item", "many"] (defScope s__is_item) := ⟨rfl, rfl, rfl, by decide +kernel, rfl, by decide +kernel, by decide +kernel⟩
theorem w__is_item (T : Txt K mg base) : FnOk P w K mg base CX0 3 T.a__is_item T.fd__is_item ["item", "many"] (spD K m__is_item 2) := by
  refine ok_def (k := 2) T.F__is_item sc__is_item rfl rfl (by decide) fun cdv A outer sh H E hr => ?_
  have sc := sc__is_item
  have hu1 := hu_of hr
  have hu64 := hr.units
  have hu65 := hu65_of hr
  exact (dss_cons (ds_if (dt_v (de_B _ _ cIsi (by decide +kernel) T.m_isinstance (da_cons (de_v (pv 0)) (da_cons (de_ty rfl T.m_str (by decide +kernel)) da_nil))) (fun _ => rfl)) (dss_cons (ds_ret (de_and (de_ne hu64 (de_v (pv 0)) (de_str rfl)) (de_one (de_call ((w_is_string T).mono (by omega)) hr rfl T.g_is_string T.F_is_string.kp T.b_is_string (da_cons (de_v (pv 0)) da_nil)))))
  dss_nil) dss_nil)
  (dss_cons (ds_ret (de_call ((w_is_number T).mono (by omega)) hr rfl T.g_is_number T.F_is_number.kp T.b_is_number (da_cons (de_v (pv 0)) (da_cons (de_v (pv 1)) da_nil))))
  dss_nil))
noncomputable def m__is_row : Fn := fn 3 2 (sCons (sIf (bOr (bNot (bV (eA gIsi (aC (eV 0) (aC (eC (.ty "tuple")) aN))))) (bNot (bV (eGx false (iA (eV 0)) (eCall 2 m__is_item (aC (eV 3) (aC (eV 1) aN))))))) (sCons (sRet (eC (.bl false)))
  sNil) sNil)
  (sCons (sFor (iR2 (eC (.int 1)) (eA gLen (aC (eV 0) aN))) (gN 2) (sCons (sIf (bAnd (bV (eA gIsi (aC (eB gIx (eV 0) (eB gSub (eV 2) (eC (.int 1)))) (aC (eC (.ty "str")) aN)))) (bV (eA gIsi (aC (eB gIx (eV 0) (eV 2)) (aC (eC (.ty "str")) aN))))) (sCons (sRet (eC (.bl false)))
  sNil) sNil)
  sNil))
  (sCons (sRet (eC (.bl true)))
  sNil)))
theorem sc__is_row : FnScope ["thing", "many", "at"] ["thing", "many"] (defScope s__is_row) := ⟨rfl, rfl, rfl, by decide +kernel, rfl, by decide +kernel, by decide +kernel⟩
theorem w__is_row (T : Txt K mg base) : FnOk P w K mg base CX0 5 T.a__is_row T.fd__is_row ["thing", "many"] (spD K m__is_row 2) := by
  refine ok_defC (k := 4) T.F__is_row sc__is_row rfl rfl (by decide) fun cdv hcd A outer sh H E hr => ?_
  obtain rfl : cdv = .ref T.tc__is_row := hcd.symm.trans T.to__is_row.code
  have sc := sc__is_row
  have hu1 := hu_of hr
  have hu64 := hr.units
  have hu65 := hu65_of hr
  exact (dss_cons (ds_if (dt_w (dw_or (dt_not (dt_v (de_B _ _ cIsi (by decide +kernel) T.m_isinstance (da_cons (de_v (pv 0)) (da_cons (de_ty rfl T.m_tuple (by decide +kernel)) da_nil))) (fun _ => rfl))) (dw_or1 (dt_not (dt_v (de_all hr rfl T.m_all (by decide +kernel) T.tb__is_row ⟨"_is_row", _, by decide, T.to__is_row.tab⟩ rfl (gxS_by (N := ["thing", "many", "at"]) (sc := defScope s__is_row) (by decide +kernel)) (di_a (de_v (pv 0))) (fun _ => rfl) (fun _ _ _ _ _ hr => have hu1 := hu_of hr; have hu64 := hr.units; have hu65 := hu65_of hr; (de_call ((w__is_item T).mono (by omega)) hr rfl T.g__is_item T.F__is_item.kp T.b__is_item (da_cons (de_v (pv 3)) (da_cons (de_v (pv 1)) da_nil))))) (fun _ => rfl)))))) (dss_cons (ds_ret de_bl)
  dss_nil) dss_nil)
  (dss_cons (ds_for PassesOwn.never rfl (di_r2 rfl T.m_range de_int (de_B _ _ cLen (by decide +kernel) T.m_len (da_cons (de_v (pv 0)) da_nil))) (dg_n (i := 2) sc.nd rfl (by first | exact .inl rfl | exact .inr rfl)) (dss_cons (ds_if (dt_w (dw_and (dt_v (de_B _ _ cIsi (by decide +kernel) T.m_isinstance (da_cons (de_ix2 (de_v (pv 0)) (de_sub (de_v (pv 2)) de_int) hu1) (da_cons (de_ty rfl T.m_str (by decide +kernel)) da_nil))) (fun _ => rfl)) (dw_and1 (dt_v (de_B _ _ cIsi (by decide +kernel) T.m_isinstance (da_cons (de_ix2 (de_v (pv 0)) (de_v (pv 2)) hu1) (da_cons (de_ty rfl T.m_str (by decide +kernel)) da_nil))) (fun _ => rfl))))) (dss_cons (ds_ret de_bl)
  dss_nil) dss_nil)
  dss_nil))
  (dss_cons (ds_ret de_bl)
  dss_nil)))
noncomputable def m__is_entry : Fn := fn 3 3 (sCons (sIf (bB gIs (eV 0) (eC .non)) (sCons (sRet (eC (.bl true)))
  sNil) sNil)
  (sCons (sIf (bOr (bNot (bV (eCall 2 m_is_tuple_of (aC (eV 0) (aC (eC (.int 2)) aN))))) (bOr (bNot (bV (eCall 2 m_is_number (aC (eB gIx (eV 0) (eC (.int 0))) (aC (eV 1) aN))))) (bNot (bV (eCall 2 m_is_tuple_of (aC (eB gIx (eV 0) (eC (.int 1))) (aC (eV 2) aN))))))) (sCons (sRet (eC (.bl false)))
  sNil) sNil)
  (sCons (sRet (eAnd (eGx false (iA (eB gIx (eV 0) (eC (.int 1)))) (eCall 2 m__is_row (aC (eV 3) (aC (eV 2) aN)))) (eCall 1 m__once (aC (eB gIx (eV 0) (eC (.int 1))) aN))))
  sNil)))
theorem sc__is_entry : FnScope ["thing", "states", "many"] ["thing", "states", "many"] (defScope s__is_entry) := ⟨rfl, rfl, rfl, by decide +kernel, rfl, by decide +kernel, by decide +kernel⟩
theorem w__is_entry (T : Txt K mg base) : FnOk P w K mg base CX0 7 T.a__is_entry T.fd__is_entry ["thing", "states", "many"] (spD K m__is_entry 3) := by
  refine ok_defC (k := 6) T.F__is_entry sc__is_entry rfl rfl (by decide) fun cdv hcd A outer sh H E hr => ?_
  obtain rfl : cdv = .ref T.tc__is_entry := hcd.symm.trans T.to__is_entry.code
  have sc := sc__is_entry
  have hu1 := hu_of hr
  have hu64 := hr.units
  have hu65 := hu65_of hr
  exact (dss_cons (ds_if (dt_is (de_v (pv 0)) de_non) (dss_cons (ds_ret de_bl)
  dss_nil) dss_nil)
  (dss_cons (ds_if (dt_w (dw_or (dt_not (dt_v (de_call ((w_is_tuple_of T).mono (by omega)) hr rfl T.g_is_tuple_of T.F_is_tuple_of.kp T.b_is_tuple_of (da_cons (de_v (pv 0)) (da_cons de_int da_nil))) (fun _ => rfl))) (dw_or (dt_not (dt_v (de_call ((w_is_number T).mono (by omega)) hr rfl T.g_is_number T.F_is_number.kp T.b_is_number (da_cons (de_ix2 (de_v (pv 0)) de_int hu1) (da_cons (de_v (pv 1)) da_nil))) (fun _ => rfl))) (dw_or1 (dt_not (dt_v (de_call ((w_is_tuple_of T).mono (by omega)) hr rfl T.g_is_tuple_of T.F_is_tuple_of.kp T.b_is_tuple_of (da_cons (de_ix2 (de_v (pv 0)) de_int hu1) (da_cons (de_v (pv 2)) da_nil))) (fun _ => rfl))))))) (dss_cons (ds_ret de_bl)
  dss_nil) dss_nil)
  (dss_cons (ds_ret (de_and (de_all hr rfl T.m_all (by decide +kernel) T.tb__is_entry ⟨"_is_entry", _, by decide, T.to__is_entry.tab⟩ rfl (gxS_by (N := ["thing", "states", "many"]) (sc := defScope s__is_entry) (by decide +kernel)) (di_a (de_ix2 (de_v (pv 0)) de_int hu1)) (fun _ => rfl) (fun _ _ _ _ _ hr => have hu1 := hu_of hr; have hu64 := hr.units; have hu65 := hu65_of hr; (de_call ((w__is_row T).mono (by omega)) hr rfl T.g__is_row T.F__is_row.kp T.b__is_row (da_cons (de_v (pv 3)) (da_cons (de_v (pv 2)) da_nil))))) (de_one (de_call ((w__once T).mono (by omega)) hr rfl T.g__once T.F__once.kp T.b__once (da_cons (de_ix2 (de_v (pv 0)) de_int hu1) da_nil)))))
  dss_nil)))
noncomputable def m__is_state : Fn := fn 6 5 (sCons (sIf (bNot (bV (eCall 2 m_is_tuple_of (aC (eV 0) (aC (eV 1) aN))))) (sCons (sRet (eC (.bl false)))
  sNil) sNil)
  (sCons (sFor (iA (eV 0)) (gN 5) (sCons (sIf (bOr (bNot (bV (eCall 2 m_is_tuple_of (aC (eV 5) (aC (eV 2) aN))))) (bNot (bV (eGx false (iA (eV 5)) (eCall 3 m__is_entry (aC (eV 6) (aC (eV 3) (aC (eV 4) aN)))))))) (sCons (sRet (eC (.bl false)))
  sNil) sNil)
  sNil))
  (sCons (sRet (eC (.bl true)))
  sNil)))
theorem sc__is_state : FnScope ["thing", "width", "classes", "states", "many", "part"] ["thing", "width", "classes", "states", "many"] (defScope s__is_state) := ⟨rfl, rfl, rfl, by decide +kernel, rfl, by decide +kernel, by decide +kernel⟩
theorem w__is_state (T : Txt K mg base) : FnOk P w K mg base CX0 9 T.a__is_state T.fd__is_state ["thing", "width", "classes", "states", "many"] (spD K m__is_state 5) := by
  refine ok_defC (k := 8) T.F__is_state sc__is_state rfl rfl (by decide) fun cdv hcd A outer sh H E hr => ?_
  obtain rfl : cdv = .ref T.tc__is_state := hcd.symm.trans T.to__is_state.code
  have sc := sc__is_state
  have hu1 := hu_of hr
  have hu64 := hr.units
  have hu65 := hu65_of hr
  exact (dss_cons (ds_if (dt_not (dt_v (de_call ((w_is_tuple_of T).mono (by omega)) hr rfl T.g_is_tuple_of T.F_is_tuple_of.kp T.b_is_tuple_of (da_cons (de_v (pv 0)) (da_cons (de_v (pv 1)) da_nil))) (fun _ => rfl))) (dss_cons (ds_ret de_bl)
  dss_nil) dss_nil)
  (dss_cons (ds_for PassesOwn.never rfl (di_a (de_v (pv 0))) (dg_n (i := 5) sc.nd rfl (by first | exact .inl rfl | exact .inr rfl)) (dss_cons (ds_if (dt_w (dw_or (dt_not (dt_v (de_call ((w_is_tuple_of T).mono (by omega)) hr rfl T.g_is_tuple_of T.F_is_tuple_of.kp T.b_is_tuple_of (da_cons (de_v (pv 5)) (da_cons (de_v (pv 2)) da_nil))) (fun _ => rfl))) (dw_or1 (dt_not (dt_v (de_all hr rfl T.m_all (by decide +kernel) T.tb__is_state ⟨"_is_state", _, by decide, T.to__is_state.tab⟩ rfl (gxS_by (N := ["thing", "width", "classes", "states", "many", "part"]) (sc := defScope s__is_state) (by decide +kernel)) (di_a (de_v (pv 5))) (fun _ => rfl) (fun _ _ _ _ _ hr => have hu1 := hu_of hr; have hu64 := hr.units; have hu65 := hu65_of hr; (de_call ((w__is_entry T).mono (by omega)) hr rfl T.g__is_entry T.F__is_entry.kp T.b__is_entry (da_cons (de_v (pv 6)) (da_cons (de_v (pv 3)) (da_cons (de_v (pv 4)) da_nil)))))) (fun _ => rfl)))))) (dss_cons (ds_ret de_bl)
  dss_nil) dss_nil)
  dss_nil))
  (dss_cons (ds_ret de_bl)
  dss_nil)))
noncomputable def m__is_end : Fn := fn 2 2 (sCons (sRet (eOr (eB gIs (eV 0) (eC .non)) (eAnd (eCall 2 m__is_row (aC (eV 0) (aC (eV 1) aN))) (eCall 1 m__once (aC (eLst (aC (eV 0) aN)) aN)))))
  sNil)
theorem sc__is_end : FnScope ["thing", "many"] ["thing", "many"] (defScope s__is_end) := ⟨rfl, rfl, rfl, by decide +kernel, rfl, by decide +kernel, by decide +kernel⟩
theorem w__is_end (T : Txt K mg base) : FnOk P w K mg base CX0 6 T.a__is_end T.fd__is_end ["thing", "many"] (spD K m__is_end 2) := by
  refine ok_def (k := 5) T.F__is_end sc__is_end rfl rfl (by decide) fun cdv A outer sh H E hr => ?_
  have sc := sc__is_end
  have hu1 := hu_of hr
  have hu64 := hr.units
  have hu65 := hu65_of hr
  exact (dss_cons (ds_ret (de_or (de_is (de_v (pv 0)) de_non) (de_one (de_and (de_call ((w__is_row T).mono (by omega)) hr rfl T.g__is_row T.F__is_row.kp T.b__is_row (da_cons (de_v (pv 0)) (da_cons (de_v (pv 1)) da_nil))) (de_one (de_call ((w__once T).mono (by omega)) hr rfl T.g__once T.F__once.kp T.b__once (da_cons (de_lst (da_cons (de_v (pv 0)) da_nil)) da_nil)))))))
  dss_nil)
noncomputable def m_is_boxes : Fn := fn 7 1 (sCons (sIf (bOr (bNot (bV (eCall 2 m_is_tuple_of (aC (eV 0) (aC (eC (.int 6)) aN))))) (bOr (bB gNe (eB gIx (eV 0) (eC (.int 0))) (eC (.str [98, 111, 120, 101, 115]))) (bNot (bV (eCall 1 m_is_letters (aC (eB gIx (eV 0) (eC (.int 1))) aN)))))) (sCons (sRet (eC (.bl false)))
  sNil) sNil)
  (sCons (sAsg (gT (gsC (gN 1) (gsC (gN 2) (gsC (gN 3) (gsC (gN 4) (gsC (gN 5) (gsC (gN 6) gsN))))))) (eV 0))
  (sCons (sIf (bOr (bNot (bV (eCall 2 m_is_goals (aC (eV 3) (aC (eA gLen (aC (eV 2) aN)) aN))))) (bOr (bNot (bV (eA gIsi (aC (eV 4) (aC (eC (.ty "int")) aN))))) (bOr (bV (eA gIsi (aC (eV 4) (aC (eC (.ty "bool")) aN)))) (bB gLt (eV 4) (eC (.int 0)))))) (sCons (sRet (eC (.bl false)))
  sNil) sNil)
  (sCons (sIf (bOr (bNot (bV (eA gIsi (aC (eV 6) (aC (eC (.ty "tuple")) aN))))) (bOr (bB gEq (eA gLen (aC (eV 6) aN)) (eC (.int 0))) (bNot (bV (eGx false (iA (eV 6)) (eCall 2 m__is_end (aC (eV 7) (aC (eV 4) aN)))))))) (sCons (sRet (eC (.bl false)))
  sNil) sNil)
  (sCons (sIf (bNot (bV (eCall 2 m_is_tuple_of (aC (eV 5) (aC (eA gLen (aC (eV 6) aN)) aN))))) (sCons (sRet (eC (.bl false)))
  sNil) sNil)
  (sCons (sRet (eGx false (iA (eV 5)) (eCall 5 m__is_state (aC (eV 7) (aC (eA gLen (aC (eV 2) aN)) (aC (eA gLen (aC (eV 3) aN)) (aC (eA gLen (aC (eV 6) aN)) (aC (eV 4) aN))))))))
  sNil))))))
theorem sc_is_boxes : FnScope ["thing", "_", "letters", "ahead", "many", "rows", "ends"] ["thing"] (defScope s_is_boxes) := ⟨rfl, rfl, rfl, by decide +kernel, rfl, by decide +kernel, by decide +kernel⟩
theorem w_is_boxes (T : Txt K mg base) : FnOk P w K mg base CX0 11 T.a_is_boxes T.fd_is_boxes ["thing"] (spD K m_is_boxes 1) := by
  refine ok_defC (k := 10) T.F_is_boxes sc_is_boxes rfl rfl (by decide) fun cdv hcd A outer sh H E hr => ?_
  obtain rfl : cdv = .ref T.tc_is_boxes := hcd.symm.trans T.to_is_boxes.code
  have sc := sc_is_boxes
  have hu1 := hu_of hr
  have hu64 := hr.units
  have hu65 := hu65_of hr
  exact (dss_cons (ds_if (dt_w (dw_or (dt_not (dt_v (de_call ((w_is_tuple_of T).mono (by omega)) hr rfl T.g_is_tuple_of T.F_is_tuple_of.kp T.b_is_tuple_of (da_cons (de_v (pv 0)) (da_cons de_int da_nil))) (fun _ => rfl))) (dw_or (dt_ne hu64 (de_ix2 (de_v (pv 0)) de_int hu1) (de_str rfl)) (dw_or1 (dt_not (dt_v (de_call ((w_is_letters T).mono (by omega)) hr rfl T.g_is_letters T.F_is_letters.kp T.b_is_letters (da_cons (de_ix2 (de_v (pv 0)) de_int hu1) da_nil)) (fun _ => rfl))))))) (dss_cons (ds_ret de_bl)
  dss_nil) dss_nil)
  (dss_cons (ds_asg (de_v (pv 0)) (dg_t rfl (dgs_cons (dg_n (i := 1) sc.nd rfl (by first | exact .inl rfl | exact .inr rfl)) (dgs_cons (dg_n (i := 2) sc.nd rfl (by first | exact .inl rfl | exact .inr rfl)) (dgs_cons (dg_n (i := 3) sc.nd rfl (by first | exact .inl rfl | exact .inr rfl)) (dgs_cons (dg_n (i := 4) sc.nd rfl (by first | exact .inl rfl | exact .inr rfl)) (dgs_cons (dg_n (i := 5) sc.nd rfl (by first | exact .inl rfl | exact .inr rfl)) (dgs_cons (dg_n (i := 6) sc.nd rfl (by first | exact .inl rfl | exact .inr rfl)) dgs_nil)))))) rfl rfl (gslc (gslc (gslc (gslc (gslc (gslc gsl0))))))))
  (dss_cons (ds_if (dt_w (dw_or (dt_not (dt_v (de_call ((w_is_goals T).mono (by omega)) hr rfl T.g_is_goals T.F_is_goals.kp T.b_is_goals (da_cons (de_v (pv 3)) (da_cons (de_B _ _ cLen (by decide +kernel) T.m_len (da_cons (de_v (pv 2)) da_nil)) da_nil))) (fun _ => rfl))) (dw_or (dt_not (dt_v (de_B _ _ cIsi (by decide +kernel) T.m_isinstance (da_cons (de_v (pv 4)) (da_cons (de_ty rfl T.m_int (by decide +kernel)) da_nil))) (fun _ => rfl))) (dw_or (dt_v (de_B _ _ cIsi (by decide +kernel) T.m_isinstance (da_cons (de_v (pv 4)) (da_cons (de_ty rfl T.m_bool (by decide +kernel)) da_nil))) (fun _ => rfl)) (dw_or1 (dt_lt (de_v (pv 4)) de_int)))))) (dss_cons (ds_ret de_bl)
  dss_nil) dss_nil)
  (dss_cons (ds_if (dt_w (dw_or (dt_not (dt_v (de_B _ _ cIsi (by decide +kernel) T.m_isinstance (da_cons (de_v (pv 6)) (da_cons (de_ty rfl T.m_tuple (by decide +kernel)) da_nil))) (fun _ => rfl))) (dw_or (dt_eq hu64 (de_B _ _ cLen (by decide +kernel) T.m_len (da_cons (de_v (pv 6)) da_nil)) de_int) (dw_or1 (dt_not (dt_v (de_all hr rfl T.m_all (by decide +kernel) T.tb_is_boxes ⟨"is_boxes", _, by decide, T.to_is_boxes.tab⟩ rfl (gxS_by (N := ["thing", "_", "letters", "ahead", "many", "rows", "ends"]) (sc := defScope s_is_boxes) (by decide +kernel)) (di_a (de_v (pv 6))) (fun _ => rfl) (fun _ _ _ _ _ hr => have hu1 := hu_of hr; have hu64 := hr.units; have hu65 := hu65_of hr; (de_call ((w__is_end T).mono (by omega)) hr rfl T.g__is_end T.F__is_end.kp T.b__is_end (da_cons (de_v (pv 7)) (da_cons (de_v (pv 4)) da_nil))))) (fun _ => rfl))))))) (dss_cons (ds_ret de_bl)
  dss_nil) dss_nil)
  (dss_cons (ds_if (dt_not (dt_v (de_call ((w_is_tuple_of T).mono (by omega)) hr rfl T.g_is_tuple_of T.F_is_tuple_of.kp T.b_is_tuple_of (da_cons (de_v (pv 5)) (da_cons (de_B _ _ cLen (by decide +kernel) T.m_len (da_cons (de_v (pv 6)) da_nil)) da_nil))) (fun _ => rfl))) (dss_cons (ds_ret de_bl)
  dss_nil) dss_nil)
  (dss_cons (ds_ret (de_all hr rfl T.m_all (by decide +kernel) T.tb_is_boxes ⟨"is_boxes", _, by decide, T.to_is_boxes.tab⟩ rfl (gxS_by (N := ["thing", "_", "letters", "ahead", "many", "rows", "ends"]) (sc := defScope s_is_boxes) (by decide +kernel)) (di_a (de_v (pv 5))) (fun _ => rfl) (fun _ _ _ _ _ hr => have hu1 := hu_of hr; have hu64 := hr.units; have hu65 := hu65_of hr; (de_call ((w__is_state T).mono (by omega)) hr rfl T.g__is_state T.F__is_state.kp T.b__is_state (da_cons (de_v (pv 7)) (da_cons (de_B _ _ cLen (by decide +kernel) T.m_len (da_cons (de_v (pv 2)) da_nil)) (da_cons (de_B _ _ cLen (by decide +kernel) T.m_len (da_cons (de_v (pv 3)) da_nil)) (da_cons (de_B _ _ cLen (by decide +kernel) T.m_len (da_cons (de_v (pv 6)) da_nil)) (da_cons (de_v (pv 4)) da_nil)))))))))
  dss_nil))))))
noncomputable def m_law : Fn := fn 6 1 (sCons (sSet 1 (eCall 2 m__law_stream (aC (eV 0) (aC (eC (.int 200)) aN))))
  (sCons (sSet 2 (eCall 5 m__law_boxes (aC (eV 1) (aC (eB gIx (eLst (aC (eC (.str [97, 98])) (aC (eC (.str [120, 122])) (aC (eC (.str [97])) aN)))) (eCall 2 m__law_pick (aC (eV 1) (aC (eC (.int 3)) aN)))) (aC (eC (.int 2)) (aC (eC (.int 2)) (aC (eC (.int 2)) aN)))))))
  (sCons (sSet 3 (eB gAdd (eLst (aC (eV 2) aN)) (eCall 2 m__law_things (aC (eV 1) (aC (eV 2) aN)))))
  (sCons (sFor (iA (eV 3)) (gN 4) (sCons (sSet 5 (eCall 1 m_is_boxes (aC (eV 4) aN)))
  (sCons (sIf (bOr (bNot (bV (eA gIsi (aC (eV 5) (aC (eC (.ty "bool")) aN))))) (bB gNe (eV 5) (eCall 1 m__law_is_boxes (aC (eV 4) aN)))) (sCons (sRet (eC (.bl false)))
  sNil) sNil)
  sNil)))
  (sCons (sRet (eCall 1 m__law_is_boxes (aC (eV 2) aN)))
  sNil)))))
theorem sc_law : FnScope ["script", "draws", "boxes", "things", "thing", "told"] ["script"] (defScope s_law) := ⟨rfl, rfl, rfl, by decide +kernel, rfl, by decide +kernel, by decide +kernel⟩
theorem w_law (T : Txt K mg base) : FnOk P w K mg base CX0 12 T.a_law T.fd_law ["script"] (spD K m_law 1) := by
  refine ok_def (k := 11) T.F_law sc_law rfl rfl (by decide) fun cdv A outer sh H E hr => ?_
  have sc := sc_law
  have hu1 := hu_of hr
  have hu64 := hr.units
  have hu65 := hu65_of hr
  exact (dss_cons (ds_set (i := 1) sc.nd rfl (by first | exact .inl rfl | exact .inr rfl) (de_call ((w__law_stream T).mono (by omega)) hr rfl T.g__law_stream T.F__law_stream.kp T.b__law_stream (da_cons (de_v (pv 0)) (da_cons de_int da_nil))))
  (dss_cons (ds_set (i := 2) sc.nd rfl (by first | exact .inl rfl | exact .inr rfl) (de_call ((w__law_boxes T).mono (by omega)) hr rfl T.g__law_boxes T.F__law_boxes.kp T.b__law_boxes (da_cons (de_v (pv 1)) (da_cons (de_ix2 (de_lst (da_cons (de_str rfl) (da_cons (de_str rfl) (da_cons (de_str rfl) da_nil)))) (de_call ((w__law_pick T).mono (by omega)) hr rfl T.g__law_pick T.F__law_pick.kp T.b__law_pick (da_cons (de_v (pv 1)) (da_cons de_int da_nil))) hu1) (da_cons de_int (da_cons de_int (da_cons de_int da_nil)))))))
  (dss_cons (ds_set (i := 3) sc.nd rfl (by first | exact .inl rfl | exact .inr rfl) (de_add (de_lst (da_cons (de_v (pv 2)) da_nil)) (de_call ((w__law_things T).mono (by omega)) hr rfl T.g__law_things T.F__law_things.kp T.b__law_things (da_cons (de_v (pv 1)) (da_cons (de_v (pv 2)) da_nil)))))
  (dss_cons (ds_for PassesOwn.never rfl (di_a (de_v (pv 3))) (dg_n (i := 4) sc.nd rfl (by first | exact .inl rfl | exact .inr rfl)) (dss_cons (ds_set (i := 5) sc.nd rfl (by first | exact .inl rfl | exact .inr rfl) (de_call ((w_is_boxes T).mono (by omega)) hr rfl T.g_is_boxes T.F_is_boxes.kp T.b_is_boxes (da_cons (de_v (pv 4)) da_nil)))
  (dss_cons (ds_if (dt_w (dw_or (dt_not (dt_v (de_B _ _ cIsi (by decide +kernel) T.m_isinstance (da_cons (de_v (pv 5)) (da_cons (de_ty rfl T.m_bool (by decide +kernel)) da_nil))) (fun _ => rfl))) (dw_or1 (dt_ne hu64 (de_v (pv 5)) (de_call ((w__law_is_boxes T).mono (by omega)) hr rfl T.g__law_is_boxes T.F__law_is_boxes.kp T.b__law_is_boxes (da_cons (de_v (pv 4)) da_nil)))))) (dss_cons (ds_ret de_bl)
  dss_nil) dss_nil)
  dss_nil)))
  (dss_cons (ds_ret (de_call ((w__law_is_boxes T).mono (by omega)) hr rfl T.g__law_is_boxes T.F__law_is_boxes.kp T.b__law_is_boxes (da_cons (de_v (pv 2)) da_nil)))
  dss_nil)))))
end
theorem all_mk {l : PySem.W.OpenLaw} {w : World} {K : PySem.W.Frag} {h : Heap} {mg : Str → Option Value} {fa : Addr} (X : K.In h) (G : h.Ns mainGlobals mg) (hfa : mg "law" = some (.ref fa))
    {f0 : Addr} {od0 an0 : Option Addr} {sl0 : Array (Option Value)} {oc0 kV0 dc0 pm0 ct0 : Value}
    {cd0 : Value}
    {f1 : Addr} {od1 an1 : Option Addr} {sl1 : Array (Option Value)} {oc1 kV1 dc1 pm1 ct1 : Value}
    {cd1 : Value}
    {f2 : Addr} {od2 an2 : Option Addr} {sl2 : Array (Option Value)} {oc2 kV2 dc2 pm2 ct2 : Value}
    {cd2 : Value}
    {f3 : Addr} {od3 an3 : Option Addr} {sl3 : Array (Option Value)} {oc3 kV3 dc3 pm3 ct3 : Value}
    {cd3 : Value}
    {f4 : Addr} {od4 an4 : Option Addr} {sl4 : Array (Option Value)} {oc4 kV4 dc4 pm4 ct4 : Value}
    {cd4 : Value}
    {f5 : Addr} {od5 an5 : Option Addr} {sl5 : Array (Option Value)} {oc5 kV5 dc5 pm5 ct5 : Value}
    {cd5 : Value}
    {f6 : Addr} {od6 an6 : Option Addr} {sl6 : Array (Option Value)} {oc6 kV6 dc6 pm6 ct6 : Value}
    {cd6 : Value}
    {f7 : Addr} {od7 an7 : Option Addr} {sl7 : Array (Option Value)} {oc7 kV7 dc7 pm7 ct7 : Value}
    {cd7 : Value}
    {f8 : Addr} {od8 an8 : Option Addr} {sl8 : Array (Option Value)} {oc8 kV8 dc8 pm8 ct8 : Value}
    {cd8 : Value}
    {f9 : Addr} {od9 an9 : Option Addr} {sl9 : Array (Option Value)} {oc9 kV9 dc9 pm9 ct9 : Value}
    {cd9 : Value}
    {f10 : Addr} {od10 an10 : Option Addr} {sl10 : Array (Option Value)} {oc10 kV10 dc10 pm10 ct10 : Value}
    {cd10 : Value}
    {f11 : Addr} {od11 an11 : Option Addr} {sl11 : Array (Option Value)} {oc11 kV11 dc11 pm11 ct11 : Value}
    {cd11 : Value}
    {f12 : Addr} {od12 an12 : Option Addr} {sl12 : Array (Option Value)} {oc12 kV12 dc12 pm12 ct12 : Value}
    {cd12 : Value}
    {f13 : Addr} {od13 an13 : Option Addr} {sl13 : Array (Option Value)} {oc13 kV13 dc13 pm13 ct13 : Value}
    {cd13 : Value}
    {f14 : Addr} {od14 an14 : Option Addr} {sl14 : Array (Option Value)} {oc14 kV14 dc14 pm14 ct14 : Value}
    {cd14 : Value}
    {f15 : Addr} {od15 an15 : Option Addr} {sl15 : Array (Option Value)} {oc15 kV15 dc15 pm15 ct15 : Value}
    {cd15 : Value}
    {f16 : Addr} {od16 an16 : Option Addr} {sl16 : Array (Option Value)} {oc16 kV16 dc16 pm16 ct16 : Value}
    {cd16 : Value}
    {f17 : Addr} {od17 an17 : Option Addr} {sl17 : Array (Option Value)} {oc17 kV17 dc17 pm17 ct17 : Value}
    {cd17 : Value}
    {f18 : Addr} {od18 an18 : Option Addr} {sl18 : Array (Option Value)} {oc18 kV18 dc18 pm18 ct18 : Value}
    {cd18 : Value}
    {f19 : Addr} {od19 an19 : Option Addr} {sl19 : Array (Option Value)} {oc19 kV19 dc19 pm19 ct19 : Value}
    {cd19 : Value}
    {f20 : Addr} {od20 an20 : Option Addr} {sl20 : Array (Option Value)} {oc20 kV20 dc20 pm20 ct20 : Value}
    {cd20 : Value}
    {f21 : Addr} {od21 an21 : Option Addr} {sl21 : Array (Option Value)} {oc21 kV21 dc21 pm21 ct21 : Value}
    {cd21 : Value}
    {f22 : Addr} {od22 an22 : Option Addr} {sl22 : Array (Option Value)} {oc22 kV22 dc22 pm22 ct22 : Value}
    {cd22 : Value}
    {f23 : Addr} {od23 an23 : Option Addr} {sl23 : Array (Option Value)} {oc23 kV23 dc23 pm23 ct23 : Value}
    {cc23 pp23 : Addr} {qe23 : Value} {qd23 : Option Addr} {qv23 : Array Value} {qs23 : Array (Option Value)}
    {f24 : Addr} {od24 an24 : Option Addr} {sl24 : Array (Option Value)} {oc24 kV24 dc24 pm24 ct24 : Value}
    {cd24 : Value}
    {f25 : Addr} {od25 an25 : Option Addr} {sl25 : Array (Option Value)} {oc25 kV25 dc25 pm25 ct25 : Value}
    {cd25 : Value}
    {f26 : Addr} {od26 an26 : Option Addr} {sl26 : Array (Option Value)} {oc26 kV26 dc26 pm26 ct26 : Value}
    {cc26 pp26 : Addr} {qe26 : Value} {qd26 : Option Addr} {qv26 : Array Value} {qs26 : Array (Option Value)}
    {f27 : Addr} {od27 an27 : Option Addr} {sl27 : Array (Option Value)} {oc27 kV27 dc27 pm27 ct27 : Value}
    {cd27 : Value}
    {f28 : Addr} {od28 an28 : Option Addr} {sl28 : Array (Option Value)} {oc28 kV28 dc28 pm28 ct28 : Value}
    {cd28 : Value}
    {f29 : Addr} {od29 an29 : Option Addr} {sl29 : Array (Option Value)} {oc29 kV29 dc29 pm29 ct29 : Value}
    {cd29 : Value}
    {f30 : Addr} {od30 an30 : Option Addr} {sl30 : Array (Option Value)} {oc30 kV30 dc30 pm30 ct30 : Value}
    {cc30 pp30 : Addr} {qe30 : Value} {qd30 : Option Addr} {qv30 : Array Value} {qs30 : Array (Option Value)}
    {f31 : Addr} {od31 an31 : Option Addr} {sl31 : Array (Option Value)} {oc31 kV31 dc31 pm31 ct31 : Value}
    {cc31 pp31 : Addr} {qe31 : Value} {qd31 : Option Addr} {qv31 : Array Value} {qs31 : Array (Option Value)}
    {f32 : Addr} {od32 an32 : Option Addr} {sl32 : Array (Option Value)} {oc32 kV32 dc32 pm32 ct32 : Value}
    {cc32 pp32 : Addr} {qe32 : Value} {qd32 : Option Addr} {qv32 : Array Value} {qs32 : Array (Option Value)}
    {f33 : Addr} {od33 an33 : Option Addr} {sl33 : Array (Option Value)} {oc33 kV33 dc33 pm33 ct33 : Value}
    {cd33 : Value}
    {f34 : Addr} {od34 an34 : Option Addr} {sl34 : Array (Option Value)} {oc34 kV34 dc34 pm34 ct34 : Value}
    {cc34 pp34 : Addr} {qe34 : Value} {qd34 : Option Addr} {qv34 : Array Value} {qs34 : Array (Option Value)}
    {f35 : Addr} {od35 an35 : Option Addr} {sl35 : Array (Option Value)} {oc35 kV35 dc35 pm35 ct35 : Value}
    {cd35 : Value}
    (a0 : PySem.W.nsIn K mainGlobals "_law_mix" = some (some (.ref f0))) (l0 : K.lookup f0 = some ⟨oc0, od0, .func (PySem.W.fnOf "_law_mix" "_law_mix" (defArgs s__law_mix) (defBody s__law_mix) (defScope s__law_mix) .none kV0 dc0 pm0 an0 cd0 ct0), sl0⟩) (c0 : PySem.W.codeIn K cd0 "_law_mix" = true) (k0 : PySem.W.keepIn K (.ref f0) = true)
    (a1 : PySem.W.nsIn K mainGlobals "_law_stream" = some (some (.ref f1))) (l1 : K.lookup f1 = some ⟨oc1, od1, .func (PySem.W.fnOf "_law_stream" "_law_stream" (defArgs s__law_stream) (defBody s__law_stream) (defScope s__law_stream) .none kV1 dc1 pm1 an1 cd1 ct1), sl1⟩) (c1 : PySem.W.codeIn K cd1 "_law_stream" = true) (k1 : PySem.W.keepIn K (.ref f1) = true)
    (a2 : PySem.W.nsIn K mainGlobals "_law_pick" = some (some (.ref f2))) (l2 : K.lookup f2 = some ⟨oc2, od2, .func (PySem.W.fnOf "_law_pick" "_law_pick" (defArgs s__law_pick) (defBody s__law_pick) (defScope s__law_pick) .none kV2 dc2 pm2 an2 cd2 ct2), sl2⟩) (c2 : PySem.W.codeIn K cd2 "_law_pick" = true) (k2 : PySem.W.keepIn K (.ref f2) = true)
    (a3 : PySem.W.nsIn K mainGlobals "_law_goals" = some (some (.ref f3))) (l3 : K.lookup f3 = some ⟨oc3, od3, .func (PySem.W.fnOf "_law_goals" "_law_goals" (defArgs s__law_goals) (defBody s__law_goals) (defScope s__law_goals) .none kV3 dc3 pm3 an3 cd3 ct3), sl3⟩) (c3 : PySem.W.codeIn K cd3 "_law_goals" = true) (k3 : PySem.W.keepIn K (.ref f3) = true)
    (a4 : PySem.W.nsIn K mainGlobals "_law_string" = some (some (.ref f4))) (l4 : K.lookup f4 = some ⟨oc4, od4, .func (PySem.W.fnOf "_law_string" "_law_string" (defArgs s__law_string) (defBody s__law_string) (defScope s__law_string) .none kV4 dc4 pm4 an4 cd4 ct4), sl4⟩) (c4 : PySem.W.codeIn K cd4 "_law_string" = true) (k4 : PySem.W.keepIn K (.ref f4) = true)
    (a5 : PySem.W.nsIn K mainGlobals "_law_row" = some (some (.ref f5))) (l5 : K.lookup f5 = some ⟨oc5, od5, .func (PySem.W.fnOf "_law_row" "_law_row" (defArgs s__law_row) (defBody s__law_row) (defScope s__law_row) .none kV5 dc5 pm5 an5 cd5 ct5), sl5⟩) (c5 : PySem.W.codeIn K cd5 "_law_row" = true) (k5 : PySem.W.keepIn K (.ref f5) = true)
    (a6 : PySem.W.nsIn K mainGlobals "_law_news" = some (some (.ref f6))) (l6 : K.lookup f6 = some ⟨oc6, od6, .func (PySem.W.fnOf "_law_news" "_law_news" (defArgs s__law_news) (defBody s__law_news) (defScope s__law_news) .none kV6 dc6 pm6 an6 cd6 ct6), sl6⟩) (c6 : PySem.W.codeIn K cd6 "_law_news" = true) (k6 : PySem.W.keepIn K (.ref f6) = true)
    (a7 : PySem.W.nsIn K mainGlobals "_law_boxes" = some (some (.ref f7))) (l7 : K.lookup f7 = some ⟨oc7, od7, .func (PySem.W.fnOf "_law_boxes" "_law_boxes" (defArgs s__law_boxes) (defBody s__law_boxes) (defScope s__law_boxes) .none kV7 dc7 pm7 an7 cd7 ct7), sl7⟩) (c7 : PySem.W.codeIn K cd7 "_law_boxes" = true) (k7 : PySem.W.keepIn K (.ref f7) = true)
    (a8 : PySem.W.nsIn K mainGlobals "_law_sized" = some (some (.ref f8))) (l8 : K.lookup f8 = some ⟨oc8, od8, .func (PySem.W.fnOf "_law_sized" "_law_sized" (defArgs s__law_sized) (defBody s__law_sized) (defScope s__law_sized) .none kV8 dc8 pm8 an8 cd8 ct8), sl8⟩) (c8 : PySem.W.codeIn K cd8 "_law_sized" = true) (k8 : PySem.W.keepIn K (.ref f8) = true)
    (a9 : PySem.W.nsIn K mainGlobals "_law_small" = some (some (.ref f9))) (l9 : K.lookup f9 = some ⟨oc9, od9, .func (PySem.W.fnOf "_law_small" "_law_small" (defArgs s__law_small) (defBody s__law_small) (defScope s__law_small) .none kV9 dc9 pm9 an9 cd9 ct9), sl9⟩) (c9 : PySem.W.codeIn K cd9 "_law_small" = true) (k9 : PySem.W.keepIn K (.ref f9) = true)
    (a10 : PySem.W.nsIn K mainGlobals "_law_letters" = some (some (.ref f10))) (l10 : K.lookup f10 = some ⟨oc10, od10, .func (PySem.W.fnOf "_law_letters" "_law_letters" (defArgs s__law_letters) (defBody s__law_letters) (defScope s__law_letters) .none kV10 dc10 pm10 an10 cd10 ct10), sl10⟩) (c10 : PySem.W.codeIn K cd10 "_law_letters" = true) (k10 : PySem.W.keepIn K (.ref f10) = true)
    (a11 : PySem.W.nsIn K mainGlobals "_law_number" = some (some (.ref f11))) (l11 : K.lookup f11 = some ⟨oc11, od11, .func (PySem.W.fnOf "_law_number" "_law_number" (defArgs s__law_number) (defBody s__law_number) (defScope s__law_number) .none kV11 dc11 pm11 an11 cd11 ct11), sl11⟩) (c11 : PySem.W.codeIn K cd11 "_law_number" = true) (k11 : PySem.W.keepIn K (.ref f11) = true)
    (a12 : PySem.W.nsIn K mainGlobals "_law_is_goals" = some (some (.ref f12))) (l12 : K.lookup f12 = some ⟨oc12, od12, .func (PySem.W.fnOf "_law_is_goals" "_law_is_goals" (defArgs s__law_is_goals) (defBody s__law_is_goals) (defScope s__law_is_goals) .none kV12 dc12 pm12 an12 cd12 ct12), sl12⟩) (c12 : PySem.W.codeIn K cd12 "_law_is_goals" = true) (k12 : PySem.W.keepIn K (.ref f12) = true)
    (a13 : PySem.W.nsIn K mainGlobals "_law_is_row" = some (some (.ref f13))) (l13 : K.lookup f13 = some ⟨oc13, od13, .func (PySem.W.fnOf "_law_is_row" "_law_is_row" (defArgs s__law_is_row) (defBody s__law_is_row) (defScope s__law_is_row) .none kV13 dc13 pm13 an13 cd13 ct13), sl13⟩) (c13 : PySem.W.codeIn K cd13 "_law_is_row" = true) (k13 : PySem.W.keepIn K (.ref f13) = true)
    (a14 : PySem.W.nsIn K mainGlobals "_law_once" = some (some (.ref f14))) (l14 : K.lookup f14 = some ⟨oc14, od14, .func (PySem.W.fnOf "_law_once" "_law_once" (defArgs s__law_once) (defBody s__law_once) (defScope s__law_once) .none kV14 dc14 pm14 an14 cd14 ct14), sl14⟩) (c14 : PySem.W.codeIn K cd14 "_law_once" = true) (k14 : PySem.W.keepIn K (.ref f14) = true)
    (a15 : PySem.W.nsIn K mainGlobals "_law_is_entry" = some (some (.ref f15))) (l15 : K.lookup f15 = some ⟨oc15, od15, .func (PySem.W.fnOf "_law_is_entry" "_law_is_entry" (defArgs s__law_is_entry) (defBody s__law_is_entry) (defScope s__law_is_entry) .none kV15 dc15 pm15 an15 cd15 ct15), sl15⟩) (c15 : PySem.W.codeIn K cd15 "_law_is_entry" = true) (k15 : PySem.W.keepIn K (.ref f15) = true)
    (a16 : PySem.W.nsIn K mainGlobals "_law_is_boxes" = some (some (.ref f16))) (l16 : K.lookup f16 = some ⟨oc16, od16, .func (PySem.W.fnOf "_law_is_boxes" "_law_is_boxes" (defArgs s__law_is_boxes) (defBody s__law_is_boxes) (defScope s__law_is_boxes) .none kV16 dc16 pm16 an16 cd16 ct16), sl16⟩) (c16 : PySem.W.codeIn K cd16 "_law_is_boxes" = true) (k16 : PySem.W.keepIn K (.ref f16) = true)
    (a17 : PySem.W.nsIn K mainGlobals "_law_sizes" = some (some (.ref f17))) (l17 : K.lookup f17 = some ⟨oc17, od17, .func (PySem.W.fnOf "_law_sizes" "_law_sizes" (defArgs s__law_sizes) (defBody s__law_sizes) (defScope s__law_sizes) .none kV17 dc17 pm17 an17 cd17 ct17), sl17⟩) (c17 : PySem.W.codeIn K cd17 "_law_sizes" = true) (k17 : PySem.W.keepIn K (.ref f17) = true)
    (a18 : PySem.W.nsIn K mainGlobals "_law_rows" = some (some (.ref f18))) (l18 : K.lookup f18 = some ⟨oc18, od18, .func (PySem.W.fnOf "_law_rows" "_law_rows" (defArgs s__law_rows) (defBody s__law_rows) (defScope s__law_rows) .none kV18 dc18 pm18 an18 cd18 ct18), sl18⟩) (c18 : PySem.W.codeIn K cd18 "_law_rows" = true) (k18 : PySem.W.keepIn K (.ref f18) = true)
    (a19 : PySem.W.nsIn K mainGlobals "_law_put" = some (some (.ref f19))) (l19 : K.lookup f19 = some ⟨oc19, od19, .func (PySem.W.fnOf "_law_put" "_law_put" (defArgs s__law_put) (defBody s__law_put) (defScope s__law_put) .none kV19 dc19 pm19 an19 cd19 ct19), sl19⟩) (c19 : PySem.W.codeIn K cd19 "_law_put" = true) (k19 : PySem.W.keepIn K (.ref f19) = true)
    (a20 : PySem.W.nsIn K mainGlobals "_law_with_entry" = some (some (.ref f20))) (l20 : K.lookup f20 = some ⟨oc20, od20, .func (PySem.W.fnOf "_law_with_entry" "_law_with_entry" (defArgs s__law_with_entry) (defBody s__law_with_entry) (defScope s__law_with_entry) .none kV20 dc20 pm20 an20 cd20 ct20), sl20⟩) (c20 : PySem.W.codeIn K cd20 "_law_with_entry" = true) (k20 : PySem.W.keepIn K (.ref f20) = true)
    (a21 : PySem.W.nsIn K mainGlobals "_law_things" = some (some (.ref f21))) (l21 : K.lookup f21 = some ⟨oc21, od21, .func (PySem.W.fnOf "_law_things" "_law_things" (defArgs s__law_things) (defBody s__law_things) (defScope s__law_things) .none kV21 dc21 pm21 an21 cd21 ct21), sl21⟩) (c21 : PySem.W.codeIn K cd21 "_law_things" = true) (k21 : PySem.W.keepIn K (.ref f21) = true)
    (a22 : PySem.W.nsIn K mainGlobals "is_tuple_of" = some (some (.ref f22))) (l22 : K.lookup f22 = some ⟨oc22, od22, .func (PySem.W.fnOf "is_tuple_of" "is_tuple_of" (defArgs s_is_tuple_of) (defBody s_is_tuple_of) (defScope s_is_tuple_of) .none kV22 dc22 pm22 an22 cd22 ct22), sl22⟩) (c22 : PySem.W.codeIn K cd22 "is_tuple_of" = true) (k22 : PySem.W.keepIn K (.ref f22) = true)
    (a23 : PySem.W.nsIn K mainGlobals "is_string" = some (some (.ref f23))) (l23 : K.lookup f23 = some ⟨oc23, od23, .func (PySem.W.fnOf "is_string" "is_string" (defArgs s_is_string) (defBody s_is_string) (defScope s_is_string) .none kV23 dc23 pm23 an23 (.ref cc23) ct23), sl23⟩) (c23 : PySem.W.codeIn K (.ref cc23) "is_string" = true) (k23 : PySem.W.keepIn K (.ref f23) = true)
    (q23 : K.lookup cc23 = some ⟨qe23, qd23, .fields qv23, qs23⟩) (v23 : qv23[11]? = some (.ref pp23)) (n23 : K.lookup pp23 = none)
    (a24 : PySem.W.nsIn K mainGlobals "is_letters" = some (some (.ref f24))) (l24 : K.lookup f24 = some ⟨oc24, od24, .func (PySem.W.fnOf "is_letters" "is_letters" (defArgs s_is_letters) (defBody s_is_letters) (defScope s_is_letters) .none kV24 dc24 pm24 an24 cd24 ct24), sl24⟩) (c24 : PySem.W.codeIn K cd24 "is_letters" = true) (k24 : PySem.W.keepIn K (.ref f24) = true)
    (a25 : PySem.W.nsIn K mainGlobals "is_number" = some (some (.ref f25))) (l25 : K.lookup f25 = some ⟨oc25, od25, .func (PySem.W.fnOf "is_number" "is_number" (defArgs s_is_number) (defBody s_is_number) (defScope s_is_number) .none kV25 dc25 pm25 an25 cd25 ct25), sl25⟩) (c25 : PySem.W.codeIn K cd25 "is_number" = true) (k25 : PySem.W.keepIn K (.ref f25) = true)
    (a26 : PySem.W.nsIn K mainGlobals "is_goals" = some (some (.ref f26))) (l26 : K.lookup f26 = some ⟨oc26, od26, .func (PySem.W.fnOf "is_goals" "is_goals" (defArgs s_is_goals) (defBody s_is_goals) (defScope s_is_goals) .none kV26 dc26 pm26 an26 (.ref cc26) ct26), sl26⟩) (c26 : PySem.W.codeIn K (.ref cc26) "is_goals" = true) (k26 : PySem.W.keepIn K (.ref f26) = true)
    (q26 : K.lookup cc26 = some ⟨qe26, qd26, .fields qv26, qs26⟩) (v26 : qv26[11]? = some (.ref pp26)) (n26 : K.lookup pp26 = none)
    (a27 : PySem.W.nsIn K mainGlobals "boxes_in" = some (some (.ref f27))) (l27 : K.lookup f27 = some ⟨oc27, od27, .func (PySem.W.fnOf "boxes_in" "boxes_in" (defArgs s_boxes_in) (defBody s_boxes_in) (defScope s_boxes_in) .none kV27 dc27 pm27 an27 cd27 ct27), sl27⟩) (c27 : PySem.W.codeIn K cd27 "boxes_in" = true) (k27 : PySem.W.keepIn K (.ref f27) = true)
    (a28 : PySem.W.nsIn K mainGlobals "_once" = some (some (.ref f28))) (l28 : K.lookup f28 = some ⟨oc28, od28, .func (PySem.W.fnOf "_once" "_once" (defArgs s__once) (defBody s__once) (defScope s__once) .none kV28 dc28 pm28 an28 cd28 ct28), sl28⟩) (c28 : PySem.W.codeIn K cd28 "_once" = true) (k28 : PySem.W.keepIn K (.ref f28) = true)
    (a29 : PySem.W.nsIn K mainGlobals "_is_item" = some (some (.ref f29))) (l29 : K.lookup f29 = some ⟨oc29, od29, .func (PySem.W.fnOf "_is_item" "_is_item" (defArgs s__is_item) (defBody s__is_item) (defScope s__is_item) .none kV29 dc29 pm29 an29 cd29 ct29), sl29⟩) (c29 : PySem.W.codeIn K cd29 "_is_item" = true) (k29 : PySem.W.keepIn K (.ref f29) = true)
    (a30 : PySem.W.nsIn K mainGlobals "_is_row" = some (some (.ref f30))) (l30 : K.lookup f30 = some ⟨oc30, od30, .func (PySem.W.fnOf "_is_row" "_is_row" (defArgs s__is_row) (defBody s__is_row) (defScope s__is_row) .none kV30 dc30 pm30 an30 (.ref cc30) ct30), sl30⟩) (c30 : PySem.W.codeIn K (.ref cc30) "_is_row" = true) (k30 : PySem.W.keepIn K (.ref f30) = true)
    (q30 : K.lookup cc30 = some ⟨qe30, qd30, .fields qv30, qs30⟩) (v30 : qv30[11]? = some (.ref pp30)) (n30 : K.lookup pp30 = none)
    (a31 : PySem.W.nsIn K mainGlobals "_is_entry" = some (some (.ref f31))) (l31 : K.lookup f31 = some ⟨oc31, od31, .func (PySem.W.fnOf "_is_entry" "_is_entry" (defArgs s__is_entry) (defBody s__is_entry) (defScope s__is_entry) .none kV31 dc31 pm31 an31 (.ref cc31) ct31), sl31⟩) (c31 : PySem.W.codeIn K (.ref cc31) "_is_entry" = true) (k31 : PySem.W.keepIn K (.ref f31) = true)
    (q31 : K.lookup cc31 = some ⟨qe31, qd31, .fields qv31, qs31⟩) (v31 : qv31[11]? = some (.ref pp31)) (n31 : K.lookup pp31 = none)
    (a32 : PySem.W.nsIn K mainGlobals "_is_state" = some (some (.ref f32))) (l32 : K.lookup f32 = some ⟨oc32, od32, .func (PySem.W.fnOf "_is_state" "_is_state" (defArgs s__is_state) (defBody s__is_state) (defScope s__is_state) .none kV32 dc32 pm32 an32 (.ref cc32) ct32), sl32⟩) (c32 : PySem.W.codeIn K (.ref cc32) "_is_state" = true) (k32 : PySem.W.keepIn K (.ref f32) = true)
    (q32 : K.lookup cc32 = some ⟨qe32, qd32, .fields qv32, qs32⟩) (v32 : qv32[11]? = some (.ref pp32)) (n32 : K.lookup pp32 = none)
    (a33 : PySem.W.nsIn K mainGlobals "_is_end" = some (some (.ref f33))) (l33 : K.lookup f33 = some ⟨oc33, od33, .func (PySem.W.fnOf "_is_end" "_is_end" (defArgs s__is_end) (defBody s__is_end) (defScope s__is_end) .none kV33 dc33 pm33 an33 cd33 ct33), sl33⟩) (c33 : PySem.W.codeIn K cd33 "_is_end" = true) (k33 : PySem.W.keepIn K (.ref f33) = true)
    (a34 : PySem.W.nsIn K mainGlobals "is_boxes" = some (some (.ref f34))) (l34 : K.lookup f34 = some ⟨oc34, od34, .func (PySem.W.fnOf "is_boxes" "is_boxes" (defArgs s_is_boxes) (defBody s_is_boxes) (defScope s_is_boxes) .none kV34 dc34 pm34 an34 (.ref cc34) ct34), sl34⟩) (c34 : PySem.W.codeIn K (.ref cc34) "is_boxes" = true) (k34 : PySem.W.keepIn K (.ref f34) = true)
    (q34 : K.lookup cc34 = some ⟨qe34, qd34, .fields qv34, qs34⟩) (v34 : qv34[11]? = some (.ref pp34)) (n34 : K.lookup pp34 = none)
    (a35 : PySem.W.nsIn K mainGlobals "law" = some (some (.ref f35))) (l35 : K.lookup f35 = some ⟨oc35, od35, .func (PySem.W.fnOf "law" "law" (defArgs s_law) (defBody s_law) (defScope s_law) .none kV35 dc35 pm35 an35 cd35 ct35), sl35⟩) (c35 : PySem.W.codeIn K cd35 "law" = true) (k35 : PySem.W.keepIn K (.ref f35) = true)
    (z0 : PySem.W.nsIn K mainGlobals "all" = some none)
    (z1 : PySem.W.nsIn K mainGlobals "bool" = some none)
    (z2 : PySem.W.nsIn K mainGlobals "int" = some none)
    (z3 : PySem.W.nsIn K mainGlobals "isinstance" = some none)
    (z4 : PySem.W.nsIn K mainGlobals "len" = some none)
    (z5 : PySem.W.nsIn K mainGlobals "list" = some none)
    (z6 : PySem.W.nsIn K mainGlobals "min" = some none)
    (z7 : PySem.W.nsIn K mainGlobals "range" = some none)
    (z8 : PySem.W.nsIn K mainGlobals "set" = some none)
    (z9 : PySem.W.nsIn K mainGlobals "sorted" = some none)
    (z10 : PySem.W.nsIn K mainGlobals "str" = some none)
    (z11 : PySem.W.nsIn K mainGlobals "sum" = some none)
    (z12 : PySem.W.nsIn K mainGlobals "tuple" = some none)
    {tk0 : Tok} (y0 : PySem.W.nsIn K mainGlobals "SMALL" = some (some (.str "abcdefghijklmnopqrstuvwxyz" tk0)))
    : ∃ fd : FuncData, (∀ (s : Shared) (v : Value), BindsTo s fd ⟨[v], []⟩ [("script", v)]) ∧ ∀ base : Heap, K.In base → base.Ns mainGlobals mg → (∀ x c P, x ∈ gxDefs → PySem.W.tabIn K x = some (c, P) → GxR.TabB base mg c P) → FnOk l.prog w K mg base CX0 12 fa fd ["script"] (spD K m_law 1) := by
  have e := hfa.symm.trans (PySem.W.mg_of X G a35)
  cases e
  have F0 := fun_mk (st := s__law_mix) l0 c0 k0
  have B0 := F0.binds (ps := ["cell", "k"]) fun _ _ _ _ _ _ us hl => match us, hl with | [_, _], _ => rfl
  have F1 := fun_mk (st := s__law_stream) l1 c1 k1
  have B1 := F1.binds (ps := ["script", "most"]) fun _ _ _ _ _ _ us hl => match us, hl with | [_, _], _ => rfl
  have F2 := fun_mk (st := s__law_pick) l2 c2 k2
  have B2 := F2.binds (ps := ["draws", "many"]) fun _ _ _ _ _ _ us hl => match us, hl with | [_, _], _ => rfl
  have F3 := fun_mk (st := s__law_goals) l3 c3 k3
  have B3 := F3.binds (ps := ["draws", "many", "width"]) fun _ _ _ _ _ _ us hl => match us, hl with | [_, _, _], _ => rfl
  have F4 := fun_mk (st := s__law_string) l4 c4 k4
  have B4 := F4.binds (ps := ["draws"]) fun _ _ _ _ _ _ us hl => match us, hl with | [_], _ => rfl
  have F5 := fun_mk (st := s__law_row) l5 c5 k5
  have B5 := F5.binds (ps := ["draws", "boxes"]) fun _ _ _ _ _ _ us hl => match us, hl with | [_, _], _ => rfl
  have F6 := fun_mk (st := s__law_news) l6 c6 k6
  have B6 := F6.binds (ps := ["draws", "many"]) fun _ _ _ _ _ _ us hl => match us, hl with | [_, _], _ => rfl
  have F7 := fun_mk (st := s__law_boxes) l7 c7 k7
  have B7 := F7.binds (ps := ["draws", "letters", "most", "boxes", "classes"]) fun _ _ _ _ _ _ us hl => match us, hl with | [_, _, _, _, _], _ => rfl
  have F8 := fun_mk (st := s__law_sized) l8 c8 k8
  have B8 := F8.binds (ps := ["thing", "size"]) fun _ _ _ _ _ _ us hl => match us, hl with | [_, _], _ => rfl
  have F9 := fun_mk (st := s__law_small) l9 c9 k9
  have B9 := F9.binds (ps := ["thing"]) fun _ _ _ _ _ _ us hl => match us, hl with | [_], _ => rfl
  have F10 := fun_mk (st := s__law_letters) l10 c10 k10
  have B10 := F10.binds (ps := ["thing"]) fun _ _ _ _ _ _ us hl => match us, hl with | [_], _ => rfl
  have F11 := fun_mk (st := s__law_number) l11 c11 k11
  have B11 := F11.binds (ps := ["thing", "many"]) fun _ _ _ _ _ _ us hl => match us, hl with | [_, _], _ => rfl
  have F12 := fun_mk (st := s__law_is_goals) l12 c12 k12
  have B12 := F12.binds (ps := ["thing", "width"]) fun _ _ _ _ _ _ us hl => match us, hl with | [_, _], _ => rfl
  have F13 := fun_mk (st := s__law_is_row) l13 c13 k13
  have B13 := F13.binds (ps := ["thing", "many"]) fun _ _ _ _ _ _ us hl => match us, hl with | [_, _], _ => rfl
  have F14 := fun_mk (st := s__law_once) l14 c14 k14
  have B14 := F14.binds (ps := ["rows"]) fun _ _ _ _ _ _ us hl => match us, hl with | [_], _ => rfl
  have F15 := fun_mk (st := s__law_is_entry) l15 c15 k15
  have B15 := F15.binds (ps := ["thing", "states", "many"]) fun _ _ _ _ _ _ us hl => match us, hl with | [_, _, _], _ => rfl
  have F16 := fun_mk (st := s__law_is_boxes) l16 c16 k16
  have B16 := F16.binds (ps := ["thing"]) fun _ _ _ _ _ _ us hl => match us, hl with | [_], _ => rfl
  have F17 := fun_mk (st := s__law_sizes) l17 c17 k17
  have B17 := F17.binds (ps := ["row"]) fun _ _ _ _ _ _ us hl => match us, hl with | [_], _ => rfl
  have F18 := fun_mk (st := s__law_rows) l18 c18 k18
  have B18 := F18.binds (ps := ["row", "many"]) fun _ _ _ _ _ _ us hl => match us, hl with | [_, _], _ => rfl
  have F19 := fun_mk (st := s__law_put) l19 c19 k19
  have B19 := F19.binds (ps := ["row", "at", "thing"]) fun _ _ _ _ _ _ us hl => match us, hl with | [_, _, _], _ => rfl
  have F20 := fun_mk (st := s__law_with_entry) l20 c20 k20
  have B20 := F20.binds (ps := ["boxes", "q", "k", "c", "entry"]) fun _ _ _ _ _ _ us hl => match us, hl with | [_, _, _, _, _], _ => rfl
  have F21 := fun_mk (st := s__law_things) l21 c21 k21
  have B21 := F21.binds (ps := ["draws", "boxes"]) fun _ _ _ _ _ _ us hl => match us, hl with | [_, _], _ => rfl
  have F22 := fun_mk (st := s_is_tuple_of) l22 c22 k22
  have B22 := F22.binds (ps := ["thing", "size"]) fun _ _ _ _ _ _ us hl => match us, hl with | [_, _], _ => rfl
  have F23 := fun_mk (st := s_is_string) l23 c23 k23
  have B23 := F23.binds (ps := ["thing"]) fun _ _ _ _ _ _ us hl => match us, hl with | [_], _ => rfl
  have F24 := fun_mk (st := s_is_letters) l24 c24 k24
  have B24 := F24.binds (ps := ["thing"]) fun _ _ _ _ _ _ us hl => match us, hl with | [_], _ => rfl
  have F25 := fun_mk (st := s_is_number) l25 c25 k25
  have B25 := F25.binds (ps := ["thing", "many"]) fun _ _ _ _ _ _ us hl => match us, hl with | [_, _], _ => rfl
  have F26 := fun_mk (st := s_is_goals) l26 c26 k26
  have B26 := F26.binds (ps := ["thing", "width"]) fun _ _ _ _ _ _ us hl => match us, hl with | [_, _], _ => rfl
  have F27 := fun_mk (st := s_boxes_in) l27 c27 k27
  have B27 := F27.binds (ps := ["row"]) fun _ _ _ _ _ _ us hl => match us, hl with | [_], _ => rfl
  have F28 := fun_mk (st := s__once) l28 c28 k28
  have B28 := F28.binds (ps := ["rows"]) fun _ _ _ _ _ _ us hl => match us, hl with | [_], _ => rfl
  have F29 := fun_mk (st := s__is_item) l29 c29 k29
  have B29 := F29.binds (ps := ["item", "many"]) fun _ _ _ _ _ _ us hl => match us, hl with | [_, _], _ => rfl
  have F30 := fun_mk (st := s__is_row) l30 c30 k30
  have B30 := F30.binds (ps := ["thing", "many"]) fun _ _ _ _ _ _ us hl => match us, hl with | [_, _], _ => rfl
  have F31 := fun_mk (st := s__is_entry) l31 c31 k31
  have B31 := F31.binds (ps := ["thing", "states", "many"]) fun _ _ _ _ _ _ us hl => match us, hl with | [_, _, _], _ => rfl
  have F32 := fun_mk (st := s__is_state) l32 c32 k32
  have B32 := F32.binds (ps := ["thing", "width", "classes", "states", "many"]) fun _ _ _ _ _ _ us hl => match us, hl with | [_, _, _, _, _], _ => rfl
  have F33 := fun_mk (st := s__is_end) l33 c33 k33
  have B33 := F33.binds (ps := ["thing", "many"]) fun _ _ _ _ _ _ us hl => match us, hl with | [_, _], _ => rfl
  have F34 := fun_mk (st := s_is_boxes) l34 c34 k34
  have B34 := F34.binds (ps := ["thing"]) fun _ _ _ _ _ _ us hl => match us, hl with | [_], _ => rfl
  have F35 := fun_mk (st := s_law) l35 c35 k35
  have B35 := F35.binds (ps := ["script"]) fun _ _ _ _ _ _ us hl => match us, hl with | [_], _ => rfl
  have O23 := tabOf_mk (fd := PySem.W.fnOf "is_string" "is_string" (defArgs s_is_string) (defBody s_is_string) (defScope s_is_string) .none kV23 dc23 pm23 an23 (.ref cc23) ct23) a23 l23 rfl q23 v23 n23
  have O26 := tabOf_mk (fd := PySem.W.fnOf "is_goals" "is_goals" (defArgs s_is_goals) (defBody s_is_goals) (defScope s_is_goals) .none kV26 dc26 pm26 an26 (.ref cc26) ct26) a26 l26 rfl q26 v26 n26
  have O30 := tabOf_mk (fd := PySem.W.fnOf "_is_row" "_is_row" (defArgs s__is_row) (defBody s__is_row) (defScope s__is_row) .none kV30 dc30 pm30 an30 (.ref cc30) ct30) a30 l30 rfl q30 v30 n30
  have O31 := tabOf_mk (fd := PySem.W.fnOf "_is_entry" "_is_entry" (defArgs s__is_entry) (defBody s__is_entry) (defScope s__is_entry) .none kV31 dc31 pm31 an31 (.ref cc31) ct31) a31 l31 rfl q31 v31 n31
  have O32 := tabOf_mk (fd := PySem.W.fnOf "_is_state" "_is_state" (defArgs s__is_state) (defBody s__is_state) (defScope s__is_state) .none kV32 dc32 pm32 an32 (.ref cc32) ct32) a32 l32 rfl q32 v32 n32
  have O34 := tabOf_mk (fd := PySem.W.fnOf "is_boxes" "is_boxes" (defArgs s_is_boxes) (defBody s_is_boxes) (defScope s_is_boxes) .none kV34 dc34 pm34 an34 (.ref cc34) ct34) a34 l34 rfl q34 v34 n34
  refine ⟨PySem.W.fnOf "law" "law" (defArgs s_law) (defBody s_law) (defScope s_law) .none kV35 dc35 pm35 an35 cd35 ct35, fun s v => .of_eq rfl, fun base _ _ TB => ?_⟩
  let T : Txt K mg base := ⟨_, _, F0, B0, PySem.W.mg_of X G a0, _, _, F1, B1, PySem.W.mg_of X G a1, _, _, F2, B2, PySem.W.mg_of X G a2, _, _, F3, B3, PySem.W.mg_of X G a3, _, _, F4, B4, PySem.W.mg_of X G a4, _, _, F5, B5, PySem.W.mg_of X G a5, _, _, F6, B6, PySem.W.mg_of X G a6, _, _, F7, B7, PySem.W.mg_of X G a7, _, _, F8, B8, PySem.W.mg_of X G a8, _, _, F9, B9, PySem.W.mg_of X G a9, _, _, F10, B10, PySem.W.mg_of X G a10, _, _, F11, B11, PySem.W.mg_of X G a11, _, _, F12, B12, PySem.W.mg_of X G a12, _, _, F13, B13, PySem.W.mg_of X G a13, _, _, F14, B14, PySem.W.mg_of X G a14, _, _, F15, B15, PySem.W.mg_of X G a15, _, _, F16, B16, PySem.W.mg_of X G a16, _, _, F17, B17, PySem.W.mg_of X G a17, _, _, F18, B18, PySem.W.mg_of X G a18, _, _, F19, B19, PySem.W.mg_of X G a19, _, _, F20, B20, PySem.W.mg_of X G a20, _, _, F21, B21, PySem.W.mg_of X G a21, _, _, F22, B22, PySem.W.mg_of X G a22, _, _, F23, B23, PySem.W.mg_of X G a23, _, _, O23, TB _ _ _ (by decide) O23.tab, _, _, F24, B24, PySem.W.mg_of X G a24, _, _, F25, B25, PySem.W.mg_of X G a25, _, _, F26, B26, PySem.W.mg_of X G a26, _, _, O26, TB _ _ _ (by decide) O26.tab, _, _, F27, B27, PySem.W.mg_of X G a27, _, _, F28, B28, PySem.W.mg_of X G a28, _, _, F29, B29, PySem.W.mg_of X G a29, _, _, F30, B30, PySem.W.mg_of X G a30, _, _, O30, TB _ _ _ (by decide) O30.tab, _, _, F31, B31, PySem.W.mg_of X G a31, _, _, O31, TB _ _ _ (by decide) O31.tab, _, _, F32, B32, PySem.W.mg_of X G a32, _, _, O32, TB _ _ _ (by decide) O32.tab, _, _, F33, B33, PySem.W.mg_of X G a33, _, _, F34, B34, PySem.W.mg_of X G a34, _, _, O34, TB _ _ _ (by decide) O34.tab, _, _, F35, B35, PySem.W.mg_of X G a35, PySem.W.mg_none_of X G z0, PySem.W.mg_none_of X G z1, PySem.W.mg_none_of X G z2, PySem.W.mg_none_of X G z3, PySem.W.mg_none_of X G z4, PySem.W.mg_none_of X G z5, PySem.W.mg_none_of X G z6, PySem.W.mg_none_of X G z7, PySem.W.mg_none_of X G z8, PySem.W.mg_none_of X G z9, PySem.W.mg_none_of X G z10, PySem.W.mg_none_of X G z11, PySem.W.mg_none_of X G z12, tk0, PySem.W.mg_of X G y0⟩
  exact w_law T
theorem gx_mk {K : PySem.W.Frag} {q : Program}
    {f0 cc0 pp0 : Addr} {oc0 qe0 : Value} {od0 qd0 : Option Addr} {fd0 : FuncData} {sl0 qs0 : Array (Option Value)} {qv0 : Array Value}
    (a0 : PySem.W.nsIn K mainGlobals "is_string" = some (some (.ref f0))) (l0 : K.lookup f0 = some ⟨oc0, od0, .func fd0, sl0⟩) (h0 : fd0.code = .ref cc0) (q0 : K.lookup cc0 = some ⟨qe0, qd0, .fields qv0, qs0⟩) (v0 : qv0[11]? = some (.ref pp0)) (n0 : K.lookup pp0 = none) (r0 : ((recsOf q).find? fun e => e.name == ("is_string" : Str)).isSome = true)
    {f1 cc1 pp1 : Addr} {oc1 qe1 : Value} {od1 qd1 : Option Addr} {fd1 : FuncData} {sl1 qs1 : Array (Option Value)} {qv1 : Array Value}
    (a1 : PySem.W.nsIn K mainGlobals "is_goals" = some (some (.ref f1))) (l1 : K.lookup f1 = some ⟨oc1, od1, .func fd1, sl1⟩) (h1 : fd1.code = .ref cc1) (q1 : K.lookup cc1 = some ⟨qe1, qd1, .fields qv1, qs1⟩) (v1 : qv1[11]? = some (.ref pp1)) (n1 : K.lookup pp1 = none) (r1 : ((recsOf q).find? fun e => e.name == ("is_goals" : Str)).isSome = true)
    {f2 cc2 pp2 : Addr} {oc2 qe2 : Value} {od2 qd2 : Option Addr} {fd2 : FuncData} {sl2 qs2 : Array (Option Value)} {qv2 : Array Value}
    (a2 : PySem.W.nsIn K mainGlobals "_is_state" = some (some (.ref f2))) (l2 : K.lookup f2 = some ⟨oc2, od2, .func fd2, sl2⟩) (h2 : fd2.code = .ref cc2) (q2 : K.lookup cc2 = some ⟨qe2, qd2, .fields qv2, qs2⟩) (v2 : qv2[11]? = some (.ref pp2)) (n2 : K.lookup pp2 = none) (r2 : ((recsOf q).find? fun e => e.name == ("_is_state" : Str)).isSome = true)
    {f3 cc3 pp3 : Addr} {oc3 qe3 : Value} {od3 qd3 : Option Addr} {fd3 : FuncData} {sl3 qs3 : Array (Option Value)} {qv3 : Array Value}
    (a3 : PySem.W.nsIn K mainGlobals "is_boxes" = some (some (.ref f3))) (l3 : K.lookup f3 = some ⟨oc3, od3, .func fd3, sl3⟩) (h3 : fd3.code = .ref cc3) (q3 : K.lookup cc3 = some ⟨qe3, qd3, .fields qv3, qs3⟩) (v3 : qv3[11]? = some (.ref pp3)) (n3 : K.lookup pp3 = none) (r3 : ((recsOf q).find? fun e => e.name == ("is_boxes" : Str)).isSome = true)
    {f4 cc4 pp4 : Addr} {oc4 qe4 : Value} {od4 qd4 : Option Addr} {fd4 : FuncData} {sl4 qs4 : Array (Option Value)} {qv4 : Array Value}
    (a4 : PySem.W.nsIn K mainGlobals "_is_row" = some (some (.ref f4))) (l4 : K.lookup f4 = some ⟨oc4, od4, .func fd4, sl4⟩) (h4 : fd4.code = .ref cc4) (q4 : K.lookup cc4 = some ⟨qe4, qd4, .fields qv4, qs4⟩) (v4 : qv4[11]? = some (.ref pp4)) (n4 : K.lookup pp4 = none) (r4 : ((recsOf q).find? fun e => e.name == ("_is_row" : Str)).isSome = true)
    {f5 cc5 pp5 : Addr} {oc5 qe5 : Value} {od5 qd5 : Option Addr} {fd5 : FuncData} {sl5 qs5 : Array (Option Value)} {qv5 : Array Value}
    (a5 : PySem.W.nsIn K mainGlobals "_is_entry" = some (some (.ref f5))) (l5 : K.lookup f5 = some ⟨oc5, od5, .func fd5, sl5⟩) (h5 : fd5.code = .ref cc5) (q5 : K.lookup cc5 = some ⟨qe5, qd5, .fields qv5, qs5⟩) (v5 : qv5[11]? = some (.ref pp5)) (n5 : K.lookup pp5 = none) (r5 : ((recsOf q).find? fun e => e.name == ("_is_entry" : Str)).isSome = true)
    {f6 cc6 pp6 : Addr} {oc6 qe6 : Value} {od6 qd6 : Option Addr} {fd6 : FuncData} {sl6 qs6 : Array (Option Value)} {qv6 : Array Value}
    (a6 : PySem.W.nsIn K mainGlobals "_once" = some (some (.ref f6))) (l6 : K.lookup f6 = some ⟨oc6, od6, .func fd6, sl6⟩) (h6 : fd6.code = .ref cc6) (q6 : K.lookup cc6 = some ⟨qe6, qd6, .fields qv6, qs6⟩) (v6 : qv6[11]? = some (.ref pp6)) (n6 : K.lookup pp6 = none) (r6 : ((recsOf q).find? fun e => e.name == ("_once" : Str)).isSome = true)
    (z3 : PySem.W.nsIn K mainGlobals "is_head" = some none)
    (z6 : PySem.W.nsIn K mainGlobals "_is_news" = some none)
    : ∀ x c P, x ∈ gxDefs → PySem.W.tabIn K x = some (c, P) → ((recsOf q).find? fun e => e.name == x).isSome = true ∧ K.lookup P = none := by
  intro x c P hx ht
  simp only [gxDefs, List.mem_cons, List.not_mem_nil, or_false] at hx
  rcases hx with rfl | rfl | rfl | rfl | rfl | rfl | rfl | rfl | rfl
  · have O := tabOf_mk a0 l0 h0 q0 v0 n0
    have z := O.tab.symm.trans ht
    cases z
    exact ⟨r0, O.nP⟩
  · have O := tabOf_mk a1 l1 h1 q1 v1 n1
    have z := O.tab.symm.trans ht
    cases z
    exact ⟨r1, O.nP⟩
  · have O := tabOf_mk a2 l2 h2 q2 v2 n2
    have z := O.tab.symm.trans ht
    cases z
    exact ⟨r2, O.nP⟩
  · rw [tab_none z3] at ht; cases ht
  · have O := tabOf_mk a3 l3 h3 q3 v3 n3
    have z := O.tab.symm.trans ht
    cases z
    exact ⟨r3, O.nP⟩
  · have O := tabOf_mk a4 l4 h4 q4 v4 n4
    have z := O.tab.symm.trans ht
    cases z
    exact ⟨r4, O.nP⟩
  · rw [tab_none z6] at ht; cases ht
  · have O := tabOf_mk a5 l5 h5 q5 v5 n5
    have z := O.tab.symm.trans ht
    cases z
    exact ⟨r5, O.nP⟩
  · have O := tabOf_mk a6 l6 h6 q6 v6 n6
    have z := O.tab.symm.trans ht
    cases z
    exact ⟨r6, O.nP⟩
end L_k14
/-! T3: what the combinators give where they stand at a frame and a store -/
namespace T3
open PySem PySem.Spec PyProof.Rows L2
noncomputable section
variable {f g h f1 f2 f3 : Ev} {fa ga : Evs} {ft gt : Et} {fs gs : Sm} {fm : Fm} {st : Sto} {w : Va} {i : Nat} {fg : Fg} {fgs : Fgs}
theorem eC_ap : eC w fm st = some (w, st) := rfl
theorem eB_ap {k : Va → Va → Sto → Option (Va × Sto)} : eB k f1 f2 fm st = (f1 fm st).bind fun p => (f2 fm p.2).bind fun q => k p.1 q.1 q.2 := rfl
theorem eU_ap {k : Va → Sto → Option (Va × Sto)} : eU k f fm st = (f fm st).bind fun p => k p.1 p.2 := rfl
theorem aN_ap : aN fm st = some ([], st) := rfl
theorem aC_ap : aC f fa fm st = (f fm st).bind fun p => (fa fm p.2).bind fun q => some (p.1 :: q.1, q.2) := rfl
theorem eA_ap {k : List Va → Sto → Option (Va × Sto)} : eA k fa fm st = (fa fm st).bind fun p => k p.1 p.2 := rfl
theorem eMt_ap {T : String} {k : Va → List Va → Sto → Option (Va × Sto)} : eMt T k f fa fm st = (f fm st).bind fun p => if hasTy T p.1 p.2 = true then (fa fm p.2).bind fun q => k p.1 q.1 q.2 else none := rfl
theorem bB_ap {k : Va → Va → Sto → Option (Va × Sto)} : bB k f1 f2 fm st = (f1 fm st).bind fun p => (f2 fm p.2).bind fun q => (k p.1 q.1 q.2).bind fun r => match r.1 with
  | .bl b => some (b, r.2)
  | _ => none := rfl
theorem bV_ap : bV f fm st = (f fm st).bind fun p => (truth p.1 p.2).bind fun b => some (b, p.2) := rfl
theorem bO_ap : bO f fm st = (f fm st).bind fun p => match p.1 with
  | .bl b => some (b, p.2)
  | _ => none := rfl
theorem bAnd_ap : bAnd ft gt fm st = (ft fm st).bind fun p => if p.1 = true then gt fm p.2 else some (false, p.2) := rfl
theorem bOr_ap : bOr ft gt fm st = (ft fm st).bind fun p => if p.1 = true then some (true, p.2) else gt fm p.2 := rfl
theorem bNot_ap : bNot ft fm st = (ft fm st).bind fun p => some (!p.1, p.2) := rfl
theorem bYes_ap : bYes fm st = some (true, st) := rfl
theorem eAnd_ap : eAnd f g fm st = (f fm st).bind fun p => match p.1 with
  | .bl true => g fm p.2
  | .bl false => some (.bl false, p.2)
  | _ => none := rfl
theorem eOr_ap : eOr f g fm st = (f fm st).bind fun p => match p.1 with
  | .bl false => g fm p.2
  | .bl true => some (.bl true, p.2)
  | _ => none := rfl
theorem eNot_ap : eNot f fm st = (f fm st).bind fun p => match p.1 with
  | .bl b => some (.bl (!b), p.2)
  | _ => none := rfl
theorem eIf_ap : eIf ft f g fm st = (ft fm st).bind fun p => if p.1 = true then f fm p.2 else g fm p.2 := rfl
theorem eCh_ap {k k' : Va → Va → Sto → Option (Va × Sto)} : eCh k k' f1 f2 f3 fm st = (f1 fm st).bind fun p => (f2 fm p.2).bind fun q => (k p.1 q.1 q.2).bind fun r => match r.1 with
  | .bl true => (f3 fm r.2).bind fun t => k' q.1 t.1 t.2
  | .bl false => some (.bl false, r.2)
  | _ => none := rfl
theorem eTup_ap : eTup fa fm st = (fa fm st).bind fun p => @ite _ (p.1.length ≤ 16777216) (Classical.propDecidable _) (some (.tup p.1, p.2)) none := rfl
theorem eLst_ap : eLst fa fm st = (fa fm st).bind fun p => @ite _ (p.1.length ≤ 16777216) (Classical.propDecidable _) (some (.ref p.2.length, p.2 ++ [.lst p.1])) none := rfl
theorem sNil_ap : sNil fm st = some (.nx, fm, st) := rfl
theorem sCons_ap : sCons fs gs fm st = (fs fm st).bind fun r => match r.1 with
  | .nx => gs r.2.1 r.2.2
  | _ => some r := rfl
theorem sSet_ap : sSet i f fm st = (f fm st).bind fun p => some (.nx, fm.set i (some p.1), p.2) := rfl
theorem sEx_ap : sEx f fm st = (f fm st).bind fun p => some (.nx, fm, p.2) := rfl
theorem sRet_ap : sRet f fm st = (f fm st).bind fun p => some (.rt p.1, fm, p.2) := rfl
theorem sRetN_ap : sRetN fm st = some (.rt .non, fm, st) := rfl
theorem sBk_ap : sBk fm st = some (.bk, fm, st) := rfl
theorem sCt_ap : sCt fm st = some (.ct, fm, st) := rfl
theorem sIf_ap : sIf ft fs gs fm st = (ft fm st).bind fun p => if p.1 = true then fs fm p.2 else gs fm p.2 := rfl
theorem gN_ap : gN i w fm = some (fm.set i (some w)) := rfl
theorem gT_ap {ws : List Va} : gT fgs (.tup ws) fm = fgs ws fm := rfl
theorem gsC_ap {ws : List Va} : gsC fg fgs (w :: ws) fm = (fg w fm).bind (fgs ws) := rfl
theorem gsN_ap : gsN [] fm = some fm := rfl
theorem sAsg_ap : sAsg fg f fm st = (f fm st).bind fun p => (fg p.1 fm).bind fun fm' => some (.nx, fm', p.2) := rfl
theorem sFor_ap {fi : Fi} : sFor fi fg fs fm st = (fi fm st).bind fun r => forL r.1.gd fg fs r.1.ws fm r.2 := rfl
theorem iA_ap : iA f fm st = (f fm st).bind fun p => (srcOf p.1 p.2).map fun S => (S, p.2) := rfl
theorem eCall_ap {np : Nat} {k : Fn} : eCall np k fa fm st = (fa fm st).bind fun p => if p.1.length = np then k p.1 p.2 else none := rfl
theorem fn_ap {N np : Nat} {ws : List Va} : fn N np fs ws st = if ws.length = np then (fs (ws.map some ++ List.replicate (N - np) none) st).bind fun r => match r.1 with
  | .nx => some (fin st .non r.2.2)
  | .rt w => some (fin st w r.2.2)
  | _ => none else none := rfl
theorem eCut_ap {a b : Ep} : eCut f a b fm st = (f fm st).bind fun p => (a fm p.2).bind fun q => (b fm q.2).bind fun r => gCut p.1 q.1 r.1 r.2 := rfl
theorem pNo_ap : pNo fm st = some (none, st) := rfl
theorem pSo_ap : pSo f fm st = (f fm st).bind fun p => match p.1 with
  | .int i => some (some i, p.2)
  | _ => none := rfl
theorem sPut_ap {fo fi fv : Ev} : sPut fo fi fv fm st = (fv fm st).bind fun v => (fo fm v.2).bind fun o => (fi fm o.2).bind fun i => (setW o.1 i.1 v.1 i.2).map fun st' => (.nx, fm, st') := rfl
theorem eV_ap (h : fm[i]? = some (some w)) : eV i fm st = some (w, st) := by simp only [eV, h]
theorem eV0 {r : Fm} : eV 0 (some w :: r) st = some (w, st) := rfl
theorem eV1 {a0 : Option Va} {r : Fm} : eV 1 (a0 :: some w :: r) st = some (w, st) := rfl
theorem eV2 {a0 a1 : Option Va} {r : Fm} : eV 2 (a0 :: a1 :: some w :: r) st = some (w, st) := rfl
theorem eV3 {a0 a1 a2 : Option Va} {r : Fm} : eV 3 (a0 :: a1 :: a2 :: some w :: r) st = some (w, st) := rfl
theorem eV4 {a0 a1 a2 a3 : Option Va} {r : Fm} : eV 4 (a0 :: a1 :: a2 :: a3 :: some w :: r) st = some (w, st) := rfl
theorem eV5 {a0 a1 a2 a3 a4 : Option Va} {r : Fm} : eV 5 (a0 :: a1 :: a2 :: a3 :: a4 :: some w :: r) st = some (w, st) := rfl
theorem eV6 {a0 a1 a2 a3 a4 a5 : Option Va} {r : Fm} : eV 6 (a0 :: a1 :: a2 :: a3 :: a4 :: a5 :: some w :: r) st = some (w, st) := rfl
theorem eV7 {a0 a1 a2 a3 a4 a5 a6 : Option Va} {r : Fm} : eV 7 (a0 :: a1 :: a2 :: a3 :: a4 :: a5 :: a6 :: some w :: r) st = some (w, st) := rfl
theorem eV8 {a0 a1 a2 a3 a4 a5 a6 a7 : Option Va} {r : Fm} : eV 8 (a0 :: a1 :: a2 :: a3 :: a4 :: a5 :: a6 :: a7 :: some w :: r) st = some (w, st) := rfl
theorem eV9 {a0 a1 a2 a3 a4 a5 a6 a7 a8 : Option Va} {r : Fm} : eV 9 (a0 :: a1 :: a2 :: a3 :: a4 :: a5 :: a6 :: a7 :: a8 :: some w :: r) st = some (w, st) := rfl
end
end T3
/-! T3, tenth part: how the laws draw -/
namespace T3
open PySem PySem.Spec PyProof.Rows L2
noncomputable section

theorem gMul_r {i j : Int} {st : Sto} (h : j.natAbs < 18446744073709551616) : gMul (.int i) (.int j) st = some (.int (i * j), st) := by
  simp only [gMul]; rw [if_pos (.inr (.inr h))]
theorem gMul_l {i j : Int} {st : Sto} (h : i.natAbs < 18446744073709551616) : gMul (.int i) (.int j) st = some (.int (i * j), st) := by
  simp only [gMul]; rw [if_pos (.inr (.inl h))]
theorem gMod_p {i j : Int} {st : Sto} (h : 0 < j) : gMod (.int i) (.int j) st = some (.int (i % j), st) := by
  simp only [gMod]; rw [if_pos h]
theorem gAdd_i {i j : Int} {st : Sto} : gAdd (.int i) (.int j) st = some (.int (i + j), st) := rfl
theorem gSub_i {i j : Int} {st : Sto} : T3.gSub (.int i) (.int j) st = some (.int (i - j), st) := rfl
theorem gInt_i {i : Int} {st : Sto} : gInt [.int i] st = some (.int i, st) := rfl
theorem gMul_big {i j : Int} {st : Sto} (h : i.natAbs.log2 + j.natAbs.log2 < 1000000) : gMul (.int i) (.int j) st = some (.int (i * j), st) := if_pos (.inl h)
theorem gEq_i {i j : Int} {st : Sto} : gEq (.int i) (.int j) st = some (.bl (decide (i = j)), st) := rfl
theorem gEq_s {i j : List Nat} {st : Sto} : gEq (.str i) (.str j) st = some (.bl (decide (i = j)), st) := rfl
theorem gEq_b {i j : Bool} {st : Sto} : gEq (.bl i) (.bl j) st = some (.bl (decide (i = j)), st) := rfl
theorem gNe_i {i j : Int} {st : Sto} : gNe (.int i) (.int j) st = some (.bl (!decide (i = j)), st) := rfl
theorem gNe_s {i j : List Nat} {st : Sto} : gNe (.str i) (.str j) st = some (.bl (!decide (i = j)), st) := rfl
theorem gNe_b {i j : Bool} {st : Sto} : gNe (.bl i) (.bl j) st = some (.bl (!decide (i = j)), st) := rfl
theorem gLt_i {i j : Int} {st : Sto} : gLt (.int i) (.int j) st = some (.bl (decide (i < j)), st) := rfl
theorem gLe_i {i j : Int} {st : Sto} : gLe (.int i) (.int j) st = some (.bl (decide (i ≤ j)), st) := rfl
theorem gGt_i {i j : Int} {st : Sto} : gGt (.int i) (.int j) st = some (.bl (decide (j < i)), st) := rfl
theorem gGe_i {i j : Int} {st : Sto} : gGe (.int i) (.int j) st = some (.bl (decide (j ≤ i)), st) := rfl
theorem gAdd_s {i j : List Nat} {st : Sto} (h : i.length + j.length ≤ 16777216) : gAdd (.str i) (.str j) st = some (.str (i ++ j), st) := if_pos h
theorem und_non {n : Nat} : Va.und n .non = true := rfl
theorem und_bl {n : Nat} {b : Bool} : Va.und n (.bl b) = true := rfl
theorem und_int {n : Nat} {b : Int} : Va.und n (.int b) = true := rfl
theorem und_str {n : Nat} {b : List Nat} : Va.und n (.str b) = true := rfl
theorem und_ref {n m : Nat} : Va.und n (.ref m) = decide (m < n) := rfl
theorem und_tup {n : Nat} {ws : List Va} : Va.und n (.tup ws) = Va.undL n ws := rfl
theorem undL_nil {n : Nat} : Va.undL n [] = true := rfl
theorem undL_cons {n : Nat} {w : Va} {ws : List Va} : Va.undL n (w :: ws) = (w.und n && Va.undL n ws) := rfl
theorem fin_keep {st st' : Sto} {w : Va} (h : w.und st.length = true) (k : KeepOk st st') : fin st w st' = (w, st'.take st.length) := by
  unfold fin; rw [if_pos ⟨h, k⟩]
theorem keep_refl (st : Sto) : KeepOk st st := fun _ _ _ h => .inl h
theorem keep_app (st l : Sto) : KeepOk st (st ++ l) := fun i o hi h => .inl (by rw [List.getElem?_append_left hi] at h; exact h)
theorem fin_self {st : Sto} {w : Va} (h : w.und st.length = true) : fin st w st = (w, st) := by
  rw [fin_keep h (keep_refl st), List.take_length]
theorem fin_app {st l : Sto} {w : Va} (h : w.und st.length = true) : fin st w (st ++ l) = (w, st) := by
  rw [fin_keep h (keep_app st l)]; simp
theorem keep_set {st l : Sto} {d : Nat} {o : Ob} (h : o.und st.length = true) : KeepOk st (st.set d o ++ l) := fun i o' hi h' => by
  rw [List.getElem?_append_left (by rw [List.length_set]; exact hi)] at h'
  by_cases e : d = i
  · subst e
    rw [List.getElem?_set_self hi] at h'
    cases h'; exact .inr h
  · rw [List.getElem?_set_ne e] at h'; exact .inl h'
theorem fin_set {st l : Sto} {d : Nat} {o : Ob} {w : Va} (h : w.und st.length = true) (h2 : o.und st.length = true) : fin st w (st.set d o ++ l) = (w, st.set d o) := by
  rw [fin_keep h (keep_set h2)]; simp [List.take_append]

theorem fin_si {st : Sto} {i : Int} : fin st (.int i) st = (.int i, st) := fin_self rfl
theorem fin_sb {st : Sto} {i : Bool} : fin st (.bl i) st = (.bl i, st) := fin_self rfl
theorem fin_ss {st : Sto} {i : List Nat} : fin st (.str i) st = (.str i, st) := fin_self rfl
theorem fin_sn {st : Sto} : fin st .non st = (.non, st) := fin_self rfl
theorem fin_ai {st l : Sto} {i : Int} : fin st (.int i) (st ++ l) = (.int i, st) := fin_app rfl
theorem fin_ab {st l : Sto} {i : Bool} : fin st (.bl i) (st ++ l) = (.bl i, st) := fin_app rfl
theorem fin_as {st l : Sto} {i : List Nat} : fin st (.str i) (st ++ l) = (.str i, st) := fin_app rfl
theorem fin_an {st l : Sto} : fin st .non (st ++ l) = (.non, st) := fin_app rfl
noncomputable def c_mix : Fn := fn 3 2 (sCons (sSet 2 (eB gMod (eA gInt (aC (eB gAdd (eB gAdd (eB gMul (eV 0) (eC (.int 48271))) (eB gMul (eV 1) (eC (.int 69621)))) (eC (.int 11))) aN)) (eC (.int 2147483647))))
  (sCons (sRet (eB gMod (eB gMod (eA gInt (aC (eB gAdd (eB gAdd (eB gAdd (eB gMul (eV 2) (eV 2)) (eB gMul (eV 0) (eC (.int 40692)))) (eB gMul (eV 1) (eC (.int 7)))) (eC (.int 3))) aN)) (eC (.int 1000003))) (eC (.int 1000))))
  sNil))
def mixv (c k : Int) : Int := (((c * 48271 + k * 69621 + 11) % 2147483647 * ((c * 48271 + k * 69621 + 11) % 2147483647) + c * 40692 + k * 7 + 3) % 1000003) % 1000
theorem c_mix_eq (c k : Int) (st : Sto) : c_mix [.int c, .int k] st = some (.int (mixv c k), st) := by
  have h1 := Int.emod_nonneg (c * 48271 + k * 69621 + 11) (show (2147483647 : Int) ≠ 0 by decide)
  have h2 := Int.emod_lt_of_pos (c * 48271 + k * 69621 + 11) (show (0 : Int) < 2147483647 by decide)
  have h3 : ((c * 48271 + k * 69621 + 11) % 2147483647).natAbs < 18446744073709551616 := by omega
  simp [c_mix, eC, eV, eB, eU, aN, aC, eA, eM, eMt, bB, truth, bV, bAnd, bOr, bNot, eAnd, eOr, eNot, eIf, eTup, eLst, sNil, sCons, sSet, sAug, sEx, sRet, sRetN, sBk, sCt, sIf, sNo, gN, gsN, gsC, gT, sAsg, sFor, iA, iR1, iR2, srcOf, eLc, bYes, wip, eDic, eDic0, eDit0, pN, pC, kcs, mrg, sPut, setW, eCut, pNo, pSo, eCall, fn, hasTy, eCh, bO, keyOf, keysOf, dicAt, pickW, gIx, gInt, gAdd, gMul_r, gMod_p, h3, und_non, und_bl, und_int, und_str, und_ref, und_tup, undL_nil, undL_cons, fin_si, fin_sb, fin_ss, fin_sn, fin_ai, fin_ab, fin_as, fin_an, mixv]

/-! ### the drawing thing -/
def kRow : Key := .inr ⟨[114, 111, 119].toArray⟩
def kAt : Key := .inr ⟨[97, 116].toArray⟩
def kSeed : Key := .inr ⟨[115, 101, 101, 100].toArray⟩
/-- what stands at the draws' place: the row's place, the next draw, the seed -/
def drO (r : Nat) (a : Int) (seed : Int) : Ob := .dic [(kRow, .ref r), (kAt, .int a), (kSeed, .int seed)]
noncomputable def c_pick : Fn := fn 4 2 (sCons (sSet 2 (eB gIx (eV 0) (eC (.str [97, 116]))))
  (sCons (sPut (eV 0) (eC (.str [97, 116])) (eB gAdd (eV 2) (eC (.int 1))))
  (sCons (sSet 3 (eCall 2 c_mix (aC (eB gIx (eV 0) (eC (.str [115, 101, 101, 100]))) (aC (eV 2) aN))))
  (sCons (sIf (bB gLt (eV 2) (eA gLen (aC (eB gIx (eV 0) (eC (.str [114, 111, 119]))) aN))) (sCons (sSet 3 (eB gIx (eB gIx (eV 0) (eC (.str [114, 111, 119]))) (eV 2)))
  sNil) sNil)
  (sCons (sRet (eB gMod (eA gInt (aC (eV 3) aN)) (eV 1)))
  sNil)))))
/-- the draw at a place -/
def drawn (row : List Int) (seed : Int) (a : Nat) : Int := (row[a]?).getD (mixv seed a)
/-- the store st, with the draws at d -/
structure Dr (st : Sto) (d r : Nat) (row : List Int) (seed : Int) : Prop where
  ne : d ≠ r
  hd : d < st.length
  hr : st[r]? = some (.lst (row.map Va.int))
def dSt (st : Sto) (d r : Nat) (seed : Int) (a : Nat) : Sto := st.set d (drO r a seed)
theorem dget_at {r : Nat} {a seed : Int} : dGet [(kRow, Va.ref r), (kAt, .int a), (kSeed, .int seed)] kAt = some (.int a) := rfl
theorem dget_row {r : Nat} {a seed : Int} : dGet [(kRow, Va.ref r), (kAt, .int a), (kSeed, .int seed)] kRow = some (.ref r) := rfl
theorem dget_seed {r : Nat} {a seed : Int} : dGet [(kRow, Va.ref r), (kAt, .int a), (kSeed, .int seed)] kSeed = some (.int seed) := rfl
theorem dput_at {r : Nat} {a b seed : Int} : dPut [(kRow, Va.ref r), (kAt, .int a), (kSeed, .int seed)] kAt (.int b) = [(kRow, Va.ref r), (kAt, .int b), (kSeed, .int seed)] := rfl
theorem atI_n {α : Type} (xs : List α) (a : Nat) : atI xs (a : Int) = xs[a]? := by
  by_cases h : a < xs.length
  · exact (atI_nat (List.getElem?_eq_getElem h)).trans (List.getElem?_eq_getElem h).symm
  · rw [List.getElem?_eq_none_iff.mpr (by omega)]
    unfold atI ixN
    rw [if_pos (by omega), if_neg (by omega)]; rfl
theorem c_pick_eq {st : Sto} {d r : Nat} {row : List Int} {seed : Int} (h : Dr st d r row seed) (a : Nat) {m : Int} (hm : 0 < m) (L : Sto) :
    c_pick [.ref d, .int m] (dSt st d r seed a ++ L) = some (.int (drawn row seed a % m), dSt st d r seed (a + 1) ++ L) := by
  have e1 : ∀ b : Nat, (dSt st d r seed b ++ L)[d]? = some (drO r b seed) := fun b => by
    rw [List.getElem?_append_left (by unfold dSt; rw [List.length_set]; exact h.hd)]
    exact List.getElem?_set_self h.hd
  have hrl : r < st.length := (List.getElem?_eq_some_iff.mp h.hr).1
  have e2 : ∀ b : Nat, (dSt st d r seed b ++ L)[r]? = some (.lst (row.map Va.int)) := fun b => by
    rw [List.getElem?_append_left (by unfold dSt; rw [List.length_set]; exact hrl)]
    unfold dSt
    rw [List.getElem?_set_ne h.ne]; exact h.hr
  have e3 : (dSt st d r seed a ++ L).set d (drO r ((a : Int) + 1) seed) = dSt st d r seed (a + 1) ++ L := by
    rw [List.set_append_left _ _ (by unfold dSt; rw [List.length_set]; exact h.hd)]
    unfold dSt
    rw [List.set_set]; simp
  have k1 : keyOf (.str [97, 116]) = some kAt := rfl
  have k2 : keyOf (.str [114, 111, 119]) = some kRow := rfl
  have k3 : keyOf (.str [115, 101, 101, 100]) = some kSeed := rfl
  have g1 : ∀ b : Nat, gIx (.ref d) (.str [97, 116]) (dSt st d r seed b ++ L) = some (.int b, dSt st d r seed b ++ L) := fun b => by
    simp [gIx, e1, drO, dicAt, k1, dget_at]
  have g2 : ∀ b : Nat, gIx (.ref d) (.str [114, 111, 119]) (dSt st d r seed b ++ L) = some (.ref r, dSt st d r seed b ++ L) := fun b => by
    simp [gIx, e1, drO, dicAt, k2, dget_row]
  have g3 : ∀ b : Nat, gIx (.ref d) (.str [115, 101, 101, 100]) (dSt st d r seed b ++ L) = some (.int seed, dSt st d r seed b ++ L) := fun b => by
    simp [gIx, e1, drO, dicAt, k3, dget_seed]
  have g4 : setW (.ref d) (.str [97, 116]) (.int ((a : Int) + 1)) (dSt st d r seed a ++ L) = some (dSt st d r seed (a + 1) ++ L) := by
    unfold setW
    simp only [e1, drO]
    rw [k1]
    simp only [Option.bind_some, List.length_cons, List.length_nil]
    rw [if_pos (by decide), dput_at]
    exact congrArg some e3
  have g5 : gLen [.ref r] (dSt st d r seed (a + 1) ++ L) = some (.int row.length, dSt st d r seed (a + 1) ++ L) := by
    simp [gLen, lenW, e2]
  have g6 : gIx (.ref r) (.int a) (dSt st d r seed (a + 1) ++ L) = (row[a]?).map fun x => (.int x, dSt st d r seed (a + 1) ++ L) := by
    simp [gIx, e2, pickW, atI_n, List.getElem?_map, Option.map_map]
    cases row[a]? <;> rfl
  have hf : ∀ x : Int, fin (dSt st d r seed a ++ L) (.int x) (dSt st d r seed (a + 1) ++ L) = (.int x, dSt st d r seed (a + 1) ++ L) := fun x => by
    rw [← e3]
    have := fin_set (st := dSt st d r seed a ++ L) (l := []) (d := d) (o := drO r ((a : Int) + 1) seed) (w := .int x) rfl (by
      show (Va.und _ (.ref r) && (true && (true && true))) = true
      simp [und_ref, dSt]; omega)
    rw [List.append_nil] at this
    exact this
  by_cases hl : a < row.length
  · have q : row[a]? = some row[a] := List.getElem?_eq_getElem hl
    have hl' : (a : Int) < (row.length : Int) := by omega
    simp [c_pick, fn, sCons, sSet, eB, eV, eC, sPut, eCall, aC, aN, sIf, bB, eA, gInt, sRet, sNil, g1, g2, g3, g4, g5, g6, gAdd, c_mix_eq, gLt, hl, q, gMod_p hm, hf, drawn]
  · have q : row[a]? = none := List.getElem?_eq_none_iff.mpr (by omega)
    simp [c_pick, fn, sCons, sSet, eB, eV, eC, sPut, eCall, aC, aN, sIf, bB, eA, gInt, sRet, sNil, g1, g2, g3, g4, g5, g6, gAdd, c_mix_eq, gLt, hl, q, gMod_p hm, hf, drawn]
end
end T3
/-! T3, eleventh part: loops by what holds of them; the stream of draws -/
namespace T3
open PySem PySem.Spec PyProof.Rows L2
noncomputable section

/-- a for whose turns all go on, by what holds between them -/
theorem forL_inv {gd : Sto → Prop} {fg : Fg} {body : Sm} (Inv : Fm → Sto → Prop) (hg : ∀ fm st, Inv fm st → gd st) : ∀ (ws : List Va),
    (∀ w ∈ ws, ∀ fm st, Inv fm st → ∃ fm1 fm2 st2, fg w fm = some fm1 ∧ (body fm1 st = some (.nx, fm2, st2) ∨ body fm1 st = some (.ct, fm2, st2)) ∧ Inv fm2 st2) →
    ∀ fm st, Inv fm st → ∃ fm' st', forL gd fg body ws fm st = some (.nx, fm', st') ∧ Inv fm' st'
  | [], _, fm, st, h => ⟨fm, st, by simp only [forL]; rw [if_pos (hg fm st h)], h⟩
  | w :: ws, ht, fm, st, h => by
    obtain ⟨fm1, fm2, st2, e1, e2, h2⟩ := ht w (by simp) fm st h
    obtain ⟨fm3, st3, e3, h3⟩ := forL_inv Inv hg ws (fun w hw => ht w (List.mem_cons_of_mem _ hw)) fm2 st2 h2
    refine ⟨fm3, st3, ?_, h3⟩
    simp only [forL]
    rw [if_pos (hg fm st h), e1]
    rcases e2 with e2 | e2 <;> simp [e2, e3]
/-- the same by the number of turns that are done -/
theorem forL_num {gd : Sto → Prop} {fg : Fg} {body : Sm} (Inv : Nat → Fm → Sto → Prop) {ws : List Va} (hg : ∀ i fm st, Inv i fm st → gd st)
    (ht : ∀ i w, ws[i]? = some w → ∀ fm st, Inv i fm st → ∃ fm1 fm2 st2, fg w fm = some fm1 ∧ (body fm1 st = some (.nx, fm2, st2) ∨ body fm1 st = some (.ct, fm2, st2)) ∧ Inv (i + 1) fm2 st2) :
    ∀ fm st, Inv 0 fm st → ∃ fm' st', forL gd fg body ws fm st = some (.nx, fm', st') ∧ Inv ws.length fm' st' := by
  have key : ∀ (n i : Nat), i + n = ws.length → ∀ fm st, Inv i fm st → ∃ fm' st', forL gd fg body (ws.drop i) fm st = some (.nx, fm', st') ∧ Inv ws.length fm' st' := by
    intro n
    induction n with
    | zero =>
      intro i hi fm st h
      have : i = ws.length := by omega
      subst this
      rw [List.drop_length]
      exact ⟨fm, st, by simp only [forL]; rw [if_pos (hg _ fm st h)], h⟩
    | succ n ih =>
      intro i hi fm st h
      have hl : i < ws.length := by omega
      obtain ⟨fm1, fm2, st2, e1, e2, h2⟩ := ht i ws[i] (List.getElem?_eq_getElem hl) fm st h
      obtain ⟨fm3, st3, e3, h3⟩ := ih (i + 1) (by omega) fm2 st2 h2
      refine ⟨fm3, st3, ?_, h3⟩
      rw [List.drop_eq_getElem_cons hl]
      simp only [forL]
      rw [if_pos (hg _ fm st h), e1]
      rcases e2 with e2 | e2 <;> simp [e2, e3]
  intro fm st h
  have := key ws.length 0 (by omega) fm st h
  simpa using this
/-- a for over a list of any items: the state is told by the items -/
theorem forL_all {gd : Sto → Prop} {fg : Fg} {body : Sm} {ws : List Va} {fm : Fm} {st : Sto} {r} (h : forL gd fg body ws fm st = r) : forL gd fg body ws fm st = r := h
theorem intsOf_map : ∀ ns : List Int, intsOf (ns.map Va.int) = some ns
  | [] => rfl
  | n :: ns => by simp [intsOf, intsOf_map ns]
noncomputable def c_sloop (J : Int) : Sm := sFor (iR1 (eA gMin (aC (eA gLen (aC (eV 0) aN)) (aC (eC (.int 63)) aN)))) (gN 3) (sCons (sSet 4 (eB gIx (eV 0) (eV 3)))
  (sCons (sIf (bB gGe (eV 4) (eB gPow (eC (.int 10)) (eC (.int 18)))) (sCons (sFor (iR1 (eC (.int 60))) (gN 5) (sCons (sIf (bAnd (bB gGt (eV 4) (eC (.int 0))) (bB gLt (eA gLen (aC (eV 2) aN)) (eV 1))) (sCons (sEx (eMt "list" gApp (eV 2) (aC (eB gMod (eA gInt (aC (eV 4) aN)) (eC (.int 1000))) aN)))
  (sCons (sSet 4 (eB gDiv (eV 4) (eC (.int 1000))))
  sNil)) sNil)
  sNil))
  sNil) (sCons (sFor (iR1 (eC (.int J))) (gN 5) (sCons (sIf (bB gLt (eA gLen (aC (eV 2) aN)) (eV 1)) (sCons (sEx (eMt "list" gApp (eV 2) (aC (eCall 2 c_mix (aC (eV 4) (aC (eB gAdd (eB gMul (eC (.int 64)) (eV 5)) (eV 3)) aN))) aN)))
  sNil) sNil)
  sNil))
  sNil))
  sNil))
noncomputable def c_stream (J : Int) : Fn := fn 6 2 (sCons (sSet 2 (eLst aN))
  (sCons (c_sloop J)
  (sCons (sRet (eDic (pC (eC (.str [114, 111, 119])) (eV 2) (pC (eC (.str [97, 116])) (eC (.int 0)) (pC (eC (.str [115, 101, 101, 100])) (eB gAdd (eA gSum (aC (eV 2) aN)) (eA gLen (aC (eV 2) aN))) pN)))))
  sNil)))
theorem iR1_gen {f : Ev} {fm : Fm} {st st' : Sto} {n : Int} (h : f fm st = some (.int n, st')) (h1 : -1000000000 ≤ n ∧ n < 1000000000) : iR1 f fm st = some (⟨rngW 0 n.toNat, fun _ => True⟩, st') := by
  unfold iR1
  rw [h]
  exact if_pos h1
theorem iR1_int {f : Ev} {fm : Fm} {st st' : Sto} {n : Int} (h : f fm st = some (.int n, st')) (h0 : 0 ≤ n) (hn : n < 1000000000) : iR1 f fm st = some (⟨rngW 0 n.toNat, fun _ => True⟩, st') :=
  iR1_gen h ⟨by omega, hn⟩
theorem iR1_nat {f : Ev} {fm : Fm} {st st' : Sto} {n : Nat} (h : f fm st = some (.int (n : Int), st')) (hn : n < 1000000000) : iR1 f fm st = some (⟨rngW 0 n, fun _ => True⟩, st') := by
  have e := iR1_gen h ⟨by omega, by omega⟩
  rw [Int.toNat_natCast] at e
  exact e
theorem iR2_gen {f g : Ev} {fm : Fm} {st s1 s2 : Sto} {m n : Int} (h : f fm st = some (.int m, s1)) (h' : g fm s1 = some (.int n, s2)) (h1 : -1000000000 ≤ m ∧ m < 1000000000 ∧ -1000000000 ≤ n ∧ n < 1000000000) : iR2 f g fm st = some (⟨rngW m (n - m).toNat, fun _ => True⟩, s2) := by
  unfold iR2
  rw [h]
  simp only [Option.bind_some]
  rw [h']
  exact if_pos h1
theorem gDiv1000 {i : Int} {st : Sto} : gDiv (.int i) (.int 1000) st = some (.int (i / 1000), st) := by
  simp only [gDiv]; rw [if_pos ⟨by decide, by decide +kernel⟩]
theorem get_last {st : Sto} {o : Ob} : (st ++ [o])[st.length]? = some o := by simp
theorem set_last {st : Sto} {o u : Ob} : (st ++ [o]).set st.length u = st ++ [u] := by simp
theorem c_stream_eq {J : Int} (hJ : 0 ≤ J ∧ J < 1000) {st : Sto} {s : Nat} {ns : List Int} (hs : st[s]? = some (.rol (ns.map Va.int))) {most : Nat} (hm : most < 1000000) :
    ∃ (row : List Int) (seed : Int), c_stream J [.ref s, .int most] st = some (.ref (st.length + 1), st ++ [.lst (row.map Va.int), drO st.length 0 seed]) := by
  have hsl : s < st.length := (List.getElem?_eq_some_iff.mp hs).1
  have hs' : ∀ L : Sto, (st ++ L)[s]? = some (.rol (ns.map Va.int)) := fun L => by rw [List.getElem?_append_left hsl]; exact hs
  -- what holds between the turns
  let Inv : Fm → Sto → Prop := fun fm st1 => ∃ (row : List Int) (a b c : Option Va), row.length ≤ most ∧ fm = [some (.ref s), some (.int most), some (.ref st.length), a, b, c] ∧ st1 = st ++ [.lst (row.map Va.int)]
  let Inv2 : Option Va → Fm → Sto → Prop := fun k fm st1 => ∃ (row : List Int) (b : Int) (c : Option Va), row.length ≤ most ∧ fm = [some (.ref s), some (.int most), some (.ref st.length), k, some (.int b), c] ∧ st1 = st ++ [.lst (row.map Va.int)]
  have app : ∀ (row : List Int) (x : Int), row.length < most → gApp (.ref st.length) [.int x] (st ++ [.lst (row.map Va.int)]) = some (.non, st ++ [.lst ((row ++ [x]).map Va.int)]) := fun row x hl => by
    simp only [gApp, get_last]
    rw [if_pos (by rw [List.length_map]; omega), set_last, List.map_append]; rfl
  have hpow : gPow (.int 10) (.int 18) = fun st => some (.int 1000000000000000000, st) := by
    funext st; simp [gPow]
  obtain ⟨fm', st', e, row, a, b, c, hl, rfl, rfl⟩ : ∃ fm' st', c_sloop J [some (.ref s), some (.int most), some (.ref st.length), none, none, none] (st ++ [.lst []]) = some (.nx, fm', st') ∧ Inv fm' st' := by
    have hmin : ∃ n : Nat, n ≤ ns.length ∧ n ≤ 63 ∧ gMin [.int (ns.length : Int), .int 63] = fun st => some (.int (n : Int), st) := by
      by_cases h : (63 : Int) < ns.length
      · exact ⟨63, by omega, by omega, by funext st; simp [gMin, h]⟩
      · exact ⟨ns.length, by omega, by omega, by funext st; simp [gMin, h]⟩
    obtain ⟨n, hn1, hn2, hmin⟩ := hmin
    have hit : iR1 (eA gMin (aC (eA gLen (aC (eV 0) aN)) (aC (eC (.int 63)) aN))) [some (.ref s), some (.int most), some (.ref st.length), none, none, none] (st ++ [.lst []]) = some (⟨rngW 0 n, fun _ => True⟩, st ++ [.lst []]) := by
      have q : gLen [.ref s] (st ++ [.lst []]) = some (.int ns.length, st ++ [.lst []]) := by simp [gLen, lenW, hs']
      refine iR1_nat ?_ (by omega)
      simp only [eA, aC, eV, aN, eC, List.getElem?_cons_zero, Option.bind_some, q, hmin]
    unfold c_sloop sFor
    rw [hit]
    simp only [Option.bind_some]
    refine forL_inv Inv (fun _ _ _ => trivial) _ ?_ _ _ ⟨[], none, none, none, Nat.zero_le _, rfl, rfl⟩
    rintro w hw fm1 st1 ⟨row, a, b, c, hl, rfl, rfl⟩
    simp only [rngW, List.mem_map, List.mem_range] at hw
    obtain ⟨k, hk, rfl⟩ := hw
    have hkn : k < ns.length := by omega
    have hrest : gIx (.ref s) (.int (0 + (k : Int))) (st ++ [.lst (row.map Va.int)]) = some (.int ns[k], st ++ [.lst (row.map Va.int)]) := by
      simp [gIx, hs', pickW, atI_n, hkn]
    -- the two inner loops
    have loop1 : ∃ fm' st', forL (fun _ => True) (gN 5) (sCons (sIf (bAnd (bB gGt (eV 4) (eC (.int 0))) (bB gLt (eA gLen (aC (eV 2) aN)) (eV 1))) (sCons (sEx (eMt "list" gApp (eV 2) (aC (eB gMod (eA gInt (aC (eV 4) aN)) (eC (.int 1000))) aN)))
        (sCons (sSet 4 (eB gDiv (eV 4) (eC (.int 1000)))) sNil)) sNil) sNil) (rngW 0 60) [some (.ref s), some (.int most), some (.ref st.length), some (.int (0 + (k : Int))), some (.int ns[k]), c] (st ++ [.lst (row.map Va.int)]) = some (.nx, fm', st') ∧ Inv2 (some (.int (0 + (k : Int)))) fm' st' := by
      refine forL_inv (Inv2 (some (.int (0 + (k : Int))))) (fun _ _ _ => trivial) _ ?_ _ _ ⟨row, ns[k], c, hl, rfl, rfl⟩
      rintro w hw fm2 st2 ⟨row2, b2, c2, hl2, rfl, rfl⟩
      have hlen : gLen [.ref st.length] (st ++ [.lst (row2.map Va.int)]) = some (.int row2.length, st ++ [.lst (row2.map Va.int)]) := by simp [gLen, lenW]
      by_cases c1 : 0 < b2
      · by_cases c3 : (row2.length : Int) < most
        · have hty : hasTy "list" (.ref st.length) (st ++ [.lst (row2.map Va.int)]) = true := by simp [hasTy]
          refine ⟨_, [some (.ref s), some (.int most), some (.ref st.length), some (.int (0 + (k : Int))), some (.int (b2 / 1000)), some w], st ++ [.lst ((row2 ++ [b2 % 1000]).map Va.int)], rfl, .inl ?_, row2 ++ [b2 % 1000], _, _, by simp; omega, rfl, rfl⟩
          simp [sCons, sIf, bAnd, bB, eV, eC, gGt, c1, eA, aC, aN, hlen, gLt, c3, sEx, eMt, hty, gInt, eB, gMod_p, app _ _ (show row2.length < most by omega), sSet, gDiv1000, sNil]
        · refine ⟨_, [some (.ref s), some (.int most), some (.ref st.length), some (.int (0 + (k : Int))), some (.int b2), some w], _, rfl, .inl ?_, row2, _, _, hl2, rfl, rfl⟩
          simp [sCons, sIf, bAnd, bB, eV, eC, gGt, c1, eA, aC, aN, hlen, gLt, c3, sNil]
      · refine ⟨_, [some (.ref s), some (.int most), some (.ref st.length), some (.int (0 + (k : Int))), some (.int b2), some w], _, rfl, .inl ?_, row2, _, _, hl2, rfl, rfl⟩
        simp [sCons, sIf, bAnd, bB, eV, eC, gGt, c1, sNil]
    have loop2 : ∃ fm' st', forL (fun _ => True) (gN 5) (sCons (sIf (bB gLt (eA gLen (aC (eV 2) aN)) (eV 1)) (sCons (sEx (eMt "list" gApp (eV 2) (aC (eCall 2 c_mix (aC (eV 4) (aC (eB gAdd (eB gMul (eC (.int 64)) (eV 5)) (eV 3)) aN))) aN))) sNil) sNil)
        sNil) (rngW 0 J.toNat) [some (.ref s), some (.int most), some (.ref st.length), some (.int (0 + (k : Int))), some (.int ns[k]), c] (st ++ [.lst (row.map Va.int)]) = some (.nx, fm', st') ∧ Inv2 (some (.int (0 + (k : Int)))) fm' st' := by
      refine forL_inv (Inv2 (some (.int (0 + (k : Int))))) (fun _ _ _ => trivial) _ ?_ _ _ ⟨row, ns[k], c, hl, rfl, rfl⟩
      rintro w hw fm2 st2 ⟨row2, b2, c2, hl2, rfl, rfl⟩
      simp only [rngW, List.mem_map, List.mem_range] at hw
      obtain ⟨j, hj, rfl⟩ := hw
      have hlen : gLen [.ref st.length] (st ++ [.lst (row2.map Va.int)]) = some (.int row2.length, st ++ [.lst (row2.map Va.int)]) := by simp [gLen, lenW]
      by_cases c3 : (row2.length : Int) < most
      · have hty : hasTy "list" (.ref st.length) (st ++ [.lst (row2.map Va.int)]) = true := by simp [hasTy]
        refine ⟨_, [some (.ref s), some (.int most), some (.ref st.length), some (.int (0 + (k : Int))), some (.int b2), some (.int (0 + (j : Int)))], st ++ [.lst ((row2 ++ [mixv b2 (64 * (0 + (j : Int)) + (0 + (k : Int)))]).map Va.int)], rfl, .inl ?_, row2 ++ [mixv b2 (64 * (0 + (j : Int)) + (0 + (k : Int)))], _, _, by simp; omega, rfl, rfl⟩
        have hmul : ∀ (x : Int) (st : Sto), gMul (.int 64) (.int x) st = some (.int (64 * x), st) := fun x st => gMul_l (by decide)
        simp [sCons, sIf, bB, eV, eC, eA, aC, aN, hlen, gLt, c3, sEx, eMt, hty, eCall, eB, hmul, gAdd, c_mix_eq, app _ _ (show row2.length < most by omega), sNil]
      · refine ⟨_, [some (.ref s), some (.int most), some (.ref st.length), some (.int (0 + (k : Int))), some (.int b2), some (.int (0 + (j : Int)))], _, rfl, .inl ?_, row2, _, _, hl2, rfl, rfl⟩
        simp [sCons, sIf, bB, eV, eC, eA, aC, aN, hlen, gLt, c3, sNil]
    by_cases cb : (1000000000000000000 : Int) ≤ ns[k]
    · obtain ⟨fm', st', e, row', b', c', hl', rfl, rfl⟩ := loop1
      refine ⟨_, [some (.ref s), some (.int most), some (.ref st.length), some (.int (0 + (k : Int))), some (.int b'), c'], st ++ [.lst (row'.map Va.int)], rfl, .inl ?_, row', _, _, _, hl', rfl, rfl⟩
      simp only [List.set_cons_succ, List.set_cons_zero, sCons, sSet, eB, eV, List.getElem?_cons_zero, List.getElem?_cons_succ, Option.bind_some, hrest, sIf, bB, eC, hpow, gGe, cb, decide_true, if_true, sFor]
      rw [iR1_int (n := 60) rfl (by decide) (by decide)]
      simp only [Option.bind_some]
      rw [show ((60 : Int)).toNat = 60 from rfl, e]
      rfl
    · obtain ⟨fm', st', e, row', b', c', hl', rfl, rfl⟩ := loop2
      refine ⟨_, [some (.ref s), some (.int most), some (.ref st.length), some (.int (0 + (k : Int))), some (.int b'), c'], st ++ [.lst (row'.map Va.int)], rfl, .inl ?_, row', _, _, _, hl', rfl, rfl⟩
      simp only [List.set_cons_succ, List.set_cons_zero, sCons, sSet, eB, eV, List.getElem?_cons_zero, List.getElem?_cons_succ, Option.bind_some, hrest, sIf, bB, eC, hpow, gGe, cb, decide_false, Bool.false_eq_true, if_false, sFor]
      rw [iR1_int (n := J) rfl (by omega) (by omega)]
      simp only [Option.bind_some]
      rw [e]
      rfl
  refine ⟨row, row.sum + row.length, ?_⟩
  have hl0 : gLen [.ref st.length] (st ++ [.lst (row.map Va.int), .dic []]) = some (.int row.length, st ++ [.lst (row.map Va.int), .dic []]) := by simp [gLen, lenW]
  have hs0 : gSum [.ref st.length] (st ++ [.lst (row.map Va.int), .dic []]) = some (.int row.sum, st ++ [.lst (row.map Va.int), .dic []]) := by simp [gSum, itemsOf, intsOf_map]
  have hk : kcs [(Va.str [114, 111, 119], Va.ref st.length), (.str [97, 116], .int 0), (.str [115, 101, 101, 100], .int (row.sum + row.length))] = some [(kRow, Va.ref st.length), (kAt, .int 0), (kSeed, .int (row.sum + row.length))] := rfl
  have hmr : mrg [] [(kRow, Va.ref st.length), (kAt, .int 0), (kSeed, .int (row.sum + row.length))] = [(kRow, Va.ref st.length), (kAt, .int 0), (kSeed, .int (row.sum + row.length))] := rfl
  have hset : (st ++ [Ob.lst (row.map Va.int), .dic []]).set (st.length + 1) (.dic [(kRow, Va.ref st.length), (kAt, .int 0), (kSeed, .int (row.sum + row.length))]) = st ++ [.lst (row.map Va.int), .dic [(kRow, Va.ref st.length), (kAt, .int 0), (kSeed, .int (row.sum + row.length))]] := by
    rw [List.set_append_right _ _ (by omega)]
    simp
  have hfin : ∀ l, fin st (.ref (st.length + 1)) l = (.ref (st.length + 1), l) := fun l => by
    unfold fin
    rw [if_neg (fun h => by have := h.1; rw [und_ref, decide_eq_true_eq] at this; omega)]
  simp [c_stream, fn, sCons, sSet, eLst, aN, e, sRet, eDic, pC, pN, eC, eV, eB, eA, aC, hs0, hl0, gAdd, hk, hmr, hset, hfin, sNil, drO]
end
end T3
/-! T3, twelfth part: lists that are drawn -/
namespace T3
open PySem PySem.Spec PyProof.Rows L2
noncomputable section

theorem dSt_len {st : Sto} {d r a : Nat} {seed : Int} : (dSt st d r seed a).length = st.length := by unfold dSt; rw [List.length_set]
theorem get_dl {st L : Sto} {d r a : Nat} {seed : Int} {o : Ob} : (dSt st d r seed a ++ (L ++ [o]))[st.length + L.length]? = some o := by
  rw [List.getElem?_append_right (by rw [dSt_len]; omega), dSt_len, List.getElem?_append_right (by omega)]
  simp
theorem set_dl {st L : Sto} {d r a : Nat} {seed : Int} {o u : Ob} : (dSt st d r seed a ++ (L ++ [o])).set (st.length + L.length) u = dSt st d r seed a ++ (L ++ [u]) := by
  rw [List.set_append_right _ _ (by rw [dSt_len]; omega), dSt_len, List.set_append_right _ _ (by omega)]
  simp
theorem lcD {st : Sto} {d r : Nat} {seed : Int} {gd : Sto → Prop} {fg : Fg} {fe : Ev} {fm : Fm} (L : Sto) (P : Va → Va → Prop) (hg : ∀ s, gd s) : ∀ (ws : List Va),
    (∀ w ∈ ws, ∃ fm1, fg w fm = some fm1 ∧ ∀ a L', ∃ y a', fe fm1 (dSt st d r seed a ++ L') = some (y, dSt st d r seed a' ++ L') ∧ P w y) →
    ∀ a (acc : List Va), acc.length + ws.length < 16777216 → ∃ ys a', Paired P ws ys ∧ lcL gd fg bYes fe (st.length + L.length) ws fm (dSt st d r seed a ++ (L ++ [.lst acc])) = some (dSt st d r seed a' ++ (L ++ [.lst (acc ++ ys)]))
  | [], _, a, acc, _ => ⟨[], a, .nil, by simp only [lcL]; rw [if_pos (hg _), List.append_nil]⟩
  | w :: ws, h, a, acc, hz => by
    obtain ⟨fm1, e1, hfe⟩ := h w (by simp)
    obtain ⟨y, a1, e2, py⟩ := hfe a (L ++ [.lst acc])
    rw [List.length_cons] at hz
    obtain ⟨ys, a2, pys, e3⟩ := lcD L P hg ws (fun w hw => h w (List.mem_cons_of_mem _ hw)) a1 (acc ++ [y]) (by rw [List.length_append, List.length_singleton]; omega)
    refine ⟨y :: ys, a2, .cons py pys, ?_⟩
    simp only [lcL]
    rw [if_pos (hg _), e1]
    simp only [Option.bind_some, bYes, if_true]
    rw [e2]
    simp only [Option.bind_some, get_dl]
    rw [if_pos (by omega), set_dl, e3, List.append_assoc]
    rfl
theorem eLcD {st : Sto} {d r : Nat} {seed : Int} {fi : Fi} {fg : Fg} {fe : Ev} {vs : List Nat} {fm : Fm} (L : Sto) (P : Va → Va → Prop) {ws : List Va} {a : Nat} (hi : fi fm (dSt st d r seed a ++ L) = some (⟨ws, fun _ => True⟩, dSt st d r seed a ++ L))
    (h : ∀ w ∈ ws, ∃ fm1, fg w (wip fm vs) = some fm1 ∧ ∀ a L', ∃ y a', fe fm1 (dSt st d r seed a ++ L') = some (y, dSt st d r seed a' ++ L') ∧ P w y) (hz : ws.length < 16777216) :
    ∃ ys a', Paired P ws ys ∧ eLc fi fg bYes fe vs fm (dSt st d r seed a ++ L) = some (.ref (st.length + L.length), dSt st d r seed a' ++ (L ++ [.lst ys])) := by
  obtain ⟨ys, a', p, e⟩ := lcD (st := st) (d := d) (r := r) (seed := seed) (gd := fun _ => True) L P (fun _ => trivial) ws h a [] (by simpa using hz)
  refine ⟨ys, a', p, ?_⟩
  unfold eLc
  rw [hi]
  simp only [Option.bind_some, List.append_assoc]
  have : (dSt st d r seed a ++ L).length = st.length + L.length := by rw [List.length_append, dSt_len]
  rw [this, e]
  simp
/-- what a drawing def leaves: its temporary things are gone -/
theorem fin_d {st L : Sto} {d r a b : Nat} {seed : Int} {w : Va} (hr : r < st.length) (h : w.und (st.length) = true) (M : Sto) : fin (dSt st d r seed a ++ L) w (dSt st d r seed b ++ (L ++ M)) = (w, dSt st d r seed b ++ L) := by
  have hl : (dSt st d r seed a ++ L).length = st.length + L.length := by rw [List.length_append, dSt_len]
  have und_le : ∀ (w : Va), w.und st.length = true → w.und (st.length + L.length) = true := by
    intro w
    have key : (∀ w : Va, w.und st.length = true → w.und (st.length + L.length) = true) := by
      intro w
      induction w using Va.rec (motive_2 := fun ws => Va.undL st.length ws = true → Va.undL (st.length + L.length) ws = true) with
      | non => intro _; rfl
      | bl _ => intro _; rfl
      | int _ => intro _; rfl
      | str _ => intro _; rfl
      | ty _ => intro _; rfl
      | ref n => intro h; rw [und_ref, decide_eq_true_eq] at h ⊢; omega
      | tup ws ih => intro h; rw [und_tup] at h ⊢; exact ih h
      | ktp ws ih => intro h; exact ih h
      | nil => rfl
      | cons w ws h1 h2 =>
        rename_i h
        rw [undL_cons, Bool.and_eq_true] at h ⊢
        exact ⟨h1 h.1, h2 h.2⟩
    exact key w
  rw [fin_keep (by rw [hl]; exact und_le w h)]
  · congr 1
    rw [hl, ← List.append_assoc, List.take_append_of_le_length (by rw [List.length_append, dSt_len]; omega), List.take_of_length_le (by rw [List.length_append, dSt_len]; omega)]
  · intro i o hi ho
    rw [hl] at hi
    by_cases h1 : i < st.length
    · rw [List.getElem?_append_left (by rw [dSt_len]; exact h1)] at ho ⊢
      unfold dSt at ho ⊢
      by_cases e : d = i
      · subst e
        rw [List.getElem?_set_self h1] at ho ⊢
        cases ho
        refine .inr ?_
        rw [List.length_append, List.length_set]
        show (Va.und _ (.ref r) && (true && (true && true))) = true
        rw [und_ref]
        simp; omega
      · rw [List.getElem?_set_ne e] at ho ⊢
        exact .inl ho
    · rw [List.getElem?_append_right (by rw [dSt_len]; omega), dSt_len] at ho ⊢
      rw [List.getElem?_append_left (by omega)] at ho
      exact .inl ho
theorem Dr.rlt {st : Sto} {d r : Nat} {row : List Int} {seed : Int} (h : Dr st d r row seed) : r < st.length := (List.getElem?_eq_some_iff.mp h.hr).1
/-- a draw, by its bounds -/
theorem pick_D {st : Sto} {d r : Nat} {row : List Int} {seed : Int} (h : Dr st d r row seed) (a : Nat) {m : Int} (hm : 0 < m) (L : Sto) :
    ∃ (x : Int) (b : Nat), 0 ≤ x ∧ x < m ∧ c_pick [.ref d, .int m] (dSt st d r seed a ++ L) = some (.int x, dSt st d r seed b ++ L) :=
  ⟨_, a + 1, Int.emod_nonneg _ (by omega), Int.emod_lt_of_pos _ hm, c_pick_eq h a hm L⟩
end
end T3
/-! T3, twelfth part: the mirrors by what is wanted behind them -/
namespace T3
open PySem PySem.Spec PyProof.Rows L2
noncomputable section

def Wp {α : Type} (x : Option (α × Sto)) (Q : α → Sto → Prop) : Prop := ∃ w st', x = some (w, st') ∧ Q w st'
def Ws (x : Option (Fl × Fm × Sto)) (N : Fm → Sto → Prop) (R : Va → Sto → Prop) (B C : Fm → Sto → Prop) : Prop :=
  ∃ fl fm st, x = some (fl, fm, st) ∧ match fl with
    | .nx => N fm st
    | .rt v => R v st
    | .bk => B fm st
    | .ct => C fm st
def If (b : Bool) (A B : Prop) : Prop := (b = true → A) ∧ (b = false → B)
theorem If.t {A B : Prop} (h : A) : If true A B := ⟨fun _ => h, fun e => Bool.noConfusion e⟩
theorem If.f {A B : Prop} (h : B) : If false A B := ⟨fun e => Bool.noConfusion e, fun _ => h⟩
theorem If.d {p : Prop} [Decidable p] {A B : Prop} (h1 : p → A) (h2 : ¬p → B) : If (decide p) A B := ⟨fun e => h1 (of_decide_eq_true e), fun e => h2 (of_decide_eq_false e)⟩
theorem If.n {b : Bool} {A B : Prop} (h : If b B A) : If (!b) A B := by
  cases b
  · exact If.t (h.2 rfl)
  · exact If.f (h.1 rfl)
theorem If.dt {p : Prop} [Decidable p] {A B : Prop} (h : p) (a : A) : If (decide p) A B := If.d (fun _ => a) (fun n => absurd h n)
theorem If.df {p : Prop} [Decidable p] {A B : Prop} (h : ¬p) (a : B) : If (decide p) A B := If.d (fun n => absurd n h) (fun _ => a)
section
variable {α : Type} {fm : Fm} {st : Sto} {Q : Va → Sto → Prop} {QL : List Va → Sto → Prop} {QB : Bool → Sto → Prop} {N : Fm → Sto → Prop} {R : Va → Sto → Prop} {B C : Fm → Sto → Prop} {w : Va} {i : Nat}
theorem wp_of {x : Option (α × Sto)} {w : α} {st' : Sto} {Q : α → Sto → Prop} (h : x = some (w, st')) (q : Q w st') : Wp x Q := ⟨w, st', h, q⟩
theorem Wp.imp {x : Option (α × Sto)} {Q Q' : α → Sto → Prop} (h : Wp x Q) (k : ∀ w s, Q w s → Q' w s) : Wp x Q' := by
  obtain ⟨w, s, e, q⟩ := h
  exact ⟨w, s, e, k w s q⟩
theorem wp_bind {β : Type} {x : Option (α × Sto)} {f : α × Sto → Option (β × Sto)} {Q : β → Sto → Prop} (h : Wp x fun w s => Wp (f (w, s)) Q) : Wp (x.bind f) Q := by
  obtain ⟨w, s, e, w2, s2, e2, q⟩ := h
  exact ⟨w2, s2, by rw [e]; exact e2, q⟩
theorem ws_of {x : Option (Fl × Fm × Sto)} (h : x = some (.nx, fm, st)) (q : N fm st) : Ws x N R B C := ⟨_, _, _, h, q⟩
theorem we_c (h : Q w st) : Wp (eC w fm st) Q := ⟨_, _, rfl, h⟩
theorem we_v (e : fm[i]? = some (some w)) (h : Q w st) : Wp (eV i fm st) Q := ⟨w, st, by unfold eV; rw [e], h⟩
theorem we_b {g : Va → Va → Sto → Option (Va × Sto)} {f1 f2 : Ev} (h : Wp (f1 fm st) fun a s => Wp (f2 fm s) fun b s' => Wp (g a b s') Q) : Wp (eB g f1 f2 fm st) Q := wp_bind (h.imp fun _ _ h => wp_bind h)
theorem we_u {g : Va → Sto → Option (Va × Sto)} {f1 : Ev} (h : Wp (f1 fm st) fun a s => Wp (g a s) Q) : Wp (eU g f1 fm st) Q := wp_bind h
theorem wa_n (h : QL [] st) : Wp (aN fm st) QL := ⟨_, _, rfl, h⟩
theorem wa_c {f : Ev} {g : Evs} (h : Wp (f fm st) fun a s => Wp (g fm s) fun bs s' => QL (a :: bs) s') : Wp (aC f g fm st) QL := wp_bind (h.imp fun _ _ h => wp_bind (h.imp fun _ _ h => ⟨_, _, rfl, h⟩))
theorem we_a {g : List Va → Sto → Option (Va × Sto)} {fa : Evs} (h : Wp (fa fm st) fun ws s => Wp (g ws s) Q) : Wp (eA g fa fm st) Q := wp_bind h
theorem we_mt {T : String} {g : Va → List Va → Sto → Option (Va × Sto)} {f : Ev} {fa : Evs} (h : Wp (f fm st) fun a s => hasTy T a s = true ∧ Wp (fa fm s) fun ws s' => Wp (g a ws s') Q) : Wp (eMt T g f fa fm st) Q :=
  wp_bind (h.imp fun a s h => by dsimp only; rw [if_pos h.1]; exact wp_bind h.2)
theorem we_call {np : Nat} {k : Fn} {fa : Evs} (h : Wp (fa fm st) fun ws s => ws.length = np ∧ Wp (k ws s) Q) : Wp (eCall np k fa fm st) Q :=
  wp_bind (h.imp fun a s h => by dsimp only; rw [if_pos h.1]; exact h.2)
theorem we_tup {fa : Evs} (h : Wp (fa fm st) fun ws s => ws.length ≤ 16777216 ∧ Q (.tup ws) s) : Wp (eTup fa fm st) Q :=
  wp_bind (h.imp fun a s h => by dsimp only; rw [if_pos h.1]; exact ⟨_, _, rfl, h.2⟩)
theorem we_lst {fa : Evs} (h : Wp (fa fm st) fun ws s => ws.length ≤ 16777216 ∧ Q (.ref s.length) (s ++ [.lst ws])) : Wp (eLst fa fm st) Q :=
  wp_bind (h.imp fun a s h => by dsimp only; rw [if_pos h.1]; exact ⟨_, _, rfl, h.2⟩)
theorem we_not {f : Ev} (h : Wp (f fm st) fun a s => ∃ b, a = .bl b ∧ Q (.bl (!b)) s) : Wp (eNot f fm st) Q :=
  wp_bind (h.imp fun a s ⟨b, e, h⟩ => by subst e; exact ⟨_, _, rfl, h⟩)
theorem we_if {c : Et} {f g : Ev} (h : Wp (c fm st) fun b s => If b (Wp (f fm s) Q) (Wp (g fm s) Q)) : Wp (eIf c f g fm st) Q :=
  wp_bind (h.imp fun b s h => by dsimp only; cases b; exact h.2 rfl; exact h.1 rfl)
theorem we_and {f g : Ev} (h : Wp (f fm st) fun a s => ∃ b, a = .bl b ∧ If b (Wp (g fm s) Q) (Q (.bl false) s)) : Wp (eAnd f g fm st) Q :=
  wp_bind (h.imp fun a s ⟨b, e, h⟩ => by subst e; cases b; exact ⟨_, _, rfl, h.2 rfl⟩; exact h.1 rfl)
theorem we_or {f g : Ev} (h : Wp (f fm st) fun a s => ∃ b, a = .bl b ∧ If b (Q (.bl true) s) (Wp (g fm s) Q)) : Wp (eOr f g fm st) Q :=
  wp_bind (h.imp fun a s ⟨b, e, h⟩ => by subst e; cases b; exact h.2 rfl; exact ⟨_, _, rfl, h.1 rfl⟩)
theorem we_cut {f : Ev} {a b : Ep} (h : Wp (f fm st) fun w s => Wp (a fm s) fun lo s' => Wp (b fm s') fun hi s'' => Wp (gCut w lo hi s'') Q) : Wp (eCut f a b fm st) Q := wp_bind (h.imp fun _ _ h => wp_bind (h.imp fun _ _ h => wp_bind h))
theorem wo_n {Q : Option Int → Sto → Prop} (h : Q none st) : Wp (pNo fm st) Q := ⟨_, _, rfl, h⟩
theorem wo_s {f : Ev} {Q : Option Int → Sto → Prop} (h : Wp (f fm st) fun a s => ∃ k, a = .int k ∧ Q (some k) s) : Wp (pSo f fm st) Q := wp_bind (h.imp fun a s ⟨k, e, h⟩ => by subst e; exact ⟨_, _, rfl, h⟩)
theorem wb_b {g : Va → Va → Sto → Option (Va × Sto)} {f1 f2 : Ev} (h : Wp (f1 fm st) fun a s => Wp (f2 fm s) fun b s' => Wp (g a b s') fun r s'' => ∃ b, r = .bl b ∧ QB b s'') : Wp (bB g f1 f2 fm st) QB :=
  wp_bind (h.imp fun _ _ h => wp_bind (h.imp fun _ _ h => wp_bind (h.imp fun a s ⟨b, e, h⟩ => by subst e; exact ⟨_, _, rfl, h⟩)))
theorem wb_v {f : Ev} (h : Wp (f fm st) fun a s => ∃ b, truth a s = some b ∧ QB b s) : Wp (bV f fm st) QB :=
  wp_bind (h.imp fun a s ⟨b, e, h⟩ => ⟨b, s, by simp only [e, Option.bind_some], h⟩)
theorem wb_o {f : Ev} (h : Wp (f fm st) fun a s => ∃ b, a = .bl b ∧ QB b s) : Wp (bO f fm st) QB :=
  wp_bind (h.imp fun a s ⟨b, e, h⟩ => by subst e; exact ⟨_, _, rfl, h⟩)
theorem wb_and {f g : Et} (h : Wp (f fm st) fun b s => If b (Wp (g fm s) QB) (QB false s)) : Wp (bAnd f g fm st) QB :=
  wp_bind (h.imp fun b s h => by cases b; exact ⟨_, _, rfl, h.2 rfl⟩; exact h.1 rfl)
theorem wb_or {f g : Et} (h : Wp (f fm st) fun b s => If b (QB true s) (Wp (g fm s) QB)) : Wp (bOr f g fm st) QB :=
  wp_bind (h.imp fun b s h => by cases b; exact h.2 rfl; exact ⟨_, _, rfl, h.1 rfl⟩)
theorem wb_not {f : Et} (h : Wp (f fm st) fun b s => QB (!b) s) : Wp (bNot f fm st) QB := wp_bind (h.imp fun b s h => ⟨_, _, rfl, h⟩)
theorem wb_yes (h : QB true st) : Wp (bYes fm st) QB := ⟨_, _, rfl, h⟩
theorem we_ch {g g' : Va → Va → Sto → Option (Va × Sto)} {f1 f2 f3 : Ev} (h : Wp (f1 fm st) fun a s => Wp (f2 fm s) fun b s' => Wp (g a b s') fun r s2 => ∃ c, r = .bl c ∧ If c (Wp (f3 fm s2) fun d s3 => Wp (g' b d s3) Q) (Q (.bl false) s2)) : Wp (eCh g g' f1 f2 f3 fm st) Q :=
  wp_bind (h.imp fun _ _ h => wp_bind (h.imp fun _ _ h => wp_bind (h.imp fun a s ⟨b, e, h⟩ => by
    subst e
    cases b
    · exact ⟨_, _, rfl, h.2 rfl⟩
    · exact wp_bind (h.1 rfl))))
theorem wx_n {Q : List (Va × Va) → Sto → Prop} (h : Q [] st) : Wp (pN fm st) Q := ⟨_, _, rfl, h⟩
theorem wx_c {f g : Ev} {r : Eps} {Q : List (Va × Va) → Sto → Prop} (h : Wp (f fm st) fun a s => Wp (g fm s) fun b s' => Wp (r fm s') fun l s'' => Q ((a, b) :: l) s'') : Wp (pC f g r fm st) Q :=
  wp_bind (h.imp fun _ _ h => wp_bind (h.imp fun _ _ h => wp_bind (h.imp fun _ _ h => ⟨_, _, rfl, h⟩)))
-- statements
theorem Ws.imp {x : Option (Fl × Fm × Sto)} {N' : Fm → Sto → Prop} {R' : Va → Sto → Prop} {B' C' : Fm → Sto → Prop} (h : Ws x N R B C) (n : ∀ f s, N f s → N' f s) (r : ∀ f s, R f s → R' f s) (b : ∀ f s, B f s → B' f s) (c : ∀ f s, C f s → C' f s) : Ws x N' R' B' C' := by
  obtain ⟨fl, fm, s, e, q⟩ := h
  refine ⟨fl, fm, s, e, ?_⟩
  cases fl
  · exact n _ _ q
  · exact r _ _ q
  · exact b _ _ q
  · exact c _ _ q
theorem ss_n (h : N fm st) : Ws (sNil fm st) N R B C := ⟨_, _, _, rfl, h⟩
theorem ss_c {f g : Sm} (h : Ws (f fm st) (fun fm' s => Ws (g fm' s) N R B C) R B C) : Ws (sCons f g fm st) N R B C := by
  obtain ⟨fl, fm', s, e, q⟩ := h
  unfold sCons
  rw [e]
  cases fl
  · exact q
  · exact ⟨_, _, _, rfl, q⟩
  · exact ⟨_, _, _, rfl, q⟩
  · exact ⟨_, _, _, rfl, q⟩
theorem ws_bind {β : Type} {x : Option (β × Sto)} {f : β × Sto → Option (Fl × Fm × Sto)} (h : Wp x fun w s => Ws (f (w, s)) N R B C) : Ws (x.bind f) N R B C := by
  obtain ⟨w, s, e, h⟩ := h
  rw [e]; exact h
theorem ss_set {f : Ev} (h : Wp (f fm st) fun w s => N (fm.set i (some w)) s) : Ws (sSet i f fm st) N R B C := ws_bind (h.imp fun _ _ h => ⟨_, _, _, rfl, h⟩)
theorem ss_ex {f : Ev} (h : Wp (f fm st) fun w s => N fm s) : Ws (sEx f fm st) N R B C := ws_bind (h.imp fun _ _ h => ⟨_, _, _, rfl, h⟩)
theorem ss_ret {f : Ev} (h : Wp (f fm st) fun w s => R w s) : Ws (sRet f fm st) N R B C := ws_bind (h.imp fun _ _ h => ⟨_, _, _, rfl, h⟩)
theorem ss_retN (h : R .non st) : Ws (sRetN fm st) N R B C := ⟨_, _, _, rfl, h⟩
theorem ss_bk (h : B fm st) : Ws (sBk fm st) N R B C := ⟨_, _, _, rfl, h⟩
theorem ss_ct (h : C fm st) : Ws (sCt fm st) N R B C := ⟨_, _, _, rfl, h⟩
theorem ss_if {c : Et} {f g : Sm} (h : Wp (c fm st) fun b s => If b (Ws (f fm s) N R B C) (Ws (g fm s) N R B C)) : Ws (sIf c f g fm st) N R B C :=
  ws_bind (h.imp fun b s h => by dsimp only; cases b; exact h.2 rfl; exact h.1 rfl)
theorem ss_asg {fg : Fg} {f : Ev} (h : Wp (f fm st) fun w s => ∃ fm', fg w fm = some fm' ∧ N fm' s) : Ws (sAsg fg f fm st) N R B C :=
  ws_bind (h.imp fun b s ⟨fm', e, h⟩ => ⟨.nx, fm', s, by simp only [e, Option.bind_some], h⟩)
theorem ss_put {fo fi fv : Ev} (h : Wp (fv fm st) fun v s => Wp (fo fm s) fun o s' => Wp (fi fm s') fun i s'' => ∃ s3, setW o i v s'' = some s3 ∧ N fm s3) : Ws (sPut fo fi fv fm st) N R B C := by
  obtain ⟨v, s, e, o, s', e', i, s'', e'', s3, e3, h⟩ := h
  exact ⟨.nx, fm, s3, by simp only [sPut, e, e', e'', e3, Option.bind_some, Option.map_some], h⟩
/-- a for's turns -/
def Wl (gd : Sto → Prop) (fg : Fg) (body : Sm) (ws : List Va) (fm : Fm) (st : Sto) (N : Fm → Sto → Prop) (R : Va → Sto → Prop) : Prop := Ws (forL gd fg body ws fm st) N R (fun _ _ => False) (fun _ _ => False)
theorem ss_for {fi : Fi} {fg : Fg} {body : Sm} (h : Wp (fi fm st) fun S s => Wl S.gd fg body S.ws fm s N R) : Ws (sFor fi fg body fm st) N R B C :=
  ws_bind (h.imp fun S s h => Ws.imp h (fun _ _ h => h) (fun _ _ h => h) (fun _ _ h => h.elim) (fun _ _ h => h.elim))
theorem wl_nil {gd : Sto → Prop} {fg : Fg} {body : Sm} (g : gd st) (h : N fm st) : Wl gd fg body [] fm st N R := ⟨.nx, fm, st, by simp only [forL]; rw [if_pos g], h⟩
theorem wl_cons {gd : Sto → Prop} {fg : Fg} {body : Sm} {w : Va} {ws : List Va} {fm1 : Fm} (g : gd st) (e : fg w fm = some fm1) (h : Ws (body fm1 st) (fun fm' s => Wl gd fg body ws fm' s N R) R N (fun fm' s => Wl gd fg body ws fm' s N R)) : Wl gd fg body (w :: ws) fm st N R := by
  obtain ⟨fl, fm2, s, e2, q⟩ := h
  unfold Wl
  simp only [forL]
  rw [if_pos g, e, Option.bind_some, e2]
  cases fl
  · exact q
  · exact ⟨_, _, _, rfl, q⟩
  · exact ⟨_, _, _, rfl, q⟩
  · exact q
/-- by what holds between the turns -/
theorem wl_inv {gd : Sto → Prop} {fg : Fg} {body : Sm} (Inv : Nat → Fm → Sto → Prop) {ws : List Va} (hg : ∀ i fm st, Inv i fm st → gd st) (h0 : Inv 0 fm st)
    (ht : ∀ i w, ws[i]? = some w → ∀ fm st, Inv i fm st → ∃ fm1, fg w fm = some fm1 ∧ Ws (body fm1 st) (Inv (i + 1)) R N (Inv (i + 1)))
    (hN : ∀ fm st, Inv ws.length fm st → N fm st) : Wl gd fg body ws fm st N R := by
  have key : ∀ (n i : Nat), i + n = ws.length → ∀ fm st, Inv i fm st → Wl gd fg body (ws.drop i) fm st N R := by
    intro n
    induction n with
    | zero =>
      intro i hi fm st h
      have : i = ws.length := by omega
      subst this
      rw [List.drop_length]
      exact wl_nil (hg _ fm st h) (hN _ _ h)
    | succ n ih =>
      intro i hi fm st h
      have hl : i < ws.length := by omega
      obtain ⟨fm1, e1, h1⟩ := ht i ws[i] (List.getElem?_eq_getElem hl) fm st h
      rw [List.drop_eq_getElem_cons hl]
      exact wl_cons (hg _ fm st h) e1 (h1.imp (fun f s h => ih (i + 1) (by omega) f s h) (fun _ _ h => h) (fun _ _ h => h) (fun f s h => ih (i + 1) (by omega) f s h))
  exact key ws.length 0 (by omega) fm st h0
/-- a while, by a measure -/
theorem ss_wh {c : Et} {body : Sm} (Inv : Nat → Fm → Sto → Prop) (m : Nat) (h0 : Inv m fm st)
    (ht : ∀ m fm st, Inv m fm st → Wp (c fm st) fun b s => If b (Ws (body fm s) (fun fm' s' => ∃ k, k < m ∧ Inv k fm' s') R N (fun fm' s' => ∃ k, k < m ∧ Inv k fm' s')) (N fm s)) : Ws (sWh c body fm st) N R B C := by
  have key : ∀ (n m : Nat), m < n → ∀ fm st, Inv m fm st → ∃ fl fm' st', whL c body n fm st = some (fl, fm', st') ∧ (match fl with | .nx => N fm' st' | .rt v => R v st' | _ => False) := by
    intro n
    induction n with
    | zero => intro m hm; omega
    | succ n ih =>
      intro m hm fm st h
      obtain ⟨b, s, e, q⟩ := ht m fm st h
      simp only [whL, e, Option.bind_some]
      cases b with
      | false => exact ⟨.nx, fm, s, rfl, q.2 rfl⟩
      | true =>
        obtain ⟨fl, fm2, s2, e2, q2⟩ := q.1 rfl
        simp only [if_true, e2, Option.bind_some]
        cases fl with
        | nx =>
          obtain ⟨k, hk, h2⟩ := q2
          exact ih k (by omega) fm2 s2 h2
        | ct =>
          obtain ⟨k, hk, h2⟩ := q2
          exact ih k (by omega) fm2 s2 h2
        | bk => exact ⟨.nx, fm2, s2, rfl, q2⟩
        | rt v => exact ⟨.rt v, fm2, s2, rfl, q2⟩
  obtain ⟨fl, fm', st', e, q⟩ := key (m + 1) m (by omega) fm st h0
  refine ⟨fl, fm', st', sWh_of e, ?_⟩
  cases fl
  · exact q
  · exact q
  · exact q.elim
  · exact q.elim
theorem wi_a {f : Ev} {Q : Src → Sto → Prop} (h : Wp (f fm st) fun w s => ∃ S, srcOf w s = some S ∧ Q S s) : Wp (iA f fm st) Q :=
  wp_bind (h.imp fun w s ⟨S, e, h⟩ => ⟨S, s, by simp only [e, Option.map_some], h⟩)
theorem wi_r1 {f : Ev} {Q : Src → Sto → Prop} (h : Wp (f fm st) fun w s => ∃ n : Int, w = .int n ∧ (-1000000000 ≤ n ∧ n < 1000000000) ∧ Q ⟨rngW 0 n.toNat, fun _ => True⟩ s) : Wp (iR1 f fm st) Q := by
  obtain ⟨w, s, e, n, rfl, hn, h⟩ := h
  exact ⟨_, _, iR1_gen e hn, h⟩
theorem wi_r2 {f g : Ev} {Q : Src → Sto → Prop} (h : Wp (f fm st) fun w s => Wp (g fm s) fun u s' => ∃ m n : Int, w = .int m ∧ u = .int n ∧ (-1000000000 ≤ m ∧ m < 1000000000 ∧ -1000000000 ≤ n ∧ n < 1000000000) ∧ Q ⟨rngW m (n - m).toNat, fun _ => True⟩ s') : Wp (iR2 f g fm st) Q := by
  obtain ⟨w, s, e, u, s', e', m, n, rfl, rfl, hn, h⟩ := h
  exact ⟨_, _, iR2_gen e e' hn, h⟩
/-- a def -/
theorem wp_fn {n np : Nat} {fs : Sm} {ws : List Va} (hl : ws.length = np) (h : Ws (fs (ws.map some ++ List.replicate (n - np) none) st) (fun _ s => Q (fin st .non s).1 (fin st .non s).2) (fun w s => Q (fin st w s).1 (fin st w s).2) (fun _ _ => False) (fun _ _ => False)) : Wp (fn n np fs ws st) Q := by
  obtain ⟨fl, fm', s, e, q⟩ := h
  unfold fn
  rw [if_pos hl, e]
  cases fl
  · exact ⟨_, _, rfl, q⟩
  · exact ⟨_, _, rfl, q⟩
  · exact q.elim
  · exact q.elim
-- operators
theorem wp_ai {a b : Int} (h : Q (.int (a + b)) st) : Wp (gAdd (.int a) (.int b) st) Q := wp_of gAdd_i h
theorem wp_si {a b : Int} (h : Q (.int (a - b)) st) : Wp (T3.gSub (.int a) (.int b) st) Q := wp_of gSub_i h
theorem wp_ml {a b : Int} (hk : a.natAbs < 18446744073709551616) (h : Q (.int (a * b)) st) : Wp (gMul (.int a) (.int b) st) Q := wp_of (gMul_l hk) h
theorem wp_mr {a b : Int} (hk : b.natAbs < 18446744073709551616) (h : Q (.int (a * b)) st) : Wp (gMul (.int a) (.int b) st) Q := wp_of (gMul_r hk) h
theorem wp_md {a b : Int} (hk : 0 < b) (h : Q (.int (a % b)) st) : Wp (gMod (.int a) (.int b) st) Q := wp_of (gMod_p hk) h
theorem wp_ng {a : Int} (h : Q (.int (-a)) st) : Wp (gNeg (.int a) st) Q := wp_of rfl h
theorem wp_eqi {a b : Int} (h : Q (.bl (decide (a = b))) st) : Wp (gEq (.int a) (.int b) st) Q := wp_of gEq_i h
theorem wp_eqs {a b : List Nat} (h : Q (.bl (decide (a = b))) st) : Wp (gEq (.str a) (.str b) st) Q := wp_of gEq_s h
theorem wp_eqb {a b : Bool} (h : Q (.bl (decide (a = b))) st) : Wp (gEq (.bl a) (.bl b) st) Q := wp_of gEq_b h
theorem wp_nei {a b : Int} (h : Q (.bl (!decide (a = b))) st) : Wp (gNe (.int a) (.int b) st) Q := wp_of gNe_i h
theorem wp_nes {a b : List Nat} (h : Q (.bl (!decide (a = b))) st) : Wp (gNe (.str a) (.str b) st) Q := wp_of gNe_s h
theorem wp_neb {a b : Bool} (h : Q (.bl (!decide (a = b))) st) : Wp (gNe (.bl a) (.bl b) st) Q := wp_of gNe_b h
theorem wp_lt {a b : Int} (h : Q (.bl (decide (a < b))) st) : Wp (gLt (.int a) (.int b) st) Q := wp_of gLt_i h
theorem wp_le {a b : Int} (h : Q (.bl (decide (a ≤ b))) st) : Wp (gLe (.int a) (.int b) st) Q := wp_of gLe_i h
theorem wp_gt {a b : Int} (h : Q (.bl (decide (b < a))) st) : Wp (gGt (.int a) (.int b) st) Q := wp_of gGt_i h
theorem wp_ge {a b : Int} (h : Q (.bl (decide (b ≤ a))) st) : Wp (gGe (.int a) (.int b) st) Q := wp_of gGe_i h
theorem wp_isn {a : Va} (h : Q (.bl (isNon a)) st) : Wp (gIs a .non st) Q := wp_of (by cases a <;> rfl) h
theorem wp_isnn {a : Va} (h : Q (.bl (!isNon a)) st) : Wp (gIsN a .non st) Q := wp_of (by cases a <;> rfl) h
theorem wp_isb {a b : Bool} (h : Q (.bl (decide (a = b))) st) : Wp (gIs (.bl a) (.bl b) st) Q := wp_of rfl h
theorem wp_isnb {a b : Bool} (h : Q (.bl (!decide (a = b))) st) : Wp (gIsN (.bl a) (.bl b) st) Q := wp_of rfl h
theorem wp_int {a : Int} (h : Q (.int a) st) : Wp (gInt [.int a] st) Q := wp_of gInt_i h
theorem wp_min {a b : Int} (h : Q (.int (if b < a then b else a)) st) : Wp (gMin [.int a, .int b] st) Q := wp_of rfl h
theorem wp_max {a b : Int} (h : Q (.int (if b > a then b else a)) st) : Wp (gMax [.int a, .int b] st) Q := wp_of rfl h
theorem wp_lens {a : List Nat} (hk : a.length ≤ 16777216) (h : Q (.int a.length) st) : Wp (gLen [.str a] st) Q := wp_of (by simp only [gLen, lenW]; rw [if_pos hk]; rfl) h
theorem wp_lent {a : List Va} (h : Q (.int a.length) st) : Wp (gLen [.tup a] st) Q := wp_of rfl h
theorem wp_ixt {a : List Va} {i : Int} (hk : atI a i = some w) (h : Q w st) : Wp (gIx (.tup a) (.int i) st) Q := wp_of (by simp only [gIx, pickW, hk, Option.map_some]) h
theorem wp_ixs {a : List Nat} {i : Int} {c : Nat} (hl : a.length ≤ 16777216) (hk : atI a i = some c) (h : Q (.str [c]) st) : Wp (gIx (.str a) (.int i) st) Q := wp_of (by simp only [gIx]; rw [if_pos hl, hk]; rfl) h
theorem wp_ixl {a : List Va} {n : Nat} {i : Int} (hs : st[n]? = some (.lst a)) (hk : atI a i = some w) (h : Q w st) : Wp (gIx (.ref n) (.int i) st) Q := wp_of (by simp only [gIx, hs, pickW, hk, Option.map_some]) h
theorem wp_as {a b : List Nat} (hk : a.length + b.length ≤ 16777216) (h : Q (.str (a ++ b)) st) : Wp (gAdd (.str a) (.str b) st) Q := wp_of (gAdd_s hk) h
theorem wp_at {a b : List Va} (hk : a.length + b.length ≤ 16777216) (h : Q (.tup (a ++ b)) st) : Wp (gAdd (.tup a) (.tup b) st) Q := wp_of (if_pos hk) h
theorem wp_cuts {a : List Nat} {lo hi : Option Int} {w : Va} (hk : gCut (.str a) lo hi st = some (w, st)) (h : Q w st) : Wp (gCut (.str a) lo hi st) Q := wp_of hk h

/-- a comprehension, by what holds between its turns -/
theorem wp_lc {fi : Fi} {fg : Fg} {ft : Et} {fe : Ev} {vs : List Nat} (h : Wp (fi fm st) fun S s => ∃ Inv : Nat → Sto → Prop, (∀ i s, Inv i s → S.gd s) ∧ Inv 0 (s ++ [.lst []]) ∧
      (∀ i w, S.ws[i]? = some w → ∃ fm1, fg w (wip fm vs) = some fm1 ∧ ∀ s1, Inv i s1 → Wp (ft fm1 s1) fun b s2 => If b (Wp (fe fm1 s2) fun y s3 => ∃ acc, s3[s.length]? = some (.lst acc) ∧ acc.length < 16777216 ∧ Inv (i + 1) (s3.set s.length (.lst (acc ++ [y])))) (Inv (i + 1) s2)) ∧
      ∀ s', Inv S.ws.length s' → Q (.ref s.length) s') : Wp (eLc fi fg ft fe vs fm st) Q := by
  obtain ⟨S, s, e, Inv, hg, h0, ht, hq⟩ := h
  have key : ∀ (n i : Nat), i + n = S.ws.length → ∀ s1, Inv i s1 → ∃ s', lcL S.gd fg ft fe s.length (S.ws.drop i) (wip fm vs) s1 = some s' ∧ Inv S.ws.length s' := by
    intro n
    induction n with
    | zero =>
      intro i hi s1 h
      have : i = S.ws.length := by omega
      subst this
      rw [List.drop_length]
      exact ⟨s1, by simp only [lcL]; rw [if_pos (hg _ _ h)], h⟩
    | succ n ih =>
      intro i hi s1 h
      have hl : i < S.ws.length := by omega
      obtain ⟨fm1, e1, h1⟩ := ht i S.ws[i] (List.getElem?_eq_getElem hl)
      obtain ⟨b, s2, e2, h2⟩ := h1 s1 h
      rw [List.drop_eq_getElem_cons hl]
      simp only [lcL]
      rw [if_pos (hg _ _ h), e1, Option.bind_some, e2]
      cases b with
      | false => exact ih (i + 1) (by omega) s2 (h2.2 rfl)
      | true =>
        obtain ⟨y, s3, e3, acc, ea, hz, h3⟩ := h2.1 rfl
        simp only [Option.bind_some, if_true, e3, ea]
        rw [if_pos hz]
        exact ih (i + 1) (by omega) _ h3
  obtain ⟨s', e', h'⟩ := key S.ws.length 0 (by omega) _ h0
  rw [List.drop_zero] at e'
  refine ⟨_, s', ?_, hq s' h'⟩
  unfold eLc
  rw [e, Option.bind_some, e', Option.map_some]
end

/-! ### the world of the draws -/
structure Dw where
  st : Sto
  d : Nat
  r : Nat
  row : List Int
  seed : Int
  ok : Dr st d r row seed
/-- the store: the draws at a, the store ahead of the def, its own things -/
def W (e : Dw) (a : Nat) (L M : Sto) : Sto := dSt e.st e.d e.r e.seed a ++ (L ++ M)
def Dw.p (e : Dw) (L : Sto) : Nat := e.st.length + L.length
section
variable {e : Dw} {a : Nat} {L M : Sto} {Q : Va → Sto → Prop} {fm : Fm}
theorem W_len : (W e a L M).length = e.p L + M.length := by unfold W Dw.p; rw [List.length_append, dSt_len, List.length_append]; omega
theorem W_get (k : Nat) : (W e a L M)[e.p L + k]? = M[k]? := by
  unfold W Dw.p
  rw [List.getElem?_append_right (by rw [dSt_len]; omega), dSt_len, List.getElem?_append_right (by omega)]
  congr 1; omega
theorem W_get0 : (W e a L M)[e.p L]? = M[0]? := W_get 0
theorem W_set (k : Nat) (o : Ob) : (W e a L M).set (e.p L + k) o = W e a L (M.set k o) := by
  unfold W Dw.p
  rw [List.set_append_right _ _ (by rw [dSt_len]; omega), dSt_len, List.set_append_right _ _ (by omega)]
  congr 3; omega
theorem W_set0 (o : Ob) : (W e a L M).set (e.p L) o = W e a L (M.set 0 o) := W_set 0 o
theorem W_push (o : Sto) : W e a L M ++ o = W e a L (M ++ o) := by unfold W; simp only [List.append_assoc]
theorem W_in : W e a L M = W e a (L ++ M) [] := by unfold W; simp
theorem p_in : e.p (L ++ M) = e.p L + M.length := by unfold Dw.p; rw [List.length_append]; omega
theorem wp_pick {m : Int} (hm : 0 < m) (h : ∀ (x : Int) (b : Nat), 0 ≤ x → x < m → Q (.int x) (W e b L M)) : Wp (c_pick [.ref e.d, .int m] (W e a L M)) Q := by
  obtain ⟨x, b, h0, h1, q⟩ := pick_D e.ok a hm (L ++ M)
  exact ⟨_, _, q, h x b h0 h1⟩
/-- a def's return: its own things are gone -/
theorem W_fin {b : Nat} {w : Va} (h : w.und e.st.length = true) : fin (W e a L []) w (W e b L M) = (w, W e b L []) := by
  have := fin_d (st := e.st) (L := L) (d := e.d) (a := a) (b := b) (seed := e.seed) (w := w) e.ok.rlt h M
  unfold W
  simpa using this
theorem W_fin_i {b : Nat} {i : Int} : fin (W e a L []) (.int i) (W e b L M) = (.int i, W e b L []) := W_fin rfl
theorem W_fin_s {b : Nat} {i : List Nat} : fin (W e a L []) (.str i) (W e b L M) = (.str i, W e b L []) := W_fin rfl
theorem W_fin_b {b : Nat} {i : Bool} : fin (W e a L []) (.bl i) (W e b L M) = (.bl i, W e b L []) := W_fin rfl
theorem W_fin_n {b : Nat} : fin (W e a L []) .non (W e b L M) = (.non, W e b L []) := W_fin rfl
/-- a value without places of the store -/
def Va.flat (w : Va) : Prop := w.und 0 = true
mutual
theorem und_up : ∀ {m n : Nat} (w : Va), m ≤ n → w.und m = true → w.und n = true
  | _, _, .non, _, _ => rfl
  | _, _, .bl _, _, _ => rfl
  | _, _, .int _, _, _ => rfl
  | _, _, .str _, _, _ => rfl
  | _, _, .ty _, _, _ => rfl
  | _, _, .ref k, h, u => by rw [und_ref, decide_eq_true_eq] at u ⊢; omega
  | _, _, .tup ws, h, u => und_upL ws h u
  | _, _, .ktp ws, h, u => und_upL ws h u
theorem und_upL : ∀ {m n : Nat} (ws : List Va), m ≤ n → Va.undL m ws = true → Va.undL n ws = true
  | _, _, [], _, _ => rfl
  | _, _, w :: ws, h, u => by
    rw [undL_cons, Bool.and_eq_true] at u ⊢
    exact ⟨und_up w h u.1, und_upL ws h u.2⟩
end
theorem W_fin_f {b : Nat} {w : Va} (h : w.flat) : fin (W e a L []) w (W e b L M) = (w, W e b L []) := W_fin (und_up w (Nat.zero_le _) h)
theorem flat_i {i : Int} : (Va.int i).flat := rfl
theorem flat_s {i : List Nat} : (Va.str i).flat := rfl
theorem flat_b {i : Bool} : (Va.bl i).flat := rfl
theorem flat_n : Va.non.flat := rfl
theorem undL_all {n : Nat} : ∀ {ws : List Va}, (∀ w ∈ ws, w.und n = true) → Va.undL n ws = true
  | [], _ => rfl
  | w :: ws, h => by rw [undL_cons, h w (by simp), undL_all fun x hx => h x (List.mem_cons_of_mem _ hx)]; rfl
theorem flat_t {ws : List Va} (h : ∀ w ∈ ws, w.flat) : (Va.tup ws).flat := undL_all h
/-- a drawn comprehension: each item is got from its thing by draws, and no place of the store is in it -/
theorem wp_lcD {fi : Fi} {fg : Fg} {fe : Ev} {vs : List Nat} {ws : List Va} (P : Nat → Va → Prop) (hi : fi fm (W e a L M) = some (⟨ws, fun _ => True⟩, W e a L M)) (hz : ws.length < 16777216)
    (h : ∀ i w, ws[i]? = some w → ∃ fm1, fg w (wip fm vs) = some fm1 ∧ ∀ a M', (∃ M'', M' = M ++ M'') → Wp (fe fm1 (W e a L M')) fun y s => ∃ b, s = W e b L M' ∧ P i y)
    (hq : ∀ b ys, ys.length = ws.length → (∀ i y, ys[i]? = some y → P i y) → Q (.ref (e.p L + M.length)) (W e b L (M ++ [.lst ys]))) : Wp (eLc fi fg bYes fe vs fm (W e a L M)) Q := by
  refine wp_lc ⟨_, _, hi, fun i s => ∃ b ys, s = W e b L (M ++ [.lst ys]) ∧ ys.length = i ∧ ∀ i y, ys[i]? = some y → P i y, fun _ _ _ => trivial, ⟨a, [], by rw [W_push], rfl, fun i y h => by cases i <;> cases h⟩, ?_, ?_⟩
  · intro i w hw
    obtain ⟨fm1, e1, h1⟩ := h i w hw
    have hil : i < ws.length := (List.getElem?_eq_some_iff.mp hw).1
    refine ⟨fm1, e1, ?_⟩
    rintro s1 ⟨b, ys, rfl, hl, hy⟩
    refine wb_yes (If.t ((h1 b _ ⟨_, rfl⟩).imp ?_))
    rintro y s3 ⟨c, rfl, hp⟩
    refine ⟨ys, ?_, by omega, c, ys ++ [y], ?_, by simp [hl], ?_⟩
    · rw [W_len, W_get]; simp
    · rw [W_len, W_set]; simp
    · intro j z hj
      by_cases hj' : j < ys.length
      · rw [List.getElem?_append_left hj'] at hj; exact hy j z hj
      · rw [List.getElem?_append_right (by omega)] at hj
        by_cases h0 : j - ys.length = 0
        · rw [h0] at hj
          simp at hj
          subst hj
          have : j = i := by omega
          subst this
          exact hp
        · rw [List.getElem?_singleton, if_neg h0] at hj
          cases hj
  · rintro s' ⟨b, ys, rfl, hl, hy⟩
    rw [W_len]
    exact hq b ys hl hy
/-- a comprehension that changes nothing -/
theorem wp_lcP {fi : Fi} {fg : Fg} {ft : Et} {fe : Ev} {vs : List Nat} {ws : List Va} (t : Va → Bool) (f : Va → Va) (hi : fi fm (W e a L M) = some (⟨ws, fun _ => True⟩, W e a L M)) (hz : ws.length < 16777216)
    (h : ∀ w ∈ ws, ∃ fm1, fg w (wip fm vs) = some fm1 ∧ ∀ M', (∃ M'', M' = M ++ M'') → Wp (ft fm1 (W e a L M')) fun b s => b = t w ∧ s = W e a L M' ∧ (t w = true → Wp (fe fm1 (W e a L M')) fun y s => s = W e a L M' ∧ y = f w))
    (hq : Q (.ref (e.p L + M.length)) (W e a L (M ++ [.lst ((ws.filter t).map f)]))) : Wp (eLc fi fg ft fe vs fm (W e a L M)) Q := by
  refine wp_lc ⟨_, _, hi, fun i s => s = W e a L (M ++ [.lst (((ws.take i).filter t).map f)]), fun _ _ _ => trivial, by rw [W_push]; simp, ?_, ?_⟩
  · intro i w hw
    obtain ⟨fm1, e1, h1⟩ := h w (List.mem_of_getElem? hw)
    have hil : i < ws.length := (List.getElem?_eq_some_iff.mp hw).1
    have ht : ws.take (i + 1) = ws.take i ++ [w] := by rw [List.take_succ, hw]; rfl
    refine ⟨fm1, e1, ?_⟩
    rintro s1 rfl
    refine (h1 _ ⟨_, rfl⟩).imp ?_
    rintro b s2 ⟨rfl, rfl, h2⟩
    refine ⟨fun hb => (h2 hb).imp ?_, fun hb => ?_⟩
    · rintro y s3 ⟨rfl, rfl⟩
      refine ⟨((ws.take i).filter t).map f, by rw [W_len, W_get]; simp, ?_, ?_⟩
      · rw [List.length_map]
        have := List.length_filter_le t (ws.take i)
        rw [List.length_take] at this
        omega
      · dsimp only
        rw [W_len, W_set, ht]
        simp [hb]
    · dsimp only
      rw [ht]; simp [hb]
  · rintro s' rfl
    rw [W_len, List.take_length]
    exact hq
end
end
end T3
/-! T3, thirteenth part: single signs in texts; equal lists of texts; the stream in the world of the draws -/
namespace T3
open PySem PySem.Spec PyProof.Rows L2
section
open StrLaws Builtin Builtin.Str
theorem occ_stay (s sub : Str) (hi : Nat) : ∀ (l : List Nat) (k free : Nat), (forIn l ((#[k] : Array Nat), free) (occBody s sub hi 1)).run.fst = #[k]
  | [], k, free => rfl
  | a :: l, k, free => by
    rw [List.forIn_cons]
    unfold occBody
    rw [if_neg (by simp)]
    exact occ_stay s sub hi l k free
theorem occ_first (s sub : Str) (hi : Nat) : ∀ (l1 : List Nat) (k : Nat) (l2 : List Nat) (free : Nat), (∀ i ∈ l1, ¬ (i + sub.length ≤ hi ∧ subAt s sub i = true)) → free ≤ k → (k + sub.length ≤ hi ∧ subAt s sub k = true) →
    (forIn (l1 ++ k :: l2) ((#[] : Array Nat), free) (occBody s sub hi 1)).run.fst = #[k]
  | [], k, l2, free, _, hf, hk => by
    rw [List.nil_append, List.forIn_cons]
    unfold occBody
    rw [if_pos ⟨⟨⟨by simp, hf⟩, hk.1⟩, hk.2⟩]
    exact occ_stay s sub hi l2 k _
  | a :: l1, k, l2, free, h1, hf, hk => by
    rw [List.cons_append, List.forIn_cons]
    unfold occBody
    have ha := h1 a (by simp)
    rw [if_neg fun h => ha ⟨h.1.2, h.2⟩]
    exact occ_first s sub hi l1 k l2 free (fun i hi => h1 i (List.mem_cons_of_mem _ hi)) hf hk
end
/-- the first place of a sign -/
theorem index0_one {s : List Nat} {c k : Nat} (hk : s[k]? = some c) (h1 : ∀ i, i < k → s[i]? ≠ some c) : Txt.index0 ⟨s.toArray⟩ ⟨[c].toArray⟩ = some k := by
  have hl : k < s.length := (List.getElem?_eq_some_iff.mp hk).1
  unfold Txt.index0
  rw [StrLaws.occ_eq]
  have hr : List.range' 0 ((⟨s.toArray⟩ : Str).length + 1 - 0) = List.range' 0 k ++ k :: List.range' (k + 1) (s.length - k) := by
    rw [slen]
    have e1 : s.length + 1 - 0 = k + (s.length - k + 1) := by omega
    rw [e1, ← List.range'_append_1, List.range'_succ]; simp
  rw [hr, occ_first _ _ _ _ k _ 0 (fun i hi hh => ?_) (Nat.zero_le _) ((StrLaws.subAt_one _ c k).mpr (by simpa using hk))]
  · rfl
  · have := (StrLaws.subAt_one ⟨s.toArray⟩ c i).mp hh
    simp only [List.mem_range'_1] at hi
    exact h1 i (by omega) (by simpa using this)
theorem first_of_mem {c : Nat} : ∀ {s : List Nat}, c ∈ s → ∃ k : Nat, s[k]? = some c ∧ ∀ i, i < k → s[i]? ≠ some c
  | [], h => nomatch h
  | d :: s, h => by
    by_cases e : d = c
    · exact ⟨0, by rw [e]; rfl, fun i hi => by omega⟩
    · obtain ⟨k, h1, h2⟩ := first_of_mem (s := s) (by rcases List.mem_cons.mp h with h | h; exact absurd h.symm e; exact h)
      refine ⟨k + 1, h1, fun i hi => ?_⟩
      cases i with
      | zero => simpa using e
      | succ i => simpa using h2 i (by omega)
theorem gIndex_one {s : List Nat} {c k : Nat} {st : Sto} (hk : s[k]? = some c) (h1 : ∀ i, i < k → s[i]? ≠ some c) : gIndex (.str s) [.str [c]] st = some (.int (k : Int), st) := by
  simp only [gIndex, index0_one hk h1, Option.map_some]
theorem gNin_s {s : List Nat} {c : Nat} {st : Sto} : gNin (.str [c]) (.str s) st = some (.bl (!decide (c ∈ s)), st) := rfl
theorem gIn_s {s : List Nat} {c : Nat} {st : Sto} : gIn (.str [c]) (.str s) st = some (.bl (decide (c ∈ s)), st) := rfl
theorem strW_py : ∀ s : List Nat, toPyL (strW s) = some (s.map fun c => .str ⟨[c].toArray⟩)
  | [] => rfl
  | c :: s => by
    have := strW_py s
    unfold strW at this ⊢
    rw [List.map_cons, toPyL, this]; rfl
theorem strW_eqv : ∀ s t : List Nat, PyData.eqvAll (s.map fun c => .str ⟨[c].toArray⟩) (t.map fun c => .str ⟨[c].toArray⟩) = decide (s = t)
  | [], [] => rfl
  | [], _ :: _ => rfl
  | _ :: _, [] => rfl
  | c :: s, d :: t => by
    rw [List.map_cons, List.map_cons, PyData.eqvAll, strW_eqv s t, PyData.eqv]
    have : ((⟨[c].toArray⟩ : Str) == ⟨[d].toArray⟩) = decide (c = d) := by
      by_cases e : c = d
      · subst e; simp
      · rw [decide_eq_false e, beq_eq_false_iff_ne]
        intro h
        injection h with h
        exact e (by simpa using h)
    rw [this]
    by_cases e : c = d <;> by_cases e2 : s = t <;> simp [e, e2]

def Cps (s : List Nat) : Prop := ∀ c ∈ s, c < 0x110000
theorem strW_lay : ∀ {s : List Nat}, Cps s → PyData.canLayAll0 (s.map fun c => .str ⟨[c].toArray⟩) = true ∧ PyData.depthAll (s.map fun c => PyData.str ⟨[c].toArray⟩) = 0
  | [], _ => ⟨rfl, rfl⟩
  | c :: s, h => by
    obtain ⟨a, b⟩ := strW_lay (s := s) fun x hx => h x (List.mem_cons_of_mem _ hx)
    have hc := h c (by simp)
    refine ⟨?_, ?_⟩
    · rw [List.map_cons, PyData.canLayAll0, a, PyData.canLay0]
      simp [PyData.strOk, hc]
    · rw [List.map_cons, PyData.depthAll, b, PyData.depth]; rfl
theorem strW_shaped {s : List Nat} (h : Cps s) : SeqAt.shaped (.list (s.map fun c => .str ⟨[c].toArray⟩)) = true := by
  obtain ⟨a, b⟩ := strW_lay h
  unfold SeqAt.shaped
  rw [PyData.canLay0, a, PyData.depth, b]; rfl
theorem gEq_strW {m n : Nat} {s t : List Nat} {st : Sto} (hm : st[m]? = some (.lst (strW s))) (hn : st[n]? = some (.lst (strW t))) (hs : Cps s) (ht : Cps t) : gEq (.ref m) (.ref n) st = some (.bl (decide (s = t)), st) := by
  simp only [gEq, eqVa, pyOf, hm, hn, strW_py, Option.map_some, Option.bind_some]
  rw [if_pos ⟨strW_shaped hs, strW_shaped ht⟩, PyData.eqv, strW_eqv]
  rfl
/-- the list is empty -/
theorem gEq_nil {m n : Nat} {ws : List Va} {ds : List PyData} {st : Sto} (hm : st[m]? = some (.lst ws)) (hn : st[n]? = some (.lst [])) (hd : toPyL ws = some ds) (hs : SeqAt.shaped (.list ds) = true) : gEq (.ref m) (.ref n) st = some (.bl ws.isEmpty, st) := by
  simp only [gEq, eqVa, pyOf, hm, hn, hd, toPyL, Option.map_some, Option.bind_some]
  have h0 : SeqAt.shaped (.list []) = true := rfl
  rw [if_pos ⟨hs, h0⟩, PyData.eqv]
  cases ws with
  | nil => cases hd; rfl
  | cons w ws =>
    simp only [toPyL, Option.bind_eq_some_iff, Option.map_eq_some_iff] at hd
    obtain ⟨d, _, ds', _, rfl⟩ := hd
    rfl
theorem ints_lay : ∀ (ns : List Int), toPyL (ns.map Va.int) = some (ns.map PyData.int) ∧ PyData.canLayAll0 (ns.map PyData.int) = true ∧ PyData.depthAll (ns.map PyData.int) = 0
  | [] => ⟨rfl, rfl, rfl⟩
  | n :: ns => by
    obtain ⟨a, b, c⟩ := ints_lay ns
    refine ⟨?_, ?_, ?_⟩
    · rw [List.map_cons, toPyL, a]; rfl
    · rw [List.map_cons, PyData.canLayAll0, b, PyData.canLay0]; rfl
    · rw [List.map_cons, PyData.depthAll, c, PyData.depth]; rfl
theorem ints_shaped (ns : List Int) : SeqAt.shaped (.list (ns.map PyData.int)) = true := by
  obtain ⟨_, a, b⟩ := ints_lay ns
  unfold SeqAt.shaped
  rw [PyData.canLay0, a, PyData.depth, b]; rfl
/-- the stream: the world of the draws -/
theorem stream_W {J : Int} (hJ : 0 ≤ J ∧ J < 1000) {st : Sto} {s : Nat} {ns : List Int} (hs : st[s]? = some (.rol (ns.map Va.int))) {most : Nat} (hm : most < 1000000) {Q : Va → Sto → Prop}
    (h : ∀ e : Dw, Q (.ref e.d) (W e 0 [] [])) : Wp (c_stream J [.ref s, .int most] st) Q := by
  obtain ⟨row, seed, es⟩ := c_stream_eq hJ hs hm
  have D : Dr (st ++ [.lst (row.map Va.int), drO st.length 0 seed]) (st.length + 1) st.length row seed := ⟨by omega, by simp, by simp⟩
  have h' := h ⟨_, _, _, _, _, D⟩
  have e0 : W ⟨_, _, _, _, _, D⟩ 0 [] [] = st ++ [.lst (row.map Va.int), drO st.length 0 seed] := by
    unfold W dSt
    simp only [List.append_nil]
    rw [List.set_append_right _ _ (by omega)]
    simp
  rw [e0] at h'
  exact ⟨_, _, es, h'⟩
/-- a law's whole -/
theorem law_of {f : Fn} {ws : List Va} {st : Sto} (h : Wp (f ws st) fun w _ => w = .bl true) : ∃ s', f ws st = some (.bl true, s') := by
  obtain ⟨w, s, e, rfl⟩ := h
  exact ⟨s, e⟩
theorem fin1 {st st' : Sto} {w : Va} : (fin st w st').1 = w := by unfold fin; split <;> rfl
theorem Wp.eq {α : Type} {x : Option (α × Sto)} {a : α} {b : Sto} (h : Wp x fun w s => w = a ∧ s = b) : x = some (a, b) := by
  obtain ⟨w, s, e, rfl, rfl⟩ := h
  exact e
theorem wp_lst_at {st : Sto} {n : Nat} {ws : List Va} {y : Va} {Q : Va → Sto → Prop} (hs : st[n]? = some (.lst ws)) (hz : ws.length < 16777216) (h : Q .non (st.set n (.lst (ws ++ [y])))) : Wp (gApp (.ref n) [y] st) Q := by
  refine ⟨_, _, ?_, h⟩
  simp only [gApp, hs]
  rw [if_pos hz]
theorem hty_l {st : Sto} {n : Nat} {ws : List Va} (hs : st[n]? = some (.lst ws)) : hasTy "list" (.ref n) st = true := by simp [hasTy, hs]
theorem gTuple_l {st : Sto} {n : Nat} {ws : List Va} (hs : st[n]? = some (.lst ws)) : gTuple [.ref n] st = some (.tup ws, st) := by simp [gTuple, itemsOf, hs]
theorem gLen_l {st : Sto} {n : Nat} {ws : List Va} (hs : st[n]? = some (.lst ws)) : gLen [.ref n] st = some (.int ws.length, st) := by simp [gLen, lenW, hs]

def InW (s : Sto) (k : Dw → Nat → Sto → Sto → Prop) : Prop := ∃ e a L M, s = W e a L M ∧ k e a L M
section
variable {e : Dw} {a : Nat} {L M : Sto} {Q : Va → Sto → Prop} {fm : Fm} {st : Sto}
theorem we_lstW {fa : Evs} (h : Wp (fa fm st) fun ws s => ws.length ≤ 16777216 ∧ InW s fun e a L M => Q (.ref (e.p L + M.length)) (W e a L (M ++ [.lst ws]))) : Wp (eLst fa fm st) Q :=
  we_lst (h.imp fun ws s ⟨h1, e, a, L, M, h2, h3⟩ => ⟨h1, by subst h2; rw [W_len, W_push]; exact h3⟩)
theorem wp_ixW {k : Nat} {x : Int} {ws : List Va} (hM : M[k]? = some (.lst ws)) (h0 : 0 ≤ x) (h1 : x < ws.length) (h : ∀ y, y ∈ ws → Q y (W e a L M)) : Wp (gIx (.ref (e.p L + k)) (.int x) (W e a L M)) Q := by
  obtain ⟨n, rfl⟩ : ∃ n : Nat, x = n := ⟨x.toNat, by omega⟩
  have hn : n < ws.length := by omega
  exact wp_ixl ((W_get k).trans hM) ((atI_n ws n).trans (List.getElem?_eq_getElem hn)) (h _ (List.getElem_mem hn))
theorem wp_ixC {x : Int} {s : List Nat} (hl : s.length ≤ 16777216) (h0 : 0 ≤ x) (h1 : x < s.length) (h : ∀ c, c ∈ s → Q (.str [c]) st) : Wp (gIx (.str s) (.int x) st) Q := by
  obtain ⟨n, rfl⟩ : ∃ n : Nat, x = n := ⟨x.toNat, by omega⟩
  have hn : n < s.length := by omega
  exact wp_ixs hl ((atI_n s n).trans (List.getElem?_eq_getElem hn)) (h _ (List.getElem_mem hn))
theorem rng_get {lo : Int} {n i : Nat} {w : Va} (h : (rngW lo n)[i]? = some w) : w = .int (lo + i) ∧ i < n := by
  simp only [rngW, List.getElem?_map, Option.map_eq_some_iff] at h
  obtain ⟨k, hk, rfl⟩ := h
  obtain ⟨h1, h2⟩ := List.getElem?_eq_some_iff.mp hk
  simp at h1 h2
  subst h2
  exact ⟨rfl, h1⟩
theorem rng_len {lo : Int} {n : Nat} : (rngW lo n).length = n := by simp [rngW]
theorem strW_get {s : List Nat} {i : Nat} {w : Va} (h : (strW s)[i]? = some w) : ∃ c, w = .str [c] ∧ s[i]? = some c := by
  simp only [strW, List.getElem?_map, Option.map_eq_some_iff] at h
  obtain ⟨c, hc, rfl⟩ := h
  exact ⟨c, rfl, hc⟩
theorem strW_len {s : List Nat} : (strW s).length = s.length := by simp [strW]
theorem atI_map {α β : Type} (f : α → β) (xs : List α) (i : Int) : atI (xs.map f) i = (atI xs i).map f := by
  unfold atI
  rw [List.length_map]
  cases ixN xs.length i <;> simp
theorem ys_map {α : Type} {P : α → Prop} {f : α → Va} : ∀ {ys : List Va}, (∀ (i : Nat) y, ys[i]? = some y → ∃ g, P g ∧ y = f g) → ∃ r : List α, ys = r.map f ∧ ∀ g ∈ r, P g
  | [], _ => ⟨[], rfl, fun _ h => nomatch h⟩
  | y :: ys, h => by
    obtain ⟨g, hg, rfl⟩ := h 0 y rfl
    obtain ⟨r, rfl, hr⟩ := ys_map (ys := ys) fun i y hy => h (i + 1) y hy
    exact ⟨g :: r, rfl, fun x hx => by
      rcases List.mem_cons.mp hx with rfl | hx
      · exact hg
      · exact hr x hx⟩
theorem wp_tupW {k : Nat} {ws : List Va} (hM : M[k]? = some (.lst ws)) (h : Q (.tup ws) (W e a L M)) : Wp (gTuple [.ref (e.p L + k)] (W e a L M)) Q :=
  wp_of (gTuple_l ((W_get k).trans hM)) h
theorem wp_tupZ {ws : List Va} (h : Q (.tup ws) (W e a L (M ++ [.lst ws]))) : Wp (gTuple [.ref (e.p L + M.length)] (W e a L (M ++ [.lst ws]))) Q :=
  wp_tupW (by simp) h
theorem wp_appW {k : Nat} {ws : List Va} {y : Va} (hM : M[k]? = some (.lst ws)) (hz : ws.length < 16777216) (h : Q .non (W e a L (M.set k (.lst (ws ++ [y]))))) : Wp (gApp (.ref (e.p L + k)) [y] (W e a L M)) Q :=
  wp_lst_at ((W_get k).trans hM) hz (by rw [W_set]; exact h)
theorem hty_W {k : Nat} {ws : List Va} (hM : M[k]? = some (.lst ws)) : hasTy "list" (.ref (e.p L + k)) (W e a L M) = true := hty_l ((W_get k).trans hM)
theorem wp_lenW {k : Nat} {ws : List Va} (hM : M[k]? = some (.lst ws)) (h : Q (.int ws.length) (W e a L M)) : Wp (gLen [.ref (e.p L + k)] (W e a L M)) Q :=
  wp_of (gLen_l ((W_get k).trans hM)) h
theorem wp_ixLW {k : Nat} {ws : List Va} {i : Int} {w : Va} (hM : M[k]? = some (.lst ws)) (hk : atI ws i = some w) (h : Q w (W e a L M)) : Wp (gIx (.ref (e.p L + k)) (.int i) (W e a L M)) Q :=
  wp_ixl ((W_get k).trans hM) hk h
theorem wp_ixZ {x m : Int} {ws : List Va} (hn : (ws.length : Int) = m) (h0 : 0 ≤ x) (h1 : x < m) (h : ∀ y, y ∈ ws → Q y (W e a L (M ++ [.lst ws]))) : Wp (gIx (.ref (e.p L + M.length)) (.int x) (W e a L (M ++ [.lst ws]))) Q :=
  wp_ixW (by simp) h0 (by omega) h
theorem cutL_mem {α : Type} {xs : List α} {lo hi : Option Int} {x : α} (h : x ∈ cutL xs lo hi) : x ∈ xs := List.mem_of_mem_drop (List.mem_of_mem_take h)
theorem cutL_len {α : Type} (xs : List α) (lo hi : Option Int) : (cutL xs lo hi).length ≤ xs.length := by
  unfold cutL; rw [List.length_take, List.length_drop]; omega
theorem wp_cutS {s : List Nat} {lo hi : Option Int} (hl : s.length ≤ 16777216) (h : Q (.str (cutL s lo hi)) st) : Wp (gCut (.str s) lo hi st) Q := wp_of (if_pos hl) h
theorem wp_cutT {s : List Va} {lo hi : Option Int} (h : Q (.tup (cutL s lo hi)) st) : Wp (gCut (.tup s) lo hi st) Q := wp_of rfl h
end
theorem atI_0 {α : Type} {x : α} {xs : List α} : atI (x :: xs) 0 = some x := atI_n (x :: xs) 0
/-- a thing that the steps leave alone -/
def Hd (p : Prop) : Prop := p
theorem hd {p : Prop} (h : p) : Hd p := h
end T3
/-! T3, fourteenth part: comprehensions whose items leave things behind; older lists; subscripts in tuples -/
namespace T3
open PySem PySem.Spec PyProof.Rows L2
section
variable {e : Dw} {a : Nat} {L M : Sto} {Q : Va → Sto → Prop} {fm : Fm} {st : Sto}
theorem pfx1 {X : Sto} {o : Ob} : X <+: X ++ [o] := List.prefix_append _ _
theorem pfx2 {X Y : Sto} {o : Ob} (h : X <+: Y) : X <+: Y ++ [o] := List.IsPrefix.trans h (List.prefix_append _ _)
theorem pfx_get {X Y : Sto} (h : X <+: Y) {k : Nat} {o : Ob} (e : X[k]? = some o) : Y[k]? = some o := by
  obtain ⟨t, rfl⟩ := h
  rw [List.getElem?_append_left (List.getElem?_eq_some_iff.mp e).1]; exact e
/-- a drawn comprehension, without a test, whose items may leave things behind -/
theorem wp_lcG {fi : Fi} {fg : Fg} {fe : Ev} {vs : List Nat} {ws : List Va} (P : Nat → Va → Prop) {gd : Sto → Prop} (hi : fi fm (W e a L M) = some (⟨ws, gd⟩, W e a L M)) (hgd : ∀ b Y, M <+: Y → gd (W e b L Y)) (hz : ws.length < 16777216)
    (h : ∀ i w, ws[i]? = some w → ∃ fm1, fg w (wip fm vs) = some fm1 ∧ ∀ a X, M <+: X → Wp (fe fm1 (W e a L X)) fun y s => Hd (∃ b Y, s = W e b L Y ∧ X <+: Y ∧ P i y))
    (hq : ∀ b ys G, ys.length = ws.length → (∀ (i : Nat) y, ys[i]? = some y → P i y) → Q (.ref (e.p L + M.length)) (W e b L (M ++ .lst ys :: G))) : Wp (eLc fi fg bYes fe vs fm (W e a L M)) Q := by
  refine wp_lc ⟨_, _, hi, fun i s => ∃ b ys G, s = W e b L (M ++ .lst ys :: G) ∧ ys.length = i ∧ ∀ (i : Nat) y, ys[i]? = some y → P i y, (by rintro i s ⟨b, ys, G, rfl, _⟩; exact hgd _ _ (List.prefix_append _ _)), ⟨a, [], [], by rw [W_push], rfl, fun i y h => by cases i <;> cases h⟩, ?_, ?_⟩
  · intro i w hw
    obtain ⟨fm1, e1, h1⟩ := h i w hw
    have hil : i < ws.length := (List.getElem?_eq_some_iff.mp hw).1
    refine ⟨fm1, e1, ?_⟩
    rintro s1 ⟨b, ys, G, rfl, hl, hy⟩
    refine wb_yes (If.t ((h1 b _ (List.prefix_append _ _)).imp ?_))
    rintro y s3 ⟨c, Y, rfl, ⟨t, rfl⟩, hp⟩
    refine ⟨ys, ?_, by omega, c, ys ++ [y], G ++ t, ?_, by simp [hl], ?_⟩
    · rw [W_len, W_get]; simp
    · rw [W_len, W_set]; simp
    · intro j z hj
      by_cases hj' : j < ys.length
      · rw [List.getElem?_append_left hj'] at hj; exact hy j z hj
      · rw [List.getElem?_append_right (by omega)] at hj
        by_cases h0 : j - ys.length = 0
        · rw [h0] at hj
          simp at hj
          subst hj
          have : j = i := by omega
          subst this
          exact hp
        · rw [List.getElem?_singleton, if_neg h0] at hj
          cases hj
  · rintro s' ⟨b, ys, G, rfl, hl, hy⟩
    rw [W_len]
    exact hq b ys G hl hy
/-- the same, with a drawn test -/
theorem wp_lcT {fi : Fi} {fg : Fg} {ft : Et} {fe : Ev} {vs : List Nat} {ws : List Va} (P : Va → Prop) {gd : Sto → Prop} (hi : fi fm (W e a L M) = some (⟨ws, gd⟩, W e a L M)) (hgd : ∀ b Y, M <+: Y → gd (W e b L Y)) (hz : ws.length < 16777216)
    (h : ∀ (i : Nat) w, ws[i]? = some w → ∃ fm1, fg w (wip fm vs) = some fm1 ∧ ∀ a X, M <+: X → Wp (ft fm1 (W e a L X)) fun t s => Hd (∃ b Y, s = W e b L Y ∧ X <+: Y ∧ If t (Wp (fe fm1 s) fun y s => Hd (∃ b Y, s = W e b L Y ∧ X <+: Y ∧ P y)) True))
    (hq : ∀ b ys G, ys.length ≤ ws.length → (∀ y ∈ ys, P y) → Q (.ref (e.p L + M.length)) (W e b L (M ++ .lst ys :: G))) : Wp (eLc fi fg ft fe vs fm (W e a L M)) Q := by
  refine wp_lc ⟨_, _, hi, fun i s => ∃ b ys G, s = W e b L (M ++ .lst ys :: G) ∧ ys.length ≤ i ∧ ∀ y ∈ ys, P y, (by rintro i s ⟨b, ys, G, rfl, _⟩; exact hgd _ _ (List.prefix_append _ _)), ⟨a, [], [], by rw [W_push], Nat.le_refl _, fun y h => nomatch h⟩, ?_, ?_⟩
  · intro i w hw
    obtain ⟨fm1, e1, h1⟩ := h i w hw
    have hil : i < ws.length := (List.getElem?_eq_some_iff.mp hw).1
    refine ⟨fm1, e1, ?_⟩
    rintro s1 ⟨b, ys, G, rfl, hl, hy⟩
    refine (h1 b _ (List.prefix_append _ _)).imp ?_
    rintro t s2 ⟨c, Y, rfl, ⟨u, rfl⟩, hp⟩
    refine ⟨fun ht => (hp.1 ht).imp ?_, fun ht => ⟨c, ys, G ++ u, by simp, by omega, hy⟩⟩
    rintro y s3 ⟨c, Y, rfl, ⟨t, rfl⟩, hp⟩
    refine ⟨ys, ?_, by omega, c, ys ++ [y], G ++ t, ?_, by simp; omega, ?_⟩
    · rw [W_len, W_get]; simp
    · rw [W_len, W_set]; simp
    · intro z hz
      rcases List.mem_append.mp hz with hz | hz
      · exact hy z hz
      · simp at hz; subst hz; exact hp
  · rintro s' ⟨b, ys, G, rfl, hl, hy⟩
    rw [W_len]
    exact hq b ys G hl hy
/-- an older list -/
theorem W_old {k : Nat} {o : Ob} (h : L[k]? = some o) : (W e a L M)[e.p [] + k]? = some o := by
  unfold W Dw.p
  rw [List.getElem?_append_right (by rw [dSt_len, List.length_nil]; omega), dSt_len, List.getElem?_append_left (by have := (List.getElem?_eq_some_iff.mp h).1; simp; omega)]
  rw [List.length_nil, Nat.add_zero, Nat.add_sub_cancel_left]
  exact h
theorem p_old {k : Nat} : e.p L + k = e.p [] + (L.length + k) := by unfold Dw.p; simp; omega
theorem W_old2 {k : Nat} {o : Ob} {b : Nat} {M' : Sto} (h : M[k]? = some o) : (W e b (L ++ M) M')[e.p L + k]? = some o := by
  rw [p_old]
  exact W_old (by rw [List.getElem?_append_right (by omega), Nat.add_sub_cancel_left]; exact h)
theorem wp_tupG {ws : List Va} {G : Sto} (h : Q (.tup ws) (W e a L (M ++ .lst ws :: G))) : Wp (gTuple [.ref (e.p L + M.length)] (W e a L (M ++ .lst ws :: G))) Q :=
  wp_tupW (by simp) h
/-- a tuple's item -/
theorem wp_ixT {x m : Int} {ws : List Va} (hn : (ws.length : Int) = m) (h0 : 0 ≤ x) (h1 : x < m) (h : ∀ (i : Nat) y, x = i → ws[i]? = some y → Q y st) : Wp (gIx (.tup ws) (.int x) st) Q := by
  obtain ⟨n, rfl⟩ : ∃ n : Nat, x = n := ⟨x.toNat, by omega⟩
  have hn : n < ws.length := by omega
  exact wp_ixt ((atI_n ws n).trans (List.getElem?_eq_getElem hn)) (h n _ rfl (List.getElem?_eq_getElem hn))
end
/-- two branches that meet -/
theorem If.cut {b : Bool} {x y : Option (Fl × Fm × Sto)} {N : Fm → Sto → Prop} {R : Va → Sto → Prop} {B C : Fm → Sto → Prop} (P : Fm → Sto → Prop) (h : If b (Ws x P R B C) (Ws y P R B C)) (k : ∀ fm s, P fm s → N fm s) : If b (Ws x N R B C) (Ws y N R B C) :=
  ⟨fun e => (h.1 e).imp k (fun _ _ h => h) (fun _ _ h => h) (fun _ _ h => h), fun e => (h.2 e).imp k (fun _ _ h => h) (fun _ _ h => h) (fun _ _ h => h)⟩
theorem strsOf_W : ∀ s : List Nat, strsOf (strW s) = some (s.map fun c => [c])
  | [] => rfl
  | c :: s => by
    have := strsOf_W s
    unfold strW at this ⊢
    rw [List.map_cons, strsOf, this]; rfl
theorem joinN_one : ∀ s : List Nat, joinN [] (s.map fun c => [c]) = s
  | [] => rfl
  | [c] => rfl
  | c :: d :: s => by
    have ih := joinN_one (d :: s)
    simp only [List.map_cons] at ih ⊢
    rw [joinN, ih]; rfl
theorem sum_ones : ∀ l : List Nat, ((l.map fun c => [c]).map fun x : List Nat => x.length).sum = l.length
  | [] => rfl
  | a :: l => by rw [List.map_cons, List.map_cons, List.sum_cons, sum_ones l]; simp; omega
theorem gJoin_W {n : Nat} {s : List Nat} {st : Sto} (h : st[n]? = some (.lst (strW s))) (hl : s.length ≤ 1000000) : gJoin (.str []) [.ref n] st = some (.str s, st) := by
  simp only [gJoin, itemsOf, h, Option.bind_some, strsOf_W]
  rw [if_pos (by rw [sum_ones, List.length_nil]; omega), joinN_one]
theorem iR1_len {fm : Fm} {i : Nat} {s : List Nat} {st : Sto} (h : fm[i]? = some (some (.str s))) (hl : s.length ≤ 1000) : iR1 (eA gLen (aC (eV i) aN)) fm st = some (⟨rngW 0 s.length, fun _ => True⟩, st) := by
  refine iR1_nat (Wp.eq ?_) (by omega)
  refine we_a (wa_c (we_v h (wa_n (wp_lens (by omega) ⟨rfl, rfl⟩))))
theorem at_set {M : Sto} {k : Nat} {o o' : Ob} (h : M[k]? = some o) : (M.set k o')[k]? = some o' := List.getElem?_set_self (List.getElem?_eq_some_iff.mp h).1
theorem at_set2 {M : Sto} {k j : Nat} {o o' : Ob} (h : M[k]? = some o) (hj : j ≠ k) : (M.set j o')[k]? = some o := by rw [List.getElem?_set_ne hj]; exact h
theorem at_push {M X : Sto} {k : Nat} {o : Ob} (h : M[k]? = some o) : (M ++ X)[k]? = some o := pfx_get (List.prefix_append _ _) h
theorem at_lt {M : Sto} {k : Nat} {o : Ob} (h : M[k]? = some o) : k < M.length := (List.getElem?_eq_some_iff.mp h).1
theorem at_last {M : Sto} {o : Ob} : (M ++ [o])[M.length]? = some o := by simp
theorem at_last2 {M G : Sto} {o : Ob} : (M ++ o :: G)[M.length]? = some o := by simp
theorem ys_all {P : Va → Prop} {ys : List Va} (h : ∀ (i : Nat) y, ys[i]? = some y → P y) : ∀ y ∈ ys, P y := fun y hy => by
  obtain ⟨i, hi⟩ := List.getElem?_of_mem hy
  exact h i y hi
theorem all_snoc {α : Type} {P : α → Prop} {ys : List α} {y : α} (h : ∀ y ∈ ys, P y) (hy : P y) : ∀ z ∈ ys ++ [y], P z := fun z hz => by
  rcases List.mem_append.mp hz with hz | hz
  · exact h z hz
  · simp at hz; subst hz; exact hy
/-- a for that goes on as long as a test holds, and returns at the first thing at which it does not -/
theorem wl_all {gd : Sto → Prop} {fg : Fg} {body : Sm} (P : Va → Bool) (Inv : Fm → Sto → Prop) {N : Fm → Sto → Prop} {R : Va → Sto → Prop} (Rf : Va → Sto → Prop) (hg : ∀ fm st, Inv fm st → gd st) : ∀ {ws : List Va} {fm : Fm} {st : Sto}, Inv fm st →
    (∀ w ∈ ws, ∀ fm st, Inv fm st → ∃ fm1, fg w fm = some fm1 ∧ Ws (body fm1 st) (fun f s => Hd (P w = true ∧ Inv f s)) (fun v s => Hd (P w = false ∧ Rf v s)) (fun _ _ => False) (fun f s => Hd (P w = true ∧ Inv f s))) →
    (ws.all P = true → ∀ fm st, Inv fm st → N fm st) → (ws.all P = false → ∀ v s, Rf v s → R v s) → Wl gd fg body ws fm st N R
  | [], fm, st, h0, _, hN, _ => wl_nil (hg _ _ h0) (hN rfl _ _ h0)
  | w :: ws, fm, st, h0, ht, hN, hR => by
    obtain ⟨fm1, e1, h1⟩ := ht w (by simp) fm st h0
    have go : P w = true → ∀ f s, Inv f s → Wl gd fg body ws f s N R := fun hp f s hi => wl_all P Inv Rf hg hi (fun w hw => ht w (List.mem_cons_of_mem _ hw))
      (fun h => hN (by rw [List.all_cons, hp, h]; rfl)) (fun h => hR (by rw [List.all_cons, hp, h]; rfl))
    exact wl_cons (hg _ _ h0) e1 (h1.imp (fun f s h => go h.1 f s h.2) (fun v s h => hR (by rw [List.all_cons, h.1]; rfl) v s h.2) (fun _ _ h => h.elim) (fun f s h => go h.1 f s h.2))
theorem gIsi_b {b : Bool} {st : Sto} : gIsi [.bl b, .ty "bool"] st = some (.bl true, st) := by simp only [gIsi, tyN, Option.bind_some]; rw [show kitB "bool" "bool" = some true by decide +kernel]; rfl
theorem gIsi_s {b : List Nat} {st : Sto} : gIsi [.str b, .ty "str"] st = some (.bl true, st) := by simp only [gIsi, tyN, Option.bind_some]; rw [show kitB "str" "str" = some true by decide +kernel]; rfl
theorem gIsi_is {b : Int} {st : Sto} : gIsi [.int b, .ty "str"] st = some (.bl false, st) := by simp only [gIsi, tyN, Option.bind_some]; rw [show kitB "int" "str" = some false by decide +kernel]; rfl
theorem gEq_si {s : List Nat} {i : Int} {st : Sto} : gEq (.str s) (.int i) st = some (.bl false, st) := rfl
theorem gEq_is {s : List Nat} {i : Int} {st : Sto} : gEq (.int i) (.str s) st = some (.bl false, st) := rfl
/-- plain data: what is compared -/
def Pd (n : Nat) (w : Va) (d : PyData) : Prop := toPy w = some d ∧ d.canLay0 = true ∧ d.depth ≤ n
theorem Pd.up {n m : Nat} {w : Va} {d : PyData} (h : Pd n w d) (hm : n ≤ m) : Pd m w d := ⟨h.1, h.2.1, Nat.le_trans h.2.2 hm⟩
theorem pd_i {i : Int} : Pd 0 (.int i) (.int i) := ⟨rfl, rfl, Nat.le_refl _⟩
theorem pd_b {i : Bool} : Pd 0 (.bl i) (.bool i) := ⟨rfl, rfl, Nat.le_refl _⟩
theorem pd_n : Pd 0 .non .none := ⟨rfl, rfl, Nat.le_refl _⟩
theorem pd_s {s : List Nat} (h : Cps s) : Pd 0 (.str s) (.str ⟨s.toArray⟩) := ⟨rfl, by
  show PyData.strOk _ = true
  simp only [PyData.strOk, List.size_toArray, decide_eq_true_eq, List.all_eq_true]
  simpa [Cps] using h, Nat.le_refl _⟩
theorem pd_all {n : Nat} : ∀ {ws : List Va}, (∀ w ∈ ws, ∃ d, Pd n w d) → ∃ ds, toPyL ws = some ds ∧ PyData.canLayAll0 ds = true ∧ PyData.depthAll ds ≤ n
  | [], _ => ⟨[], rfl, rfl, Nat.zero_le _⟩
  | w :: ws, h => by
    obtain ⟨d, h1, h2, h3⟩ := h w (by simp)
    obtain ⟨ds, e1, e2, e3⟩ := pd_all (ws := ws) fun x hx => h x (List.mem_cons_of_mem _ hx)
    refine ⟨d :: ds, by rw [toPyL, h1, e1]; rfl, by rw [PyData.canLayAll0, h2, e2]; rfl, ?_⟩
    rw [PyData.depthAll]; omega
theorem pd_t {n : Nat} {ws : List Va} (h : ∀ w ∈ ws, ∃ d, Pd n w d) : ∃ ds, Pd (n + 1) (.tup ws) (.tuple ds) ∧ toPyL ws = some ds := by
  obtain ⟨ds, e1, e2, e3⟩ := pd_all h
  exact ⟨ds, ⟨by rw [toPy, e1]; rfl, by rw [PyData.canLay0]; exact e2, by rw [PyData.depth]; omega⟩, e1⟩
theorem Pd.shaped {n : Nat} {w : Va} {d : PyData} (h : Pd n w d) (hn : n ≤ 64) : SeqAt.shaped d = true := by
  unfold SeqAt.shaped
  rw [h.2.1, Bool.true_and, decide_eq_true_eq]
  exact Nat.le_trans h.2.2 hn
theorem gEq_t {n : Nat} {xs ys : List Va} {d e : PyData} {st : Sto} (h1 : Pd n (.tup xs) d) (h2 : Pd n (.tup ys) e) (hn : n ≤ 64) : gEq (.tup xs) (.tup ys) st = some (.bl (PyData.eqv d e), st) := by
  simp only [gEq, eqVa, pyOf, h1.1, h2.1, Option.bind_some]
  rw [if_pos ⟨h1.shaped hn, h2.shaped hn⟩]; rfl
theorem gNe_t {n : Nat} {xs ys : List Va} {d e : PyData} {st : Sto} (h1 : Pd n (.tup xs) d) (h2 : Pd n (.tup ys) e) (hn : n ≤ 64) : gNe (.tup xs) (.tup ys) st = some (.bl (!PyData.eqv d e), st) := by
  simp only [gNe, eqVa, pyOf, h1.1, h2.1, Option.bind_some]
  rw [if_pos ⟨h1.shaped hn, h2.shaped hn⟩]; rfl
def isI : Va → Bool
  | .int _ => true
  | _ => false
theorem kitB_sb : kitB "str" "str" = some true := by decide +kernel
theorem kitB_is : kitB "int" "str" = some false := by decide +kernel
theorem kitB_bb : kitB "bool" "bool" = some true := by decide +kernel
end T3
/-! T3, fifteenth part: pure comprehensions over lists of the store; lists put together -/
namespace T3
open PySem PySem.Spec PyProof.Rows L2
section
variable {e : Dw} {a : Nat} {L M : Sto} {Q : Va → Sto → Prop} {fm : Fm} {st : Sto}
theorem wp_lcQ {fi : Fi} {fg : Fg} {ft : Et} {fe : Ev} {vs : List Nat} {ws : List Va} {gd : Sto → Prop} (t : Va → Bool) (f : Va → Va) (hi : fi fm (W e a L M) = some (⟨ws, gd⟩, W e a L M)) (hgd : ∀ X, gd (W e a L (M ++ X))) (hz : ws.length < 16777216)
    (h : ∀ w ∈ ws, ∃ fm1, fg w (wip fm vs) = some fm1 ∧ ∀ M', (∃ M'', M' = M ++ M'') → Wp (ft fm1 (W e a L M')) fun b s => b = t w ∧ s = W e a L M' ∧ (t w = true → Wp (fe fm1 (W e a L M')) fun y s => s = W e a L M' ∧ y = f w))
    (hq : Q (.ref (e.p L + M.length)) (W e a L (M ++ [.lst ((ws.filter t).map f)]))) : Wp (eLc fi fg ft fe vs fm (W e a L M)) Q := by
  refine wp_lc ⟨_, _, hi, fun i s => s = W e a L (M ++ [.lst (((ws.take i).filter t).map f)]), (by rintro i s rfl; exact hgd _), by rw [W_push]; simp, ?_, ?_⟩
  · intro i w hw
    obtain ⟨fm1, e1, h1⟩ := h w (List.mem_of_getElem? hw)
    have hil : i < ws.length := (List.getElem?_eq_some_iff.mp hw).1
    have ht : ws.take (i + 1) = ws.take i ++ [w] := by rw [List.take_succ, hw]; rfl
    refine ⟨fm1, e1, ?_⟩
    rintro s1 rfl
    refine (h1 _ ⟨_, rfl⟩).imp ?_
    rintro b s2 ⟨rfl, rfl, h2⟩
    refine ⟨fun hb => (h2 hb).imp ?_, fun hb => ?_⟩
    · rintro y s3 ⟨rfl, rfl⟩
      refine ⟨((ws.take i).filter t).map f, by rw [W_len, W_get]; simp, ?_, ?_⟩
      · rw [List.length_map]
        have := List.length_filter_le t (ws.take i)
        rw [List.length_take] at this
        omega
      · dsimp only
        rw [W_len, W_set, ht]
        simp [hb]
    · dsimp only
      rw [ht]; simp [hb]
  · rintro s' rfl
    rw [W_len, List.take_length]
    exact hq
theorem wp_listT {ws : List Va} (h : Q (.ref (e.p L + M.length)) (W e a L (M ++ [.lst ws]))) : Wp (gList [.tup ws] (W e a L M)) Q := by
  refine ⟨_, _, rfl, ?_⟩
  rw [W_len, W_push]; exact h
theorem wp_addL {j k : Nat} {xs ys : List Va} (h1 : M[k]? = some (.lst xs)) (h2 : M[j]? = some (.lst ys)) (hz : xs.length + ys.length ≤ 16777216) (h : Q (.ref (e.p L + M.length)) (W e a L (M ++ [.lst (xs ++ ys)]))) :
    Wp (gAdd (.ref (e.p L + k)) (.ref (e.p L + j)) (W e a L M)) Q := by
  refine ⟨_, _, ?_, h⟩
  simp only [gAdd, W_get, h1, h2]
  rw [if_pos hz, W_len, W_push]
theorem inW_mk {k : Dw → Nat → Sto → Sto → Prop} (h : k e a L M) : InW (W e a L M) k := ⟨_, _, _, _, rfl, h⟩
end
theorem ex_bl {b : Bool} {P : Bool → Prop} (h : P b) : ∃ c, Va.bl b = .bl c ∧ P c := ⟨b, rfl, h⟩
theorem ex_int {b : Int} {P : Int → Prop} (h : P b) : ∃ c, Va.int b = .int c ∧ P c := ⟨b, rfl, h⟩
theorem ex_int2 {b d : Int} {P : Int → Int → Prop} (h : P b d) : ∃ c f : Int, Va.int b = .int c ∧ Va.int d = .int f ∧ P c f := ⟨b, d, rfl, rfl, h⟩
theorem ex_some {α : Type} {x : Option α} {y : α} {P : α → Prop} (e : x = some y) (h : P y) : ∃ z, x = some z ∧ P z := ⟨y, e, h⟩
theorem and_len {α : Type} {ws : List α} {n : Nat} {p : Prop} (h : ws.length = n) (q : p) : ws.length = n ∧ p := ⟨h, q⟩
theorem and_hty {T : String} {w : Va} {st : Sto} {p : Prop} (h : hasTy T w st = true) (q : p) : hasTy T w st = true ∧ p := ⟨h, q⟩
theorem and_le {α : Type} {ws : List α} {n : Nat} {p : Prop} (h : ws.length ≤ n) (q : p) : ws.length ≤ n ∧ p := ⟨h, q⟩
theorem and_bd {b : Prop} {n : Int} {p : Prop} (h : (-1000000000 : Int) ≤ n ∧ b) (q : p) : ((-1000000000 : Int) ≤ n ∧ b) ∧ p := ⟨h, q⟩
theorem If_tr {b : Bool} {A B : Prop} (h : b = true) (q : A) : If b A B := by subst h; exact If.t q
theorem If_fa {b : Bool} {A B : Prop} (h : b = false) (q : B) : If b A B := by subst h; exact If.f q
/-- a statement by what holds behind it -/
theorem ss_cut {f g : Sm} {fm : Fm} {st : Sto} {N : Fm → Sto → Prop} {R : Va → Sto → Prop} {B C : Fm → Sto → Prop} (P : Fm → Sto → Prop) (h : Ws (f fm st) P R B C) (k : ∀ fm s, P fm s → Ws (g fm s) N R B C) : Ws (sCons f g fm st) N R B C :=
  ss_c (h.imp k (fun _ _ h => h) (fun _ _ h => h) (fun _ _ h => h))
/-- a for's turns by what holds behind them -/
theorem wl_cut {gd : Sto → Prop} {fg : Fg} {body : Sm} {ws : List Va} {fm : Fm} {st : Sto} {N : Fm → Sto → Prop} {R : Va → Sto → Prop} (P : Fm → Sto → Prop) (h : Wl gd fg body ws fm st P R) (k : ∀ fm s, P fm s → N fm s) : Wl gd fg body ws fm st N R :=
  Ws.imp h k (fun _ _ h => h) (fun _ _ h => h) (fun _ _ h => h)
/-- what is handed back is a thing of the def's own -/
theorem fin_up {e : Dw} {a b : Nat} {L M : Sto} {k : Nat} : fin (W e a L []) (.ref (e.p L + k)) (W e b L M) = (.ref (e.p L + k), W e b L M) := by
  unfold fin
  rw [if_neg]
  rintro ⟨h, _⟩
  rw [und_ref, decide_eq_true_eq, W_len] at h
  simp at h
  omega
theorem wp_revW {e : Dw} {a : Nat} {L M : Sto} {Q : Va → Sto → Prop} {k : Nat} {ws : List Va} (hM : M[k]? = some (.lst ws)) (h : Q (.ref (e.p L + M.length)) (W e a L (M ++ [.lst ws.reverse]))) : Wp (gRev (.ref (e.p L + k)) (W e a L M)) Q := by
  refine ⟨_, _, ?_, h⟩
  simp only [gRev, itemsOf, W_get, hM, Option.map_some]
  rw [W_len, W_push]
theorem we_dit0 {fm : Fm} {st : Sto} {Q : Va → Sto → Prop} (h : InW st fun e a L M => Q (.ref (e.p L + M.length)) (W e a L (M ++ [.dit []]))) : Wp (eDit0 fm st) Q := by
  obtain ⟨e, a, L, M, rfl, h⟩ := h
  refine ⟨_, _, rfl, ?_⟩
  rw [W_len, W_push]; exact h
theorem we_dic0 {fm : Fm} {st : Sto} {Q : Va → Sto → Prop} (h : InW st fun e a L M => Q (.ref (e.p L + M.length)) (W e a L (M ++ [.dic []]))) : Wp (eDic0 fm st) Q := by
  obtain ⟨e, a, L, M, rfl, h⟩ := h
  refine ⟨_, _, rfl, ?_⟩
  rw [W_len, W_push]; exact h
theorem get_D {l : List Nat} {p : Nat} (h : p < l.length) : l[p]? = some ((l[p]?).getD 0) := by
  rw [List.getElem?_eq_getElem h]; rfl
end T3
/-! T3: rules by what is wanted behind, for the later combinators -/
namespace T3
open PySem PySem.Spec PyProof.Rows L2
section
variable {fm : Fm} {st : Sto} {N : Fm → Sto → Prop} {R : Va → Sto → Prop} {B C : Fm → Sto → Prop} {i j l : Nat}
theorem ss_par {fa : Evs} (h : Wp (fa fm st) fun ws s => ∃ u v, ws = [u, v] ∧ N ((fm.set i (some u)).set j (some v)) s) : Ws (sPar i j fa fm st) N R B C :=
  ws_bind (h.imp fun ws s ⟨u, v, e, h⟩ => by subst e; exact ⟨_, _, _, rfl, h⟩)
theorem ss_par3 {fa : Evs} (h : Wp (fa fm st) fun ws s => ∃ u v w, ws = [u, v, w] ∧ N (((fm.set i (some u)).set j (some v)).set l (some w)) s) : Ws (sPar3 i j l fa fm st) N R B C :=
  ws_bind (h.imp fun ws s ⟨u, v, w, e, h⟩ => by subst e; exact ⟨_, _, _, rfl, h⟩)
theorem ex_l2 {a b : Va} {P : Va → Va → Prop} (h : P a b) : ∃ u v, [a, b] = [u, v] ∧ P u v := ⟨_, _, rfl, h⟩
theorem ex_l3 {a b c : Va} {P : Va → Va → Va → Prop} (h : P a b c) : ∃ u v w, [a, b, c] = [u, v, w] ∧ P u v w := ⟨_, _, _, rfl, h⟩
theorem ss_aug {g : Va → Va → Sto → Option (Va × Sto)} {x : Va} {f : Ev} (e : fm[i]? = some (some x)) (h : Wp (f fm st) fun w s => Wp (g x w s) fun z s' => N (fm.set i (some z)) s') : Ws (sAug i g f fm st) N R B C := by
  obtain ⟨w, s, e1, z, s', e2, h⟩ := h
  refine ⟨.nx, _, _, ?_, h⟩
  simp only [sAug, e, e1, e2, Option.bind_some]
theorem wp_augA {a b : Int} {Q : Va → Sto → Prop} (h : Q (.int (a + b)) st) : Wp (gAddI (.int a) (.int b) st) Q := wp_of rfl h
theorem wp_augB {a b : Int} {Q : Va → Sto → Prop} (h : Q (.int (a - b)) st) : Wp (gSubI (.int a) (.int b) st) Q := wp_of rfl h
theorem wi_en {f : Ev} {Q : Src → Sto → Prop} (h : Wp (f fm st) fun w s => ∃ S, enOf w s = some S ∧ Q S s) : Wp (iEn f fm st) Q :=
  wp_bind (h.imp fun w s ⟨S, e, h⟩ => ⟨S, s, by simp only [e, Option.map_some], h⟩)
theorem wi_rv {f : Ev} {Q : Src → Sto → Prop} (h : Wp (f fm st) fun w s => ∃ S, revOf w s = some S ∧ Q S s) : Wp (iRv f fm st) Q :=
  wp_bind (h.imp fun w s ⟨S, e, h⟩ => ⟨S, s, by simp only [e, Option.map_some], h⟩)
end
theorem cut_from {α : Type} {xs : List α} {k : Nat} : cutL xs (some (k : Int)) none = xs.drop k := by
  unfold cutL
  rw [HT.sIx_nat, HT.sIx_none]
  by_cases h : k ≤ xs.length
  · rw [Nat.min_eq_left h, List.take_of_length_le (by rw [List.length_drop]; omega)]
  · rw [Nat.min_eq_right (by omega), List.drop_length, List.drop_eq_nil_of_le (by omega)]; simp
theorem cut_to {α : Type} {xs : List α} {k : Nat} : cutL xs none (some (k : Int)) = xs.take k := by
  unfold cutL
  rw [HT.sIx_nat, HT.sIx_none, List.drop_zero, Nat.sub_zero]
  by_cases h : k ≤ xs.length
  · rw [Nat.min_eq_left h]
  · rw [Nat.min_eq_right (by omega), List.take_length, List.take_of_length_le (by omega)]
end T3
set_option maxHeartbeats 4000000
/-! things that may stand anywhere, letters, what all() of a generator expression gives -/
namespace T3
open PySem PySem.Spec PyProof.Rows L2
/-! things: what may stand anywhere in a bent machine -/
def thA (b : Nat) (w : Va) : Prop := w = .non ∨ (∃ i, w = .bl i) ∨ (∃ i, w = .int i) ∨ ∃ s, w = .str s ∧ s.length ≤ b ∧ Cps s
def TD (b : Nat) : Nat → Va → Prop
  | 0, w => thA b w
  | n + 1, w => thA b w ∨ ∃ ws, w = .tup ws ∧ ws.length ≤ b ∧ ∀ x ∈ ws, TD b n x
theorem TD.ofA {b : Nat} {w : Va} (h : thA b w) : ∀ n, TD b n w
  | 0 => h
  | n + 1 => .inl h
theorem TD.up {b : Nat} : ∀ {n : Nat} {w : Va}, TD b n w → TD b (n + 1) w
  | 0, w, h => .inl h
  | n + 1, w, h => by
    rcases h with h | ⟨ws, rfl, hl, hx⟩
    · exact .inl h
    · exact .inr ⟨ws, rfl, hl, fun x hx' => TD.up (hx x hx')⟩
theorem thA.wide {b c : Nat} (hbc : b ≤ c) {w : Va} (h : thA b w) : thA c w := by
  rcases h with h | h | h | ⟨s, rfl, h1, h2⟩
  · exact .inl h
  · exact .inr (.inl h)
  · exact .inr (.inr (.inl h))
  · exact .inr (.inr (.inr ⟨s, rfl, by omega, h2⟩))
theorem TD.wide {b c : Nat} (hbc : b ≤ c) : ∀ {n : Nat} {w : Va}, TD b n w → TD c n w
  | 0, w, h => thA.wide hbc h
  | n + 1, w, h => by
    rcases h with h | ⟨ws, rfl, hl, hx⟩
    · exact .inl (thA.wide hbc h)
    · exact .inr ⟨ws, rfl, by omega, fun x hx' => TD.wide hbc (hx x hx')⟩
theorem thA.flat {b : Nat} {w : Va} (h : thA b w) : w.flat := by
  rcases h with rfl | ⟨i, rfl⟩ | ⟨i, rfl⟩ | ⟨s, rfl, _⟩ <;> rfl
theorem TD.flat {b : Nat} : ∀ {n : Nat} {w : Va}, TD b n w → w.flat
  | 0, w, h => thA.flat h
  | n + 1, w, h => by
    rcases h with h | ⟨ws, rfl, hl, hx⟩
    · exact thA.flat h
    · exact flat_t fun x hx' => TD.flat (hx x hx')
theorem thA.pd {b : Nat} {w : Va} (h : thA b w) : ∃ d, Pd 0 w d := by
  rcases h with rfl | ⟨i, rfl⟩ | ⟨i, rfl⟩ | ⟨s, rfl, _, hc⟩
  · exact ⟨_, pd_n⟩
  · exact ⟨_, pd_b⟩
  · exact ⟨_, pd_i⟩
  · exact ⟨_, pd_s hc⟩
theorem TD.pd {b : Nat} : ∀ {n : Nat} {w : Va}, TD b n w → ∃ d, Pd n w d
  | 0, w, h => thA.pd h
  | n + 1, w, h => by
    rcases h with h | ⟨ws, rfl, hl, hx⟩
    · obtain ⟨d, hd⟩ := thA.pd h
      exact ⟨d, hd.up (Nat.zero_le _)⟩
    · obtain ⟨ds, h1, _⟩ := pd_t (n := n) (ws := ws) fun w hw => TD.pd (hx w hw)
      exact ⟨_, h1⟩
/-- the five kinds -/
theorem TD.cases {b n : Nat} {w : Va} (h : TD b n w) : w = .non ∨ (∃ i, w = .bl i) ∨ (∃ i, w = .int i) ∨ (∃ s, w = .str s ∧ s.length ≤ b ∧ Cps s) ∨ ∃ ws, w = .tup ws ∧ ws.length ≤ b ∧ ∀ x ∈ ws, TD b (n - 1) x := by
  cases n with
  | zero =>
    rcases h with h | h | h | h
    · exact .inl h
    · exact .inr (.inl h)
    · exact .inr (.inr (.inl h))
    · exact .inr (.inr (.inr (.inl h)))
  | succ n =>
    rcases h with (h | h | h | h) | h
    · exact .inl h
    · exact .inr (.inl h)
    · exact .inr (.inr (.inl h))
    · exact .inr (.inr (.inr (.inl h)))
    · exact .inr (.inr (.inr (.inr h)))
/-! classes of things -/
def isT : Va → Bool
  | .tup _ => true
  | _ => false
def isSt : Va → Bool
  | .str _ => true
  | _ => false
def isB : Va → Bool
  | .bl _ => true
  | _ => false
def isIn : Va → Bool
  | .bl _ => true
  | .int _ => true
  | _ => false
section
variable {b n : Nat} {w : Va} {st : Sto}
theorem isi_t (h : TD b n w) : gIsi [w, .ty "tuple"] st = some (.bl (isT w), st) := by
  rcases h.cases with rfl | ⟨i, rfl⟩ | ⟨i, rfl⟩ | ⟨s, rfl, _⟩ | ⟨ws, rfl, _⟩ <;> simp only [gIsi, tyN, Option.bind_some]
  · rw [show kitB "NoneType" "tuple" = some false by decide +kernel]; rfl
  · rw [show kitB "bool" "tuple" = some false by decide +kernel]; rfl
  · rw [show kitB "int" "tuple" = some false by decide +kernel]; rfl
  · rw [show kitB "str" "tuple" = some false by decide +kernel]; rfl
  · rw [show kitB "tuple" "tuple" = some true by decide +kernel]; rfl
theorem isi_s (h : TD b n w) : gIsi [w, .ty "str"] st = some (.bl (isSt w), st) := by
  rcases h.cases with rfl | ⟨i, rfl⟩ | ⟨i, rfl⟩ | ⟨s, rfl, _⟩ | ⟨ws, rfl, _⟩ <;> simp only [gIsi, tyN, Option.bind_some]
  · rw [show kitB "NoneType" "str" = some false by decide +kernel]; rfl
  · rw [show kitB "bool" "str" = some false by decide +kernel]; rfl
  · rw [show kitB "int" "str" = some false by decide +kernel]; rfl
  · rw [show kitB "str" "str" = some true by decide +kernel]; rfl
  · rw [show kitB "tuple" "str" = some false by decide +kernel]; rfl
theorem isi_b (h : TD b n w) : gIsi [w, .ty "bool"] st = some (.bl (isB w), st) := by
  rcases h.cases with rfl | ⟨i, rfl⟩ | ⟨i, rfl⟩ | ⟨s, rfl, _⟩ | ⟨ws, rfl, _⟩ <;> simp only [gIsi, tyN, Option.bind_some]
  · rw [show kitB "NoneType" "bool" = some false by decide +kernel]; rfl
  · rw [show kitB "bool" "bool" = some true by decide +kernel]; rfl
  · rw [show kitB "int" "bool" = some false by decide +kernel]; rfl
  · rw [show kitB "str" "bool" = some false by decide +kernel]; rfl
  · rw [show kitB "tuple" "bool" = some false by decide +kernel]; rfl
theorem isi_i (h : TD b n w) : gIsi [w, .ty "int"] st = some (.bl (isIn w), st) := by
  rcases h.cases with rfl | ⟨i, rfl⟩ | ⟨i, rfl⟩ | ⟨s, rfl, _⟩ | ⟨ws, rfl, _⟩ <;> simp only [gIsi, tyN, Option.bind_some]
  · rw [show kitB "NoneType" "int" = some false by decide +kernel]; rfl
  · rw [show kitB "bool" "int" = some true by decide +kernel]; rfl
  · rw [show kitB "int" "int" = some true by decide +kernel]; rfl
  · rw [show kitB "str" "int" = some false by decide +kernel]; rfl
  · rw [show kitB "tuple" "int" = some false by decide +kernel]; rfl
end
/-! what is right -/
def goalOk (m : Nat) : Va → Bool
  | .int i => decide (0 ≤ i ∧ i < m)
  | _ => false
def rowOk (k m : Nat) : Va → Bool
  | .tup ws => decide (ws.length = k) && ws.all (goalOk m)
  | _ => false
def goalsOk (k : Nat) : Va → Bool
  | .tup ws => (!ws.isEmpty) && ws.all (rowOk k ws.length)
  | _ => false
def sizedB (k : Nat) : Va → Bool
  | .tup ws => decide (ws.length = k)
  | _ => false
def abc : List Nat := [97, 98, 99, 100, 101, 102, 103, 104, 105, 106, 107, 108, 109, 110, 111, 112, 113, 114, 115, 116, 117, 118, 119, 120, 121, 122]
theorem abc_mem : ∀ k < 26, 97 + k ∈ abc := by decide
theorem abc_low : ∀ c ∈ abc, 97 ≤ c ∧ c ≤ 122 := by decide
def ascB (s : List Nat) : Bool := (List.range (s.length - 1)).all fun i => decide ((s[i]?).getD 0 < (s[i + 1]?).getD 0)
def lettersOk (s : List Nat) : Bool := decide (1 ≤ s.length ∧ s.length ≤ 6) && (s.all fun c => decide (c ∈ abc)) && ascB s
def letOk : Va → Bool
  | .str s => lettersOk s
  | _ => false
theorem asc_iff (s : List Nat) : ascB s = true ↔ s.Pairwise (· < ·) := by
  unfold ascB
  rw [List.all_eq_true, List.pairwise_iff_getElem]
  constructor
  · intro h
    have step : ∀ i (hi : i + 1 < s.length), s[i] < s[i + 1] := fun i hi => by
      have := h i (List.mem_range.mpr (by omega))
      simpa [hi, show i < s.length by omega] using this
    have key : ∀ d i (hj : i + d + 1 < s.length), s[i] < s[i + d + 1] := by
      intro d
      induction d with
      | zero => intro i hj; exact step i hj
      | succ d ih =>
        intro i hj
        have h1 := ih i (by omega)
        have h2 := step (i + d + 1) (by omega)
        exact Nat.lt_trans h1 (by simpa [Nat.add_assoc] using h2)
    intro i j hi hj hij
    obtain ⟨d, rfl⟩ : ∃ d, j = i + d + 1 := ⟨j - i - 1, by omega⟩
    exact key d i hj
  · intro h i hi
    have hi' : i + 1 < s.length := by have := List.mem_range.mp hi; omega
    have := h i (i + 1) (by omega) hi' (by omega)
    simpa [hi', show i < s.length by omega] using this
theorem lt_one (c d : Nat) : decide ([c] < [d]) = decide (c < d) := by
  have : [c] < [d] ↔ c < d := by rw [List.cons_lt_cons_iff]; simp
  exact decide_eq_decide.mpr this
theorem lc_of {fi : Fi} {fg : Fg} {ft : Et} {fe : Ev} {vs : List Nat} {fm : Fm} {st s : Sto} {S : Src} {Q : Va → Sto → Prop} (e1 : fi fm st = some (S, s)) (h : Wp (eLc (fun _ st => some (S, st)) fg ft fe vs fm s) Q) : Wp (eLc fi fg ft fe vs fm st) Q := by
  obtain ⟨w, s', e2, q⟩ := h
  refine ⟨w, s', ?_, q⟩
  unfold eLc at e2 ⊢
  rw [e1]
  exact e2
theorem lc_hit2 {fi : Fi} {fg : Fg} {ft : Et} {fe : Ev} {vs : List Nat} {fm : Fm} {st : Sto} {n : Nat} {Q : Va → Sto → Prop} (hit : Wp (fi fm st) (fun S s => S = ⟨rngW 0 n, fun _ => True⟩ ∧ s = st))
    (h : Wp (eLc (fun _ st => some (⟨rngW 0 n, fun _ => True⟩, st)) fg ft fe vs fm st) Q) : Wp (eLc fi fg ft fe vs fm st) Q := by
  obtain ⟨S', s', e1, rfl, rfl⟩ := hit
  exact lc_of e1 h
theorem rngW_map {n : Nat} {f : Va → Va} : (rngW 0 n).map f = (List.range n).map fun k => f (.int (k : Nat)) := by
  apply List.ext_getElem?
  intro i
  rw [List.getElem?_map, List.getElem?_map]
  by_cases hi : i < n
  · have hr : i < (rngW 0 n).length := by rw [rng_len]; exact hi
    obtain ⟨e1, _⟩ := rng_get (List.getElem?_eq_getElem hr)
    rw [List.getElem?_eq_getElem hr, e1, List.getElem?_range hi, Option.map_some, Option.map_some, show (0 : Int) + (i : Int) = (i : Nat) by omega]
  · rw [List.getElem?_eq_none (by rw [rng_len]; omega), List.getElem?_eq_none (by simp; omega)]; rfl
theorem usort_asc (ns : List Int) : (usort ns).Pairwise (· < ·) := by
  have h1 := srtB_srt totI (dedup ns)
  have h2 : (usort ns).Nodup := (srtB_perm _).nodup_iff.mpr (dedup_nd ns)
  unfold usort at *
  have key : ∀ l : List Int, l.Pairwise (fun a b => ltI b a = false) → l.Nodup → l.Pairwise (· < ·) := by
    intro l
    induction l with
    | nil => intro _ _; exact .nil
    | cons x l ih =>
      intro h d
      obtain ⟨a1, a2⟩ := List.pairwise_cons.mp h
      obtain ⟨b1, b2⟩ := List.nodup_cons.mp d
      refine List.pairwise_cons.mpr ⟨fun y hy => ?_, ih a2 b2⟩
      have := a1 y hy
      simp only [ltI, decide_eq_false_iff_not] at this
      have hne : x ≠ y := fun e => b1 (e ▸ hy)
      omega
  exact key _ h1 h2
theorem blsOf_map : ∀ bs : List Bool, blsOf (bs.map Va.bl) = some bs
  | [] => rfl
  | b :: bs => by simp [blsOf, blsOf_map bs]
section
variable {e : Dw} {a : Nat} {L M : Sto} {Q : Va → Sto → Prop}
theorem wp_allW {k : Nat} {bs : List Bool} (hM : M[k]? = some (.lst (bs.map Va.bl))) (h : Q (.bl (bs.all id)) (W e a L M)) : Wp (gAll [.ref (e.p L + k)] (W e a L M)) Q := by
  refine wp_of (w := .bl (bs.all id)) (st' := W e a L M) ?_ h
  simp only [gAll, itemsOf, W_get, hM, Option.bind_some, blsOf_map, Option.map_some]
/-- False in [..] of bools -/
theorem wp_noW {k : Nat} {bs : List Bool} (hM : M[k]? = some (.lst (bs.map Va.bl))) (h : Q (.bl (!bs.all id)) (W e a L M)) : Wp (gIn (.bl false) (.ref (e.p L + k)) (W e a L M)) Q := by
  have ha : ∀ bs : List Bool, atomsV (bs.map Va.bl) = some (bs.map V.bl) := by
    intro bs
    induction bs with
    | nil => rfl
    | cons b bs ih => simp [atomsV, atomV, ih]
  have hv : ∀ bs : List Bool, inV (.bl false) (bs.map V.bl) = !bs.all id := by
    intro bs
    unfold inV
    induction bs with
    | nil => rfl
    | cons b bs ih =>
      rw [List.map_cons, List.any_cons, ih, List.all_cons]
      cases b <;> rfl
  refine wp_of (w := .bl (!bs.all id)) (st' := W e a L M) ?_ h
  have e1 : inS (.bl false) (.ref (e.p L + k)) (W e a L M) = some (!bs.all id) := by
    simp only [inS, seqOf, itemsOf, W_get, hM, Option.bind_some, inSeq, atomV, ha]
    rw [hv]
  simp only [gIn, inW, e1, Option.map_some]
end
theorem eq_nil {b n : Nat} {ws : List Va} (h : TD b n (.tup ws)) (hn : n ≤ 60) (st : Sto) : gEq (.tup ws) (.tup []) st = some (.bl ws.isEmpty, st) := by
  obtain ⟨d, hd⟩ := h.pd
  obtain ⟨e1, e2, e3⟩ := hd
  have hsh := Pd.shaped ⟨e1, e2, e3⟩ (by omega)
  have h0 : Pd 1 (.tup []) (.tuple []) := by
    obtain ⟨ds, q, hq⟩ := pd_t (n := 0) (ws := []) fun w h => (List.not_mem_nil h).elim
    simp only [toPyL, Option.some.injEq] at hq
    subst hq
    exact q
  have hsh0 := h0.shaped (by omega)
  simp only [toPy, Option.map_eq_some_iff] at e1
  obtain ⟨ds, e4, rfl⟩ := e1
  simp only [gEq, eqVa, pyOf, toPy, toPyL, e4, Option.map_some, Option.bind_some]
  rw [if_pos ⟨hsh, hsh0⟩]
  have hl : ∀ (ws : List Va) (ds : List PyData), toPyL ws = some ds → PyData.eqv (.tuple ds) (.tuple []) = ws.isEmpty := by
    intro ws ds h
    cases ws with
    | nil => simp only [toPyL, Option.some.injEq] at h; subst h; rfl
    | cons w ws =>
      simp only [toPyL, Option.bind_eq_some_iff, Option.map_eq_some_iff] at h
      obtain ⟨d, _, ds', _, rfl⟩ := h
      rfl
  rw [hl _ _ e4]; rfl
theorem tup_in {b n : Nat} {ws : List Va} (h : TD b n (.tup ws)) : ws.length ≤ b ∧ ∀ x ∈ ws, TD b (n - 1) x := by
  rcases h.cases with h | ⟨i, h⟩ | ⟨i, h⟩ | ⟨s, h, _⟩ | ⟨ws, h, hl, hh⟩
  · cases h
  · cases h
  · cases h
  · cases h
  · cases h; exact ⟨hl, hh⟩
theorem TD.lift {b n m : Nat} (h : n ≤ m) {w : Va} (hw : TD b n w) : TD b m w := by
  obtain ⟨k, rfl⟩ := Nat.exists_eq_add_of_le h
  clear h
  induction k with
  | zero => exact hw
  | succ k ih => exact TD.up ih
theorem cps_small {s : List Nat} (h : ∀ c ∈ s, c < 128) : Cps s := fun c hc => by have := h c hc; omega
theorem td_str {b n : Nat} {s : List Nat} (hl : s.length ≤ b) (hc : Cps s) : TD b n (.str s) := TD.ofA (.inr (.inr (.inr ⟨s, rfl, hl, hc⟩))) n
theorem cps_app {s t : List Nat} (hs : Cps s) (ht : Cps t) : Cps (s ++ t) := fun c hc => by
  rcases List.mem_append.mp hc with h | h
  · exact hs c h
  · exact ht c h
def itT (w : Va) : List Va := match w with
  | .tup ws => ws
  | _ => []
def lenS : Va → Nat
  | .str s => s.length
  | _ => 0
theorem isT_of {w : Va} (h : isT w = true) : ∃ ws, w = .tup ws := by
  cases w <;> simp [isT] at h
  exact ⟨_, rfl⟩

def smallOk : Va → Bool
  | .str s => s.all fun c => decide (c ∈ abc)
  | _ => false
def isW (s0 : List Nat) : Va → Bool
  | .str s => decide (s = s0)
  | _ => false
/-- a thing and a text -/
theorem ne_str {b n : Nat} {w : Va} (h : TD b n w) (hn : n ≤ 60) {s0 : List Nat} (h0 : Cps s0) (st : Sto) : gNe w (.str s0) st = some (.bl (!isW s0 w), st) := by
  obtain ⟨d, hd⟩ := h.pd
  have hs := pd_s h0
  rcases h.cases with rfl | ⟨i, rfl⟩ | ⟨i, rfl⟩ | ⟨s, rfl, _⟩ | ⟨ws, rfl, _⟩
  · rfl
  · rfl
  · rfl
  · rfl
  · obtain ⟨e1, e2, e3⟩ := hd
    have hsh := Pd.shaped ⟨e1, e2, e3⟩ (by omega)
    have hsh2 := hs.shaped (by omega)
    simp only [toPy, Option.map_eq_some_iff] at e1
    obtain ⟨ds, e4, rfl⟩ := e1
    simp only [gNe, eqVa, pyOf, toPy, e4, Option.map_some, Option.bind_some]
    rw [if_pos ⟨hsh, hsh2⟩]
    rfl
/-! lists of texts -/
def sD (ls : List (List Nat)) : List PyData := ls.map fun s => PyData.str ⟨s.toArray⟩
theorem sD_py : ∀ ls : List (List Nat), toPyL (ls.map Va.str) = some (sD ls)
  | [] => rfl
  | n :: ns => by simp only [List.map_cons, toPyL, sD_py ns]; rfl
theorem sD_eqv : ∀ ns ms : List (List Nat), PyData.eqvAll (sD ns) (sD ms) = decide (ns = ms)
  | [], [] => rfl
  | [], _ :: _ => rfl
  | _ :: _, [] => rfl
  | n :: ns, m :: ms => by
    have e : PyData.eqvAll (sD (n :: ns)) (sD (m :: ms)) = (((⟨n.toArray⟩ : Str) == ⟨m.toArray⟩) && PyData.eqvAll (sD ns) (sD ms)) := by simp only [sD, List.map_cons, PyData.eqvAll, PyData.eqv]
    rw [e, sD_eqv ns ms, Bool.eq_iff_iff]
    simp
theorem sD_shaped {ls : List (List Nat)} (h : ∀ s ∈ ls, Cps s) : SeqAt.shaped (.list (sD ls)) = true := by
  obtain ⟨ds, e1, e2, e3⟩ := pd_all (n := 0) (ws := ls.map Va.str) fun w hw => by
    obtain ⟨s, hs, rfl⟩ := List.mem_map.mp hw
    exact ⟨_, pd_s (h s hs)⟩
  rw [sD_py] at e1
  cases e1
  show (PyData.canLay0 (.list (sD ls)) && decide (PyData.depth (.list (sD ls)) ≤ 64)) = true
  rw [Bool.and_eq_true]
  refine ⟨by simp only [PyData.canLay0]; exact e2, decide_eq_true ?_⟩
  simp only [PyData.depth]
  omega
theorem gEq_strs {m n : Nat} {ls ks : List (List Nat)} {st : Sto} (hm : st[m]? = some (.lst (ls.map Va.str))) (hn : st[n]? = some (.lst (ks.map Va.str))) (h1 : ∀ s ∈ ls, Cps s) (h2 : ∀ s ∈ ks, Cps s) : gEq (.ref m) (.ref n) st = some (.bl (decide (ls = ks)), st) := by
  simp only [gEq, eqVa, pyOf, hm, hn, sD_py, Option.map_some, Option.bind_some]
  rw [if_pos ⟨sD_shaped h1, sD_shaped h2⟩, PyData.eqv, sD_eqv]; rfl
theorem strW_sing (s : List Nat) : strW s = (s.map fun c => [c]).map Va.str := by rw [List.map_map]; rfl
theorem usortS_sing (s : List Nat) : usortS s = ((usort (s.map Int.ofNat)).map fun i => [i.toNat]).map Va.str := by rw [List.map_map]; rfl
/-- list(text) == sorted(set(text)) -/
theorem asc_set (s : List Nat) : decide ((s.map fun c => [c]) = (usort (s.map Int.ofNat)).map fun i => [i.toNat]) = ascB s := by
  rw [Bool.eq_iff_iff, decide_eq_true_iff, asc_iff]
  have back : ∀ i ∈ usort (s.map Int.ofNat), ((i.toNat : Nat) : Int) = i := fun i hi => by
    rw [usort_mem] at hi
    obtain ⟨c, _, rfl⟩ := List.mem_map.mp hi
    rfl
  constructor
  · intro h
    have e : s = (usort (s.map Int.ofNat)).map Int.toNat := by
      have := congrArg (List.map fun l : List Nat => l.headD 0) h
      simpa [List.map_map, Function.comp_def] using this
    have h2 := usort_asc (s.map Int.ofNat)
    rw [e, List.pairwise_map]
    refine List.Pairwise.imp_of_mem (fun {a b} ha hb hab => ?_) h2
    have := back a ha
    have := back b hb
    omega
  · intro h
    have e : s.map Int.ofNat = usort (s.map Int.ofNat) := usort_of (by
      rw [List.pairwise_map]
      exact h.imp fun {a b} hab => Int.ofNat_lt.mpr hab) fun k => Iff.rfl
    rw [← e, List.map_map]
    exact List.map_congr_left fun c _ => by simp
/-! all() of a generator expression that changes nothing -/
theorem gxL_pure {gd : Sto → Prop} {fe : Ev} {fm : Fm} {st : Sto} (p : Va → Bool) (hg : gd st) : ∀ ws : List Va, (∀ w ∈ ws, fe (fm ++ [some w]) st = some (.bl (p w), st)) → gxL gd false fe ws fm st = some (.bl (ws.all p), st)
  | [], _ => by simp only [gxL]; rw [if_pos hg]; rfl
  | w :: ws, h => by
    simp only [gxL]
    rw [if_pos hg, h w List.mem_cons_self]
    dsimp only [Option.bind_some]
    rw [List.all_cons]
    cases hp : p w with
    | false => rfl
    | true =>
      rw [if_neg (by decide)]
      simpa using gxL_pure p hg ws fun x hx => h x (List.mem_cons_of_mem _ hx)
theorem wp_gx {fi : Fi} {fe : Ev} {fm : Fm} {st : Sto} {ws : List Va} {gd : Sto → Prop} {Q : Va → Sto → Prop} (p : Va → Bool) (hi : fi fm st = some (⟨ws, gd⟩, st)) (hg : gd st) (h : ∀ w ∈ ws, Wp (fe (fm ++ [some w]) st) fun r s => r = .bl (p w) ∧ s = st) (hq : Q (.bl (ws.all p)) st) :
    Wp (eGx false fi fe fm st) Q := by
  refine wp_of (w := .bl (ws.all p)) (st' := st) ?_ hq
  unfold eGx
  rw [hi]
  exact gxL_pure p hg ws fun w hw => by
    obtain ⟨r, s, e, rfl, rfl⟩ := h w hw
    exact e
end T3
set_option maxHeartbeats 4000000
namespace L_k14
open PySem PySem.Spec PyProof.Rows L2 T3
/-! the forms: numbers, sizes, small texts, letters, tables of goals -/
theorem pick_is : m__law_pick = c_pick := rfl
theorem wp_eq {α : Type} {x : Option (α × Sto)} {w : α} {st : Sto} (h : Wp x fun r s => r = w ∧ s = st) : x = some (w, st) := by
  obtain ⟨r, s, e, rfl, rfl⟩ := h
  exact e
theorem number_eq {b n : Nat} {w : Va} (h : TD b n w) (m : Nat) (st : Sto) : m_is_number [w, .int m] st = some (.bl (goalOk m w), st) := by
  refine wp_eq ?_
  unfold m_is_number
  refine wp_fn rfl ?_
  (repeat (first |(with_reducible first |refine we_c ?_|refine we_a ?_|refine wa_c ?_|refine wa_n ?_|refine we_and ?_|refine ss_c ?_|refine ss_ret ?_) |(((with_reducible refine we_v (w := ?_) ?_ ?_); rotate_left; · rfl))))
  refine wp_of (isi_i h) ?_
  refine ⟨_, rfl, ?_⟩
  rcases h.cases with rfl | ⟨i, rfl⟩ | ⟨i, rfl⟩ | ⟨s, rfl, _⟩ | ⟨ws, rfl, _⟩
  · refine If.f ?_
    rw [fin_sb]
    exact And.intro rfl rfl
  · refine If.t ?_
    (repeat (first |(with_reducible first |refine we_c ?_|refine we_a ?_|refine wa_c ?_|refine wa_n ?_|refine we_not ?_|refine we_and ?_) |(((with_reducible refine we_v (w := ?_) ?_ ?_); rotate_left; · rfl))))
    refine wp_of (isi_b h) ?_
    (repeat (first |(with_reducible first |refine If.n ?_|refine ex_bl ?_) |(((with_reducible refine If_tr ?_ ?_); · rfl))))
    rw [fin_sb]
    exact And.intro rfl rfl
  · refine If.t ?_
    (repeat (first |(with_reducible first |refine we_c ?_|refine we_a ?_|refine wa_c ?_|refine wa_n ?_|refine we_not ?_|refine we_and ?_) |(((with_reducible refine we_v (w := ?_) ?_ ?_); rotate_left; · rfl))))
    refine wp_of (isi_b h) ?_
    (repeat (first |(with_reducible first |refine we_c ?_|refine we_ch ?_|refine wp_le ?_|refine If.n ?_|refine ex_bl ?_) |(((with_reducible refine we_v (w := ?_) ?_ ?_); rotate_left; · rfl)) |(((with_reducible refine If_fa ?_ ?_); · rfl))))
    refine If.d (fun h0 => ?_) (fun h0 => ?_)
    · (repeat (first |(with_reducible refine wp_lt ?_) |(((with_reducible refine we_v (w := ?_) ?_ ?_); rotate_left; · rfl))))
      rw [fin_sb]
      refine And.intro ?_ rfl
      simp [goalOk, h0]
    · skip
      rw [fin_sb]
      refine And.intro ?_ rfl
      simp [goalOk, h0]
  · refine If.f ?_
    rw [fin_sb]
    exact And.intro rfl rfl
  · refine If.f ?_
    rw [fin_sb]
    exact And.intro rfl rfl
theorem law_number_eq {b n : Nat} {w : Va} (h : TD b n w) (m : Nat) (st : Sto) : m__law_number [w, .int m] st = some (.bl (goalOk m w), st) := by
  refine wp_eq ?_
  unfold m__law_number
  refine wp_fn rfl ?_
  (repeat (first |(with_reducible first |refine we_c ?_|refine we_a ?_|refine wa_c ?_|refine wa_n ?_|refine we_and ?_|refine ss_c ?_|refine ss_ret ?_) |(((with_reducible refine we_v (w := ?_) ?_ ?_); rotate_left; · rfl))))
  refine wp_of (isi_i h) ?_
  refine ⟨_, rfl, ?_⟩
  rcases h.cases with rfl | ⟨i, rfl⟩ | ⟨i, rfl⟩ | ⟨s, rfl, _⟩ | ⟨ws, rfl, _⟩
  · refine If.f ?_
    rw [fin_sb]
    exact And.intro rfl rfl
  · refine If.t ?_
    (repeat (first |(with_reducible first |refine we_c ?_|refine we_a ?_|refine wa_c ?_|refine wa_n ?_|refine we_not ?_|refine we_and ?_) |(((with_reducible refine we_v (w := ?_) ?_ ?_); rotate_left; · rfl))))
    refine wp_of (isi_b h) ?_
    (repeat (first |(with_reducible first |refine If.n ?_|refine ex_bl ?_) |(((with_reducible refine If_tr ?_ ?_); · rfl))))
    rw [fin_sb]
    exact And.intro rfl rfl
  · refine If.t ?_
    (repeat (first |(with_reducible first |refine we_c ?_|refine we_a ?_|refine wa_c ?_|refine wa_n ?_|refine we_not ?_|refine we_and ?_) |(((with_reducible refine we_v (w := ?_) ?_ ?_); rotate_left; · rfl))))
    refine wp_of (isi_b h) ?_
    (repeat (first |(with_reducible first |refine we_c ?_|refine we_b ?_|refine we_and ?_|refine wp_ge ?_|refine If.n ?_|refine ex_bl ?_) |(((with_reducible refine we_v (w := ?_) ?_ ?_); rotate_left; · rfl)) |(((with_reducible refine If_fa ?_ ?_); · rfl))))
    refine If.d (fun h0 => ?_) (fun h0 => ?_)
    · (repeat (first |(with_reducible first |refine we_b ?_|refine wp_lt ?_) |(((with_reducible refine we_v (w := ?_) ?_ ?_); rotate_left; · rfl))))
      rw [fin_sb]
      refine And.intro ?_ rfl
      simp [goalOk, h0]
    · skip
      rw [fin_sb]
      refine And.intro ?_ rfl
      simp [goalOk, h0]
  · refine If.f ?_
    rw [fin_sb]
    exact And.intro rfl rfl
  · refine If.f ?_
    rw [fin_sb]
    exact And.intro rfl rfl
theorem sized_eq {b n : Nat} {w : Va} (h : TD b n w) (k : Nat) (st : Sto) : m_is_tuple_of [w, .int k] st = some (.bl (sizedB k w), st) := by
  refine wp_eq ?_
  unfold m_is_tuple_of
  refine wp_fn rfl ?_
  (repeat (first |(with_reducible first |refine we_c ?_|refine we_a ?_|refine wa_c ?_|refine wa_n ?_|refine we_and ?_|refine ss_c ?_|refine ss_ret ?_) |(((with_reducible refine we_v (w := ?_) ?_ ?_); rotate_left; · rfl))))
  refine wp_of (isi_t h) ?_
  refine ⟨_, rfl, ?_⟩
  rcases h.cases with rfl | ⟨i, rfl⟩ | ⟨i, rfl⟩ | ⟨s, rfl, _⟩ | ⟨ws, rfl, _⟩
  · refine If.f ?_
    rw [fin_sb]
    exact And.intro rfl rfl
  · refine If.f ?_
    rw [fin_sb]
    exact And.intro rfl rfl
  · refine If.f ?_
    rw [fin_sb]
    exact And.intro rfl rfl
  · refine If.f ?_
    rw [fin_sb]
    exact And.intro rfl rfl
  · refine If.t ?_
    (repeat (first |(with_reducible first |refine we_b ?_|refine we_a ?_|refine wa_c ?_|refine wa_n ?_|refine wp_eqi ?_|refine wp_lent ?_) |(((with_reducible refine we_v (w := ?_) ?_ ?_); rotate_left; · rfl))))
    rw [fin_sb]
    refine And.intro ?_ rfl
    simp only [sizedB, Int.ofNat_inj]
theorem law_sized_eq {b n : Nat} {w : Va} (h : TD b n w) (k : Nat) (st : Sto) : m__law_sized [w, .int k] st = some (.bl (sizedB k w), st) := by
  have : m__law_sized = m_is_tuple_of := rfl
  rw [this]
  exact sized_eq h k st
theorem string_eq {b n : Nat} {w : Va} (h : TD b n w) (st : Sto) : m_is_string [w] st = some (.bl (smallOk w), st) := by
  refine wp_eq ?_
  unfold m_is_string
  refine wp_fn rfl ?_
  (repeat (first |(with_reducible first |refine we_c ?_|refine we_a ?_|refine wa_c ?_|refine wa_n ?_|refine we_and ?_|refine ss_c ?_|refine ss_ret ?_) |(((with_reducible refine we_v (w := ?_) ?_ ?_); rotate_left; · rfl))))
  refine wp_of (isi_s h) ?_
  refine ⟨_, rfl, ?_⟩
  rcases h.cases with rfl | ⟨i, rfl⟩ | ⟨i, rfl⟩ | ⟨s, rfl, _⟩ | ⟨ws, rfl, _⟩
  · refine If.f ?_
    rw [fin_sb]
    exact And.intro rfl rfl
  · refine If.f ?_
    rw [fin_sb]
    exact And.intro rfl rfl
  · refine If.f ?_
    rw [fin_sb]
    exact And.intro rfl rfl
  · refine If.t ?_
    skip
    refine wp_gx (ws := strW s) (fun x => match x with | .str [c] => decide (c ∈ abc) | _ => false) rfl trivial (fun x hx => ?_) ?_
    · obtain ⟨i, hi⟩ := List.getElem?_of_mem hx
      obtain ⟨c, rfl, hc⟩ := strW_get hi
      (repeat (first |(with_reducible first |refine we_c ?_|refine we_b ?_) |(((with_reducible refine we_v (w := ?_) ?_ ?_); rotate_left; · rfl))))
      exact wp_of gIn_s ⟨rfl, rfl⟩
    · rw [fin_sb]
      refine And.intro ?_ rfl
      simp only [strW, List.all_map, smallOk]
      rfl
  · refine If.f ?_
    rw [fin_sb]
    exact And.intro rfl rfl
theorem law_small_eq {b n : Nat} {w : Va} (h : TD b n w) (hb : b ≤ 1000) (st : Sto) : m__law_small [w] st = some (.bl (smallOk w), st) := by
  refine wp_eq ?_
  unfold m__law_small
  refine wp_fn rfl ?_
  (repeat (first |(with_reducible first |refine we_c ?_|refine we_a ?_|refine wa_c ?_|refine wa_n ?_|refine wb_v ?_|refine wb_not ?_|refine ss_c ?_|refine ss_if ?_) |(((with_reducible refine we_v (w := ?_) ?_ ?_); rotate_left; · rfl))))
  refine wp_of (isi_s h) ?_
  refine ⟨_, rfl, ?_⟩
  rcases h.cases with rfl | ⟨i, rfl⟩ | ⟨i, rfl⟩ | ⟨s, rfl, _⟩ | ⟨ws, rfl, _⟩
  · refine If.t ?_
    (repeat (with_reducible first |refine we_c ?_|refine ss_c ?_|refine ss_ret ?_))
    rw [fin_sb]
    exact And.intro rfl rfl
  · refine If.t ?_
    (repeat (with_reducible first |refine we_c ?_|refine ss_c ?_|refine ss_ret ?_))
    rw [fin_sb]
    exact And.intro rfl rfl
  · refine If.t ?_
    (repeat (with_reducible first |refine we_c ?_|refine ss_c ?_|refine ss_ret ?_))
    rw [fin_sb]
    exact And.intro rfl rfl
  · refine If.f ?_
    (repeat (first |(with_reducible first |refine ss_n ?_|refine ss_c ?_|refine ss_for ?_|refine wi_a ?_) |(((with_reducible refine we_v (w := ?_) ?_ ?_); rotate_left; · rfl)) |(((with_reducible refine ex_some (y := ?_) ?_ ?_); rotate_left; · rfl))))
    refine wl_inv (fun i fm s' => Hd (∃ x, fm = [some (.str s), x] ∧ s' = st ∧ ∀ c ∈ s.take i, c ∈ abc)) (fun _ _ _ _ => trivial) (hd ⟨_, rfl, rfl, fun _ h => (List.not_mem_nil h).elim⟩) ?_ ?_
    · rintro i w hw fm s' ⟨x, rfl, rfl, hal⟩
      obtain ⟨c, rfl, hc⟩ := strW_get hw
      have htk : s.take (i + 1) = s.take i ++ [c] := by rw [List.take_succ, hc]; rfl
      refine ⟨_, rfl, ?_⟩
      (repeat (first |(with_reducible first |refine we_c ?_|refine wb_b ?_|refine ss_c ?_|refine ss_if ?_) |(((with_reducible refine we_v (w := ?_) ?_ ?_); rotate_left; · rfl))))
      refine wp_of (w := .bl (!decide (c ∈ abc))) rfl ?_
      refine ⟨_, rfl, ?_⟩
      by_cases hca : c ∈ abc
      · rw [decide_eq_true hca]
        refine If.f ?_
        (repeat (with_reducible refine ss_n ?_))
        refine hd ⟨_, rfl, rfl, fun d hd => ?_⟩
        rw [htk] at hd
        rcases List.mem_append.mp hd with h | h
        · exact hal d h
        · rw [List.mem_singleton.mp h]; exact hca
      · rw [decide_eq_false hca]
        refine If.t ?_
        (repeat (with_reducible first |refine we_c ?_|refine ss_c ?_|refine ss_ret ?_))
        rw [fin_sb]
        refine And.intro ?_ rfl
        have : (s.all fun c => decide (c ∈ abc)) = false := by
          rw [List.all_eq_false]
          exact ⟨c, List.mem_of_getElem? hc, by simp [hca]⟩
        simp only [smallOk, this]
    · rintro fm s' ⟨x, rfl, rfl, hal⟩
      dsimp only at hal
      rw [strW_len, List.take_length] at hal
      (repeat (with_reducible first |refine we_c ?_|refine ss_c ?_|refine ss_ret ?_))
      rw [fin_sb]
      refine And.intro ?_ rfl
      have : (s.all fun c => decide (c ∈ abc)) = true := List.all_eq_true.mpr fun c hc => decide_eq_true (hal c hc)
      simp only [smallOk, this]
  · refine If.t ?_
    (repeat (with_reducible first |refine we_c ?_|refine ss_c ?_|refine ss_ret ?_))
    rw [fin_sb]
    exact And.intro rfl rfl
end L_k14
set_option maxHeartbeats 4000000
namespace L_k14
open PySem PySem.Spec PyProof.Rows L2 T3
/-! letters, tables of goals -/
theorem cps_abc {s : List Nat} (h : ∀ c ∈ s, c ∈ abc) : Cps s := cps_small fun c hc => by have := abc_low c (h c hc); omega
theorem letters_eq {b n : Nat} {w : Va} (h : TD b n w) (hb : b ≤ 1000) (e : Dw) (a : Nat) (L : Sto) : Wp (m_is_letters [w] (W e a L [])) fun r s => r = .bl (letOk w) ∧ s = W e a L [] := by
  unfold m_is_letters
  refine wp_fn rfl ?_
  (repeat (first |(with_reducible first |refine we_c ?_|refine we_a ?_|refine wa_c ?_|refine wa_n ?_|refine wb_v ?_|refine wb_or ?_|refine wb_not ?_|refine ss_c ?_|refine ss_if ?_) |(((with_reducible refine we_v (w := ?_) ?_ ?_); rotate_left; · rfl))))
  refine wp_of (isi_s h) ?_
  refine ⟨_, rfl, ?_⟩
  rcases h.cases with rfl | ⟨i, rfl⟩ | ⟨i, rfl⟩ | ⟨s, rfl, hl, hcp⟩ | ⟨ws, rfl, _⟩
  · refine If.t ?_
    (repeat (first |(with_reducible first |refine we_c ?_|refine ss_c ?_|refine ss_ret ?_) |(((with_reducible refine If_tr ?_ ?_); · rfl))))
    rw [W_fin_b]
    exact ⟨rfl, rfl⟩
  · refine If.t ?_
    (repeat (first |(with_reducible first |refine we_c ?_|refine ss_c ?_|refine ss_ret ?_) |(((with_reducible refine If_tr ?_ ?_); · rfl))))
    rw [W_fin_b]
    exact ⟨rfl, rfl⟩
  · refine If.t ?_
    (repeat (first |(with_reducible first |refine we_c ?_|refine ss_c ?_|refine ss_ret ?_) |(((with_reducible refine If_tr ?_ ?_); · rfl))))
    rw [W_fin_b]
    exact ⟨rfl, rfl⟩
  · refine If.f ?_
    (repeat (first |(with_reducible first |refine we_c ?_|refine we_a ?_|refine wa_c ?_|refine wa_n ?_|refine wb_o ?_|refine wb_not ?_|refine we_ch ?_) |(((with_reducible refine we_v (w := ?_) ?_ ?_); rotate_left; · rfl))))
    refine wp_lens (by omega) ?_
    (repeat (with_reducible first |refine wp_le ?_|refine ex_bl ?_))
    have no : ¬ (1 ≤ s.length ∧ s.length ≤ 6) → ∀ M, (fin (W e a L []) (.bl false) (W e a L M)).1 = .bl (letOk (.str s)) ∧ (fin (W e a L []) (.bl false) (W e a L M)).2 = W e a L [] := fun hn M => by
      rw [W_fin_b]
      refine ⟨?_, rfl⟩
      simp only [letOk, lettersOk, hn, decide_false, Bool.false_and]
    refine If.d (fun h1 => ?_) (fun h1 => ?_)
    · (repeat (with_reducible first |refine we_c ?_|refine wp_le ?_|refine If.n ?_|refine ex_bl ?_))
      refine If.d (fun h2 => ?_) (fun h2 => ?_)
      · have hlen : 1 ≤ s.length ∧ s.length ≤ 6 := by omega
        (repeat (first |(with_reducible first |refine wa_c ?_|refine wa_n ?_|refine we_call ?_|refine we_and ?_|refine ss_n ?_|refine ss_c ?_|refine ss_ret ?_) |(((with_reducible refine we_v (w := ?_) ?_ ?_); rotate_left; · rfl)) |(((with_reducible refine and_len ?_ ?_); · rfl))))
        refine wp_of (string_eq h _) ?_
        (repeat (with_reducible refine ex_bl ?_))
        refine ⟨fun hsm => ?_, fun hsm => ?_⟩
        · have hall : ∀ c ∈ s, c ∈ abc := fun c hc => by
            have := List.all_eq_true.mp hsm c hc
            exact of_decide_eq_true this
          (repeat (first |(with_reducible first |refine we_b ?_|refine we_a ?_|refine wa_c ?_|refine wa_n ?_) |(((with_reducible refine we_v (w := ?_) ?_ ?_); rotate_left; · rfl))))
          refine wp_of (x := gList _ _) (w := .ref (e.p L + 0)) (st' := W e a L [.lst (strW s)]) ?_ ?_
          · simp only [gList]
            rw [if_pos (by omega), W_len, W_push]; rfl
          (repeat (first |(with_reducible first |refine we_a ?_|refine wa_c ?_|refine wa_n ?_) |(((with_reducible refine we_v (w := ?_) ?_ ?_); rotate_left; · rfl))))
          refine wp_of (x := gSrtSetA _ _) (w := .ref (e.p L + 1)) (st' := W e a L [.lst (strW s), .lst (usortS s)]) ?_ ?_
          · simp only [gSrtSetA, gSrtSetS]
            rw [if_pos (by omega), W_len, W_push]; rfl
          have g0 : (W e a L [.lst (strW s), .lst (usortS s)])[e.p L + 0]? = some (.lst ((s.map fun c => [c]).map Va.str)) := (W_get 0).trans (by rw [← strW_sing]; rfl)
          have g1 : (W e a L [.lst (strW s), .lst (usortS s)])[e.p L + 1]? = some (.lst (((usort (s.map Int.ofNat)).map fun i => [i.toNat]).map Va.str)) := (W_get 1).trans (by rw [← usortS_sing]; rfl)
          refine wp_of (gEq_strs g0 g1 (fun t ht => ?_) (fun t ht => ?_)) ?_
          · obtain ⟨c, hc, rfl⟩ := List.mem_map.mp ht
            exact cps_abc fun d hd => by rw [List.mem_singleton.mp hd]; exact hall c hc
          · obtain ⟨i, hi, rfl⟩ := List.mem_map.mp ht
            rw [usort_mem] at hi
            obtain ⟨c, hc, rfl⟩ := List.mem_map.mp hi
            exact cps_abc fun d hd => by rw [List.mem_singleton.mp hd]; exact hall c hc
          · rw [asc_set, W_fin_b]
            refine ⟨?_, rfl⟩
            have hsm' : (s.all fun c => decide (c ∈ abc)) = true := hsm
            simp only [letOk, lettersOk, hsm', hlen, and_self, decide_true, Bool.true_and]
        · rw [W_fin_b]
          refine ⟨?_, rfl⟩
          have hsm' : (s.all fun c => decide (c ∈ abc)) = false := hsm
          simp only [letOk, lettersOk, hsm', Bool.and_false, Bool.false_and]
      · (repeat (with_reducible first |refine we_c ?_|refine ss_c ?_|refine ss_ret ?_))
        exact no (by omega) _
    · (repeat (first |(with_reducible first |refine we_c ?_|refine ss_c ?_|refine ss_ret ?_|refine If.n ?_|refine ex_bl ?_) |(((with_reducible refine If_fa ?_ ?_); · rfl))))
      exact no (by omega) _
  · refine If.t ?_
    (repeat (first |(with_reducible first |refine we_c ?_|refine ss_c ?_|refine ss_ret ?_) |(((with_reducible refine If_tr ?_ ?_); · rfl))))
    rw [W_fin_b]
    exact ⟨rfl, rfl⟩
theorem law_letters_eq {b n : Nat} {w : Va} (h : TD b n w) (hb : b ≤ 1000) (e : Dw) (a : Nat) (L : Sto) : Wp (m__law_letters [w] (W e a L [])) fun r s => r = .bl (letOk w) ∧ s = W e a L [] := by
  unfold m__law_letters
  refine wp_fn rfl ?_
  (repeat (first |(with_reducible first |refine we_c ?_|refine we_a ?_|refine wa_c ?_|refine wa_n ?_|refine wb_v ?_|refine wb_or ?_|refine wb_not ?_|refine ss_c ?_|refine ss_if ?_) |(((with_reducible refine we_v (w := ?_) ?_ ?_); rotate_left; · rfl))))
  refine wp_of (isi_s h) ?_
  refine ⟨_, rfl, ?_⟩
  rcases h.cases with rfl | ⟨i, rfl⟩ | ⟨i, rfl⟩ | ⟨s, rfl, hl, hcp⟩ | ⟨ws, rfl, _⟩
  · refine If.t ?_
    (repeat (first |(with_reducible first |refine we_c ?_|refine ss_c ?_|refine ss_ret ?_) |(((with_reducible refine If_tr ?_ ?_); · rfl))))
    rw [W_fin_b]
    exact ⟨rfl, rfl⟩
  · refine If.t ?_
    (repeat (first |(with_reducible first |refine we_c ?_|refine ss_c ?_|refine ss_ret ?_) |(((with_reducible refine If_tr ?_ ?_); · rfl))))
    rw [W_fin_b]
    exact ⟨rfl, rfl⟩
  · refine If.t ?_
    (repeat (first |(with_reducible first |refine we_c ?_|refine ss_c ?_|refine ss_ret ?_) |(((with_reducible refine If_tr ?_ ?_); · rfl))))
    rw [W_fin_b]
    exact ⟨rfl, rfl⟩
  · refine If.f ?_
    (repeat (first |(with_reducible first |refine wa_c ?_|refine wa_n ?_|refine we_call ?_|refine wb_v ?_|refine wb_or ?_|refine wb_not ?_) |(((with_reducible refine we_v (w := ?_) ?_ ?_); rotate_left; · rfl)) |(((with_reducible refine and_len ?_ ?_); · rfl))))
    refine wp_of (law_small_eq h hb _) ?_
    refine ⟨_, rfl, ?_⟩
    have no : lettersOk s = false → ∀ M, (fin (W e a L []) (.bl false) (W e a L M)).1 = .bl (letOk (.str s)) ∧ (fin (W e a L []) (.bl false) (W e a L M)).2 = W e a L [] := fun hn M => by
      rw [W_fin_b]
      refine ⟨?_, rfl⟩
      simp only [letOk, hn]
    by_cases hsm : smallOk (.str s) = true
    · have hsm' : (s.all fun c => decide (c ∈ abc)) = true := hsm
      rw [hsm]
      refine If.f ?_
      (repeat (first |(with_reducible first |refine we_a ?_|refine wa_c ?_|refine wa_n ?_|refine wb_b ?_|refine wb_or ?_) |(((with_reducible refine we_v (w := ?_) ?_ ?_); rotate_left; · rfl))))
      refine wp_lens (by omega) ?_
      (repeat (with_reducible first |refine we_c ?_|refine wp_lt ?_|refine ex_bl ?_))
      refine If.d (fun h1 => ?_) (fun h1 => ?_)
      · (repeat (first |(with_reducible first |refine we_c ?_|refine ss_c ?_|refine ss_ret ?_) |(((with_reducible refine If_tr ?_ ?_); · rfl))))
        refine no ?_ _
        have : ¬ (1 ≤ s.length ∧ s.length ≤ 6) := by omega
        simp only [lettersOk, this, decide_false, Bool.false_and]
      · (repeat (first |(with_reducible first |refine we_a ?_|refine wa_c ?_|refine wa_n ?_|refine wb_b ?_) |(((with_reducible refine we_v (w := ?_) ?_ ?_); rotate_left; · rfl))))
        refine wp_lens (by omega) ?_
        (repeat (with_reducible first |refine we_c ?_|refine wp_gt ?_|refine ex_bl ?_))
        refine If.d (fun h2 => ?_) (fun h2 => ?_)
        · (repeat (with_reducible first |refine we_c ?_|refine ss_c ?_|refine ss_ret ?_))
          refine no ?_ _
          have : ¬ (1 ≤ s.length ∧ s.length ≤ 6) := by omega
          simp only [lettersOk, this, decide_false, Bool.false_and]
        · have hlen : 1 ≤ s.length ∧ s.length ≤ 6 := by omega
          (repeat (first |(with_reducible first |refine we_c ?_|refine we_a ?_|refine wa_c ?_|refine wa_n ?_|refine ss_n ?_|refine ss_c ?_|refine ss_for ?_|refine wi_r2 ?_) |(((with_reducible refine we_v (w := ?_) ?_ ?_); rotate_left; · rfl))))
          refine wp_lens (by omega) ?_
          (repeat (first |(with_reducible refine ex_int2 ?_) |(((with_reducible refine and_bd ?_ ?_); · first | decide | omega))))
          rw [show ((s.length : Int) - 1).toNat = s.length - 1 by omega]
          refine wl_inv (fun i fm s' => Hd (∃ x, fm = [some (.str s), x] ∧ s' = W e a L [] ∧ ∀ j, j < i → (s[j]?).getD 0 < (s[j + 1]?).getD 0)) (fun _ _ _ _ => trivial) (hd ⟨_, rfl, rfl, fun _ h => (Nat.not_lt_zero _ h).elim⟩) ?_ ?_
          · rintro i w hw fm s' ⟨x, rfl, rfl, hal⟩
            obtain ⟨rfl, hil⟩ := rng_get hw
            have g1 : s[i]? = some (s[i]'(by omega)) := List.getElem?_eq_getElem _
            have g2 : s[i + 1]? = some (s[i + 1]'(by omega)) := List.getElem?_eq_getElem _
            refine ⟨_, rfl, ?_⟩
            (repeat (first |(with_reducible first |refine we_c ?_|refine we_b ?_|refine wb_b ?_|refine ss_c ?_|refine ss_if ?_|refine wp_si ?_) |(((with_reducible refine we_v (w := ?_) ?_ ?_); rotate_left; · rfl))))
            refine wp_ixs (by omega) (c := s[i]'(by omega)) (by rw [show (1 : Int) + (i : Int) - 1 = (i : Nat) by omega, atI_n, g1]) ?_
            (repeat (first |(with_reducible refine we_b ?_) |(((with_reducible refine we_v (w := ?_) ?_ ?_); rotate_left; · rfl))))
            refine wp_ixs (by omega) (c := s[i + 1]'(by omega)) (by rw [show (1 : Int) + (i : Int) = ((i + 1 : Nat) : Int) by omega, atI_n, g2]) ?_
            refine wp_of (x := gGe _ _ _) (w := .bl (!decide (s[i]'(by omega) < s[i + 1]'(by omega)))) (by simp only [gGe]; rw [lt_one]) ?_
            refine ⟨_, rfl, ?_⟩
            by_cases hlt : s[i]'(by omega) < s[i + 1]'(by omega)
            · rw [decide_eq_true hlt]
              refine If.f ?_
              (repeat (with_reducible refine ss_n ?_))
              refine hd ⟨_, rfl, rfl, fun j hj => ?_⟩
              by_cases hji : j = i
              · subst hji
                rw [g1, g2]; exact hlt
              · exact hal j (by omega)
            · rw [decide_eq_false hlt]
              refine If.t ?_
              (repeat (with_reducible first |refine we_c ?_|refine ss_c ?_|refine ss_ret ?_))
              refine no ?_ _
              have : ascB s = false := by
                unfold ascB
                rw [List.all_eq_false]
                refine ⟨i, List.mem_range.mpr (by omega), ?_⟩
                rw [g1, g2]; simpa using hlt
              simp only [lettersOk, this, Bool.and_false]
          · rintro fm s' ⟨x, rfl, rfl, hal⟩
            dsimp only at hal
            rw [rng_len] at hal
            (repeat (with_reducible first |refine we_c ?_|refine ss_c ?_|refine ss_ret ?_))
            rw [W_fin_b]
            refine ⟨?_, rfl⟩
            have : ascB s = true := by
              unfold ascB
              rw [List.all_eq_true]
              exact fun i hi => decide_eq_true (hal i (List.mem_range.mp hi))
            simp only [letOk, lettersOk, this, hsm', hlen, and_self, decide_true, Bool.true_and]
    · have hsm0 : smallOk (.str s) = false := by simpa using hsm
      have hsm' : (s.all fun c => decide (c ∈ abc)) = false := hsm0
      rw [hsm0]
      refine If.t ?_
      (repeat (first |(with_reducible first |refine we_c ?_|refine ss_c ?_|refine ss_ret ?_) |(((with_reducible refine If_tr ?_ ?_); · rfl))))
      refine no ?_ _
      simp only [lettersOk, hsm', Bool.and_false, Bool.false_and]
  · refine If.t ?_
    (repeat (first |(with_reducible first |refine we_c ?_|refine ss_c ?_|refine ss_ret ?_) |(((with_reducible refine If_tr ?_ ?_); · rfl))))
    rw [W_fin_b]
    exact ⟨rfl, rfl⟩
/-! tables of goals -/
theorem sizedB_t {k : Nat} {w : Va} (h : sizedB k w = true) : ∃ ws, w = .tup ws ∧ ws.length = k := by
  cases w <;> simp [sizedB] at h
  exact ⟨_, rfl, h⟩
theorem sizedB_row {k m : Nat} {w : Va} (h : sizedB k w = false) : rowOk k m w = false := by
  cases w <;> simp [sizedB] at h <;> simp [rowOk, h]
theorem goals_no {k : Nat} {ws : List Va} {r : Va} (hr : r ∈ ws) (h : rowOk k ws.length r = false) : goalsOk k (.tup ws) = false := by
  have : ws.all (rowOk k ws.length) = false := List.all_eq_false.mpr ⟨r, hr, by rw [h]; exact Bool.false_ne_true⟩
  simp only [goalsOk, this, Bool.and_false]
theorem goals_eq {b n : Nat} {w : Va} (h : TD b n w) (k : Nat) (st : Sto) : m_is_goals [w, .int k] st = some (.bl (goalsOk k w), st) := by
  refine wp_eq ?_
  unfold m_is_goals
  refine wp_fn rfl ?_
  (repeat (first |(with_reducible first |refine we_c ?_|refine we_a ?_|refine wa_c ?_|refine wa_n ?_|refine wb_v ?_|refine wb_or ?_|refine wb_not ?_|refine ss_c ?_|refine ss_if ?_) |(((with_reducible refine we_v (w := ?_) ?_ ?_); rotate_left; · rfl))))
  refine wp_of (isi_t h) ?_
  refine ⟨_, rfl, ?_⟩
  rcases h.cases with rfl | ⟨i, rfl⟩ | ⟨i, rfl⟩ | ⟨s, rfl, _⟩ | ⟨ws, rfl, hl, hx⟩
  · refine If.t ?_
    (repeat (first |(with_reducible first |refine we_c ?_|refine ss_c ?_|refine ss_ret ?_) |(((with_reducible refine If_tr ?_ ?_); · rfl))))
    rw [fin_sb]
    exact And.intro rfl rfl
  · refine If.t ?_
    (repeat (first |(with_reducible first |refine we_c ?_|refine ss_c ?_|refine ss_ret ?_) |(((with_reducible refine If_tr ?_ ?_); · rfl))))
    rw [fin_sb]
    exact And.intro rfl rfl
  · refine If.t ?_
    (repeat (first |(with_reducible first |refine we_c ?_|refine ss_c ?_|refine ss_ret ?_) |(((with_reducible refine If_tr ?_ ?_); · rfl))))
    rw [fin_sb]
    exact And.intro rfl rfl
  · refine If.t ?_
    (repeat (first |(with_reducible first |refine we_c ?_|refine ss_c ?_|refine ss_ret ?_) |(((with_reducible refine If_tr ?_ ?_); · rfl))))
    rw [fin_sb]
    exact And.intro rfl rfl
  · refine If.f ?_
    (repeat (first |(with_reducible first |refine we_c ?_|refine we_a ?_|refine wa_c ?_|refine wa_n ?_|refine wb_b ?_|refine wp_eqi ?_|refine wp_lent ?_|refine ex_bl ?_) |(((with_reducible refine we_v (w := ?_) ?_ ?_); rotate_left; · rfl))))
    refine If.d (fun h0 => ?_) (fun h0 => ?_)
    · (repeat (with_reducible first |refine we_c ?_|refine ss_c ?_|refine ss_ret ?_))
      rw [fin_sb]
      refine And.intro ?_ rfl
      have : ws.isEmpty = true := by rw [List.isEmpty_iff_length_eq_zero]; omega
      simp only [goalsOk, this, Bool.not_true, Bool.false_and]
    · have hne : ws.isEmpty = false := by
        cases ws with
        | nil => exact absurd rfl h0
        | cons _ _ => rfl
      (repeat (first |(with_reducible first |refine ss_n ?_|refine ss_c ?_|refine ss_for ?_|refine wi_a ?_) |(((with_reducible refine we_v (w := ?_) ?_ ?_); rotate_left; · rfl)) |(((with_reducible refine ex_some (y := ?_) ?_ ?_); rotate_left; · rfl))))
      refine wl_inv (fun i fm s => Hd (∃ x, fm = [some (.tup ws), some (.int k), x] ∧ s = st ∧ ∀ r ∈ ws.take i, rowOk k ws.length r = true)) (fun _ _ _ _ => trivial) (hd ⟨_, rfl, rfl, fun _ h => (List.not_mem_nil h).elim⟩) ?_ ?_
      · rintro i r hr fm s ⟨x, rfl, rfl, hal⟩
        have hrm := List.mem_of_getElem? hr
        have tr := hx r hrm
        have htk : ws.take (i + 1) = ws.take i ++ [r] := by rw [List.take_succ, hr]; rfl
        refine ⟨_, rfl, ?_⟩
        (repeat (first |(with_reducible first |refine wa_c ?_|refine wa_n ?_|refine we_call ?_|refine wb_v ?_|refine wb_not ?_|refine ss_c ?_|refine ss_if ?_) |(((with_reducible refine we_v (w := ?_) ?_ ?_); rotate_left; · rfl)) |(((with_reducible refine and_len ?_ ?_); · rfl))))
        refine wp_of (sized_eq tr k _) ?_
        refine ⟨_, rfl, ?_⟩
        by_cases hsz : sizedB k r = true
        · obtain ⟨us, rfl, hul⟩ := sizedB_t hsz
          obtain ⟨_, hus⟩ := tup_in tr
          rw [hsz]
          refine If.f ?_
          (repeat (with_reducible first |refine wb_v ?_|refine wb_not ?_|refine ss_n ?_|refine ss_c ?_|refine ss_if ?_))
          refine wp_gx (ws := us) (goalOk ws.length) rfl trivial (fun u hu => ?_) ?_
          · (repeat (first |(with_reducible first |refine we_a ?_|refine wa_c ?_|refine wa_n ?_|refine we_call ?_|refine wp_lent ?_) |(((with_reducible refine we_v (w := ?_) ?_ ?_); rotate_left; · rfl)) |(((with_reducible refine and_len ?_ ?_); · rfl))))
            exact wp_of (number_eq (hus u hu) ws.length _) ⟨rfl, rfl⟩
          · refine ⟨_, rfl, ?_⟩
            have hro : rowOk k ws.length (.tup us) = us.all (goalOk ws.length) := by simp [rowOk, hul]
            rw [← hro]
            by_cases hg : rowOk k ws.length (.tup us) = true
            · rw [hg]
              refine If.f ?_
              (repeat (with_reducible refine ss_n ?_))
              refine hd ⟨_, rfl, rfl, fun q hq => ?_⟩
              rw [htk] at hq
              rcases List.mem_append.mp hq with h | h
              · exact hal q h
              · rw [List.mem_singleton.mp h]; exact hg
            · have hg' : rowOk k ws.length (.tup us) = false := by simpa using hg
              rw [hg']
              refine If.t ?_
              (repeat (with_reducible first |refine we_c ?_|refine ss_c ?_|refine ss_ret ?_))
              rw [fin_sb, goals_no hrm hg']
              exact And.intro rfl rfl
        · have hsz' : sizedB k r = false := by simpa using hsz
          rw [hsz']
          refine If.t ?_
          (repeat (with_reducible first |refine we_c ?_|refine ss_c ?_|refine ss_ret ?_))
          rw [fin_sb, goals_no hrm (sizedB_row hsz')]
          exact And.intro rfl rfl
      · rintro fm s ⟨x, rfl, rfl, hal⟩
        dsimp only at hal
        rw [List.take_length] at hal
        (repeat (with_reducible first |refine we_c ?_|refine ss_c ?_|refine ss_ret ?_))
        rw [fin_sb]
        refine And.intro ?_ rfl
        have : ws.all (rowOk k ws.length) = true := List.all_eq_true.mpr hal
        simp only [goalsOk, hne, this, Bool.not_false, Bool.and_self]
theorem law_goals_eq {b n : Nat} {w : Va} (h : TD b n w) (hb : b ≤ 1000) (k : Nat) (e : Dw) (a : Nat) (L : Sto) : Wp (m__law_is_goals [w, .int k] (W e a L [])) fun r s => r = .bl (goalsOk k w) ∧ s = W e a L [] := by
  unfold m__law_is_goals
  refine wp_fn rfl ?_
  (repeat (first |(with_reducible first |refine we_c ?_|refine we_a ?_|refine wa_c ?_|refine wa_n ?_|refine wb_v ?_|refine wb_or ?_|refine wb_not ?_|refine ss_c ?_|refine ss_if ?_) |(((with_reducible refine we_v (w := ?_) ?_ ?_); rotate_left; · rfl))))
  refine wp_of (isi_t h) ?_
  refine ⟨_, rfl, ?_⟩
  rcases h.cases with rfl | ⟨i, rfl⟩ | ⟨i, rfl⟩ | ⟨s, rfl, _⟩ | ⟨ws, rfl, hl, hx⟩
  · refine If.t ?_
    (repeat (first |(with_reducible first |refine we_c ?_|refine ss_c ?_|refine ss_ret ?_) |(((with_reducible refine If_tr ?_ ?_); · rfl))))
    rw [W_fin_b]
    exact And.intro rfl rfl
  · refine If.t ?_
    (repeat (first |(with_reducible first |refine we_c ?_|refine ss_c ?_|refine ss_ret ?_) |(((with_reducible refine If_tr ?_ ?_); · rfl))))
    rw [W_fin_b]
    exact And.intro rfl rfl
  · refine If.t ?_
    (repeat (first |(with_reducible first |refine we_c ?_|refine ss_c ?_|refine ss_ret ?_) |(((with_reducible refine If_tr ?_ ?_); · rfl))))
    rw [W_fin_b]
    exact And.intro rfl rfl
  · refine If.t ?_
    (repeat (first |(with_reducible first |refine we_c ?_|refine ss_c ?_|refine ss_ret ?_) |(((with_reducible refine If_tr ?_ ?_); · rfl))))
    rw [W_fin_b]
    exact And.intro rfl rfl
  · refine If.f ?_
    (repeat (first |(with_reducible first |refine we_c ?_|refine we_a ?_|refine wa_c ?_|refine wa_n ?_|refine wb_b ?_|refine wp_eqi ?_|refine wp_lent ?_|refine ex_bl ?_) |(((with_reducible refine we_v (w := ?_) ?_ ?_); rotate_left; · rfl))))
    refine If.d (fun h0 => ?_) (fun h0 => ?_)
    · (repeat (with_reducible first |refine we_c ?_|refine ss_c ?_|refine ss_ret ?_))
      rw [W_fin_b]
      refine And.intro ?_ rfl
      have : ws.isEmpty = true := by rw [List.isEmpty_iff_length_eq_zero]; omega
      simp only [goalsOk, this, Bool.not_true, Bool.false_and]
    · have hne : ws.isEmpty = false := by
        cases ws with
        | nil => exact absurd rfl h0
        | cons _ _ => rfl
      (repeat (first |(with_reducible first |refine ss_n ?_|refine ss_c ?_|refine ss_for ?_|refine wi_a ?_) |(((with_reducible refine we_v (w := ?_) ?_ ?_); rotate_left; · rfl)) |(((with_reducible refine ex_some (y := ?_) ?_ ?_); rotate_left; · rfl))))
      refine wl_inv (fun i fm s => Hd (∃ x y M, fm = [some (.tup ws), some (.int k), x, y] ∧ s = W e a L M ∧ ∀ r ∈ ws.take i, rowOk k ws.length r = true)) (fun _ _ _ _ => trivial) (hd ⟨_, _, [], rfl, rfl, fun _ h => (List.not_mem_nil h).elim⟩) ?_ ?_
      · rintro i r hr fm s ⟨x, y, M, rfl, rfl, hal⟩
        have hrm := List.mem_of_getElem? hr
        have tr := hx r hrm
        have htk : ws.take (i + 1) = ws.take i ++ [r] := by rw [List.take_succ, hr]; rfl
        refine ⟨_, rfl, ?_⟩
        (repeat (first |(with_reducible first |refine wa_c ?_|refine wa_n ?_|refine we_call ?_|refine wb_v ?_|refine wb_or ?_|refine wb_not ?_|refine ss_c ?_|refine ss_if ?_) |(((with_reducible refine we_v (w := ?_) ?_ ?_); rotate_left; · rfl)) |(((with_reducible refine and_len ?_ ?_); · rfl))))
        refine wp_of (law_sized_eq tr k _) ?_
        refine ⟨_, rfl, ?_⟩
        by_cases hsz : sizedB k r = true
        · obtain ⟨us, rfl, hul⟩ := sizedB_t hsz
          obtain ⟨hub, hus⟩ := tup_in tr
          rw [hsz]
          refine If.f ?_
          (repeat (with_reducible first |refine we_c ?_|refine wb_b ?_))
          refine wp_lcP (ws := us) (fun _ => true) (fun x => .bl (goalOk ws.length x)) rfl (by omega) (fun u hum => ?_) ?_
          · refine ⟨_, rfl, fun M' _ => ?_⟩
            refine wb_yes ⟨rfl, rfl, fun _ => ?_⟩
            (repeat (first |(with_reducible first |refine we_a ?_|refine wa_c ?_|refine wa_n ?_|refine we_call ?_|refine wp_lent ?_) |(((with_reducible refine we_v (w := ?_) ?_ ?_); rotate_left; · rfl)) |(((with_reducible refine and_len ?_ ?_); · rfl))))
            refine wp_of (law_number_eq (hus u hum) ws.length _) ?_
            exact ⟨rfl, rfl⟩
          · rw [List.filter_eq_self.mpr (fun _ _ => rfl)]
            refine wp_noW (bs := us.map (goalOk ws.length)) (by simp) ?_
            have hro : (us.map (goalOk ws.length)).all id = rowOk k ws.length (.tup us) := by rw [List.all_map]; simp [rowOk, hul]
            rw [hro]
            (repeat (with_reducible first |refine If.n ?_|refine ex_bl ?_))
            refine ⟨fun hg => ?_, fun hg => ?_⟩
            · (repeat (with_reducible refine ss_n ?_))
              refine hd ⟨_, _, _, rfl, rfl, fun q hq => ?_⟩
              rw [htk] at hq
              rcases List.mem_append.mp hq with h | h
              · exact hal q h
              · rw [List.mem_singleton.mp h]; exact hg
            · (repeat (with_reducible first |refine we_c ?_|refine ss_c ?_|refine ss_ret ?_))
              rw [W_fin_b, goals_no hrm hg]
              exact And.intro rfl rfl
        · have hsz' : sizedB k r = false := by simpa using hsz
          rw [hsz']
          refine If.t ?_
          (repeat (first |(with_reducible first |refine we_c ?_|refine ss_c ?_|refine ss_ret ?_) |(((with_reducible refine If_tr ?_ ?_); · rfl))))
          rw [W_fin_b, goals_no hrm (sizedB_row hsz')]
          exact And.intro rfl rfl
      · rintro fm s ⟨x, y, M, rfl, rfl, hal⟩
        dsimp only at hal
        rw [List.take_length] at hal
        (repeat (with_reducible first |refine we_c ?_|refine ss_c ?_|refine ss_ret ?_))
        rw [W_fin_b]
        refine And.intro ?_ rfl
        have : ws.all (rowOk k ws.length) = true := List.all_eq_true.mpr hal
        simp only [goalsOk, hne, this, Bool.not_false, Bool.and_self]
end L_k14
/-! TS: set machines: letters, machines, runs -/
namespace T3
open PySem PySem.Spec PyProof.Rows L2
noncomputable def c_letters : Fn := fn 4 2 (sCons (sSet 2 (eC (.str [])))
  (sCons (sFor (iA (eB gIx (eLst (aC (eC (.str [97, 98, 99, 100, 101, 102])) (aC (eC (.str [98, 100, 107, 113, 120, 122])) (aC (eC (.str [109, 110, 111, 112, 114, 115])) (aC (eC (.str [97, 117, 118, 119, 121, 122])) aN))))) (eCall 2 c_pick (aC (eV 0) (aC (eC (.int 4)) aN))))) (gN 3) (sCons (sIf (bAnd (bB gLt (eA gLen (aC (eV 2) aN)) (eV 1)) (bB gEq (eCall 2 c_pick (aC (eV 0) (aC (eC (.int 2)) aN))) (eC (.int 0)))) (sCons (sSet 2 (eB gAdd (eV 2) (eV 3)))
  sNil) sNil)
  sNil))
  (sCons (sIf (bB gEq (eV 2) (eC (.str []))) (sCons (sRet (eC (.str [98])))
  sNil) sNil)
  (sCons (sRet (eV 2))
  sNil))))
def Low (s : List Nat) : Prop := ∀ c ∈ s, c < 128
/-- drawn letters: few, small, in order -/
def Lets (n : Nat) (ls : List Nat) : Prop := 1 ≤ ls.length ∧ ls.length ≤ n ∧ Low ls ∧ (∀ c ∈ ls, 97 ≤ c ∧ c ≤ 122) ∧ ls.Pairwise (· < ·)
theorem letters_D (e : Dw) (a : Nat) (L : Sto) {n : Nat} (hn : 1 ≤ n ∧ n ≤ 6) : Wp (c_letters [.ref e.d, .int n] (W e a L [])) fun w s => Hd (∃ ls b, w = .str ls ∧ s = W e b L [] ∧ Lets n ls) := by
  unfold c_letters
  refine wp_fn rfl ?_
  (repeat (first |(with_reducible first |refine we_c ?_|refine we_b ?_|refine wa_c ?_|refine wa_n ?_|refine we_call ?_|refine we_lstW ?_|refine ss_c ?_|refine ss_set ?_|refine ss_for ?_|refine wi_a ?_|refine inW_mk ?_) |(((with_reducible refine we_v (w := ?_) ?_ ?_); rotate_left; · rfl)) |(((with_reducible refine and_len ?_ ?_); · rfl)) |(((with_reducible refine and_le ?_ ?_); · exact Nat.le_of_ble_eq_true rfl))))
  refine wp_pick (by first | decide | omega) fun x b h0 h1 => ?_
  refine wp_ixZ rfl h0 h1 fun y hy => ?_
  obtain ⟨s, rfl, hs, hp, hsl⟩ : ∃ s, y = .str s ∧ (∀ c ∈ s, 97 ≤ c ∧ c ≤ 122) ∧ s.Pairwise (· < ·) ∧ s.length = 6 := by
    simp only [List.mem_cons, List.not_mem_nil, or_false] at hy
    rcases hy with rfl | rfl | rfl | rfl <;> exact ⟨_, rfl, by decide, by decide, rfl⟩
  (repeat (((with_reducible refine ex_some (y := ?_) ?_ ?_); rotate_left; · rfl)))
  refine wl_inv (fun i fm st => Hd (∃ ls b x M, fm = [some (.ref e.d), some (.int n), some (.str ls), x] ∧ st = W e b L M ∧ ls.length ≤ n ∧ ls.Sublist (s.take i))) (fun _ _ _ _ => trivial) (hd ⟨[], _, _, _, rfl, rfl, by simp, List.nil_sublist _⟩) ?_ ?_
  · rintro i w hw fm st ⟨ls, b, x, M, rfl, rfl, hl, hsub⟩
    obtain ⟨c, rfl, hc⟩ := strW_get hw
    have ht : s.take (i + 1) = s.take i ++ [c] := by rw [List.take_succ, hc]; rfl
    refine ⟨_, rfl, ?_⟩
    (repeat (first |(with_reducible first |refine we_a ?_|refine wa_c ?_|refine wa_n ?_|refine wb_b ?_|refine wb_and ?_|refine ss_c ?_|refine ss_if ?_) |(((with_reducible refine we_v (w := ?_) ?_ ?_); rotate_left; · rfl))))
    refine wp_lens (by omega) ?_
    (repeat (first |(with_reducible first |refine wp_lt ?_|refine ex_bl ?_) |(((with_reducible refine we_v (w := ?_) ?_ ?_); rotate_left; · rfl))))
    refine If.d (fun hlt => ?_) (fun _ => ?_)
    · (repeat (first |(with_reducible first |refine we_c ?_|refine wa_c ?_|refine wa_n ?_|refine we_call ?_|refine wb_b ?_) |(((with_reducible refine we_v (w := ?_) ?_ ?_); rotate_left; · rfl)) |(((with_reducible refine and_len ?_ ?_); · rfl))))
      refine wp_pick (by first | decide | omega) fun x b h0 h1 => ?_
      (repeat (with_reducible first |refine we_c ?_|refine wp_eqi ?_|refine ex_bl ?_))
      refine If.d (fun _ => ?_) (fun _ => ?_)
      · (repeat (first |(with_reducible first |refine we_b ?_|refine ss_c ?_|refine ss_set ?_) |(((with_reducible refine we_v (w := ?_) ?_ ?_); rotate_left; · rfl))))
        refine wp_as (by simp; omega) ?_
        (repeat (with_reducible refine ss_n ?_))
        exact hd ⟨_, _, _, _, rfl, rfl, by simp; omega, by rw [ht]; exact hsub.append (List.Sublist.refl _)⟩
      · (repeat (with_reducible refine ss_n ?_))
        exact hd ⟨_, _, _, _, rfl, rfl, hl, by rw [ht]; exact hsub.trans (List.sublist_append_left _ _)⟩
    · (repeat (first |(with_reducible refine ss_n ?_) |(((with_reducible refine If_fa ?_ ?_); · rfl))))
      exact hd ⟨_, _, _, _, rfl, rfl, hl, by rw [ht]; exact hsub.trans (List.sublist_append_left _ _)⟩
  · rintro fm st ⟨ls, b, x, M, rfl, rfl, hl, hsub⟩
    dsimp only at hsub
    rw [strW_len, List.take_length] at hsub
    have hr : ∀ c ∈ ls, 97 ≤ c ∧ c ≤ 122 := fun c hc => hs c (hsub.subset hc)
    (repeat (first |(with_reducible first |refine we_c ?_|refine wb_b ?_|refine ss_c ?_|refine ss_if ?_|refine wp_eqs ?_|refine ex_bl ?_) |(((with_reducible refine we_v (w := ?_) ?_ ?_); rotate_left; · rfl))))
    refine If.d (fun _ => ?_) (fun hne => ?_)
    · (repeat (with_reducible first |refine we_c ?_|refine ss_c ?_|refine ss_ret ?_))
      rw [W_fin_s]
      exact hd ⟨_, _, rfl, rfl, by decide, hn.1, by unfold Low; decide, by decide, by decide⟩
    · (repeat (first |(with_reducible first |refine ss_n ?_|refine ss_c ?_|refine ss_ret ?_) |(((with_reducible refine we_v (w := ?_) ?_ ?_); rotate_left; · rfl))))
      rw [W_fin_s]
      exact hd ⟨_, _, rfl, rfl, by cases ls; exact absurd rfl hne; simp, hl, fun c hc => by have := hr c hc; omega, hr, hp.sublist hsub⟩
/-! ### set machines -/
abbrev rowV (r : List Nat) : Va := .tup (r.map fun (g : Nat) => .int g)
abbrev setV (ls : List Nat) (goals : List (List Nat)) (ends : List Bool) : Va := .tup [.str [115, 101, 116], .str ls, .tup (goals.map rowV), .tup (ends.map .bl)]
structure WF (ls : List Nat) (goals : List (List Nat)) (ends : List Bool) : Prop where
  pos : 1 ≤ goals.length
  ends : ends.length = goals.length
  row : ∀ r ∈ goals, r.length = ls.length ∧ ∀ g ∈ r, g < goals.length
/-! ### runs -/
/-- the first place of a letter -/
def at1 (ls : List Nat) (c : Nat) : Option Nat := ls.findIdx? (· == c)
theorem at1_none {ls : List Nat} {c : Nat} : at1 ls c = none ↔ c ∉ ls := by
  unfold at1
  rw [List.findIdx?_eq_none_iff]
  constructor
  · intro h hc
    simpa using h c hc
  · intro h x hx
    simp only [beq_eq_false_iff_ne, ne_eq]
    rintro rfl
    exact h hx
theorem at1_some {ls : List Nat} {c k : Nat} (h : at1 ls c = some k) : ls[k]? = some c ∧ ∀ i, i < k → ls[i]? ≠ some c := by
  unfold at1 at h
  rw [List.findIdx?_eq_some_iff_getElem] at h
  obtain ⟨hk, h1, h2⟩ := h
  refine ⟨by rw [List.getElem?_eq_getElem hk]; simpa using h1, fun i hi e => ?_⟩
  have := h2 i hi
  obtain ⟨hl, e⟩ := List.getElem?_eq_some_iff.mp e
  simp [e] at this
/-- the state that a text leads to -/
def runM (ls : List Nat) (goals : List (List Nat)) : Nat → List Nat → Option Nat
  | q, [] => some q
  | q, c :: t => match at1 ls c with
    | none => none
    | some k => runM ls goals (((goals[q]?).bind fun r => r[k]?).getD 0) t
def inM (ls : List Nat) (goals : List (List Nat)) (ends : List Bool) (t : List Nat) : Bool := match runM ls goals 0 t with
  | none => false
  | some q => (ends[q]?).getD false
theorem WF.step {ls : List Nat} {goals : List (List Nat)} {ends : List Bool} (h : WF ls goals ends) {q k c : Nat} (hq : q < goals.length) (hk : at1 ls c = some k) :
    ∃ r g, goals[q]? = some r ∧ r[k]? = some g ∧ g < goals.length := by
  have hk' : k < ls.length := (List.getElem?_eq_some_iff.mp (at1_some hk).1).1
  have hr := h.row goals[q] (List.getElem_mem hq)
  refine ⟨goals[q], goals[q][k]'(by omega), List.getElem?_eq_getElem hq, List.getElem?_eq_getElem (by omega), hr.2 _ (List.getElem_mem _)⟩
theorem contains_loop {ls : List Nat} {goals : List (List Nat)} {ends : List Bool} (h : WF ls goals ends) {st : Sto} : ∀ (t : List Nat) (q : Nat) (x v : Option Va) {N : Fm → Sto → Prop} {R : Va → Sto → Prop}, q < goals.length →
    (∀ q' y, runM ls goals q t = some q' → q' < goals.length → N [some (setV ls goals ends), v, some (.int (q' : Nat)), y] st) → (runM ls goals q t = none → R (.bl false) st) →
    Wl (fun _ => True) (gN 3) (sCons (sIf (bB gNin (eV 3) (eB gIx (eV 0) (eC (.int 1)))) (sCons (sRet (eC (.bl false))) sNil) sNil)
      (sCons (sSet 2 (eB gIx (eB gIx (eB gIx (eV 0) (eC (.int 2))) (eV 2)) (eMt "str" gIndex (eB gIx (eV 0) (eC (.int 1))) (aC (eV 3) aN)))) sNil)) (strW t) [some (setV ls goals ends), v, some (.int q), x] st N R
  | [], q, x, v, N, R, hq, hN, _ => wl_nil trivial (hN q x rfl hq)
  | c :: t, q, x, v, N, R, hq, hN, hR => by
    show Wl _ _ _ (Va.str [c] :: strW t) _ _ _ _
    refine wl_cons trivial rfl ?_
    refine ss_c (ss_if ?_)
    (repeat (first |(with_reducible first |refine we_c ?_|refine we_b ?_|refine wb_b ?_) |(((with_reducible refine we_v (w := ?_) ?_ ?_); rotate_left; · rfl)) |(((with_reducible refine wp_ixt (w := ?_) ?_ ?_); rotate_left; · rfl))))
    refine wp_of gNin_s ?_
    (repeat (with_reducible first |refine If.n ?_|refine ex_bl ?_))
    refine If.d (fun hc => ?_) (fun hc => ?_)
    · (repeat (first |(with_reducible first |refine we_c ?_|refine we_b ?_|refine ss_n ?_|refine ss_c ?_|refine ss_set ?_) |(((with_reducible refine we_v (w := ?_) ?_ ?_); rotate_left; · rfl)) |(((with_reducible refine wp_ixt (w := ?_) ?_ ?_); rotate_left; · rfl))))
      obtain ⟨k, hk⟩ : ∃ k, at1 ls c = some k := by
        cases e : at1 ls c with
        | none => exact absurd hc (at1_none.mp e)
        | some k => exact ⟨k, rfl⟩
      obtain ⟨hk1, hk2⟩ := at1_some hk
      obtain ⟨r, g, e1, e2, e3⟩ := h.step hq hk
      have hrun : runM ls goals q (c :: t) = runM ls goals g t := by
        simp only [runM, hk, e1, Option.bind_some, e2, Option.getD_some]
      refine wp_ixt (w := rowV r) (by rw [atI_map, atI_n, e1]; rfl) ?_
      (repeat (first |(with_reducible first |refine we_c ?_|refine we_b ?_|refine wa_c ?_|refine wa_n ?_|refine we_mt ?_) |(((with_reducible refine we_v (w := ?_) ?_ ?_); rotate_left; · rfl)) |(((with_reducible refine wp_ixt (w := ?_) ?_ ?_); rotate_left; · rfl)) |(((with_reducible refine and_hty ?_ ?_); · rfl))))
      refine wp_of (gIndex_one hk1 hk2) ?_
      refine wp_ixt (w := .int g) (by rw [atI_map, atI_n, e2]; rfl) ?_
      (repeat (with_reducible refine ss_n ?_))
      exact contains_loop h t g _ v e3 (fun q' y e hq' => hN q' y (hrun.trans e) hq') (fun e => hR (hrun.trans e))
    · (repeat (with_reducible first |refine we_c ?_|refine ss_c ?_|refine ss_ret ?_))
      refine hR ?_
      simp only [runM, at1_none.mpr hc]
noncomputable def c_contains : Fn := fn 4 2 (sCons (sSet 2 (eC (.int 0)))
  (sCons (sFor (iA (eV 1)) (gN 3) (sCons (sIf (bB gNin (eV 3) (eB gIx (eV 0) (eC (.int 1)))) (sCons (sRet (eC (.bl false)))
  sNil) sNil)
  (sCons (sSet 2 (eB gIx (eB gIx (eB gIx (eV 0) (eC (.int 2))) (eV 2)) (eMt "str" gIndex (eB gIx (eV 0) (eC (.int 1))) (aC (eV 3) aN))))
  sNil)))
  (sCons (sRet (eB gIx (eB gIx (eV 0) (eC (.int 3))) (eV 2)))
  sNil)))
theorem contains_eq {ls : List Nat} {goals : List (List Nat)} {ends : List Bool} (h : WF ls goals ends) (t : List Nat) (st : Sto) : c_contains [setV ls goals ends, .str t] st = some (.bl (inM ls goals ends t), st) := by
  refine Wp.eq ?_
  unfold c_contains
  refine wp_fn rfl ?_
  (repeat (first |(with_reducible first |refine we_c ?_|refine ss_c ?_|refine ss_set ?_|refine ss_for ?_|refine wi_a ?_) |(((with_reducible refine we_v (w := ?_) ?_ ?_); rotate_left; · rfl)) |(((with_reducible refine ex_some (y := ?_) ?_ ?_); rotate_left; · rfl))))
  refine contains_loop h t 0 _ _ h.pos (fun q' y e hq' => ?_) (fun e => ?_)
  · (repeat (first |(with_reducible first |refine we_c ?_|refine we_b ?_|refine ss_c ?_|refine ss_ret ?_) |(((with_reducible refine we_v (w := ?_) ?_ ?_); rotate_left; · rfl)) |(((with_reducible refine wp_ixt (w := ?_) ?_ ?_); rotate_left; · rfl))))
    have he : ends[q']? = some (ends[q']'(by have := h.ends; omega)) := List.getElem?_eq_getElem _
    refine wp_ixt (w := .bl (ends[q']'(by have := h.ends; omega))) (by rw [atI_map, atI_n, he]; rfl) ?_
    rw [fin_sb]
    refine ⟨?_, rfl⟩
    simp only [inM, e, he, Option.getD_some]
  · rw [fin_sb]
    refine ⟨?_, rfl⟩
    simp only [inM, e]
end T3
set_option maxHeartbeats 4000000
/-! drawn box machines, first family: shared by laws whose texts draw them so -/
namespace T3
open PySem PySem.Spec PyProof.Rows L2
noncomputable def cA_text : Fn := fn 5 3 (sCons (sSet 3 (eC (.str [])))
  (sCons (sFor (iR1 (eCall 2 c_pick (aC (eV 0) (aC (eB gAdd (eV 2) (eC (.int 1))) aN)))) (gN 4) (sCons (sSet 3 (eB gAdd (eV 3) (eB gIx (eV 1) (eCall 2 c_pick (aC (eV 0) (aC (eA gLen (aC (eV 1) aN)) aN))))))
  sNil))
  (sCons (sRet (eV 3))
  sNil)))
noncomputable def cA_goals : Fn := fn 6 3 (sCons (sSet 3 (eLst aN))
  (sCons (sFor (iR1 (eV 1)) (gN 4) (sCons (sEx (eMt "list" gApp (eV 3) (aC (eA gTuple (aC (eLc (iR1 (eV 2)) (gN 5) bYes (eCall 2 c_pick (aC (eV 0) (aC (eV 1) aN))) [5]) aN)) aN)))
  sNil))
  (sCons (sRet (eA gTuple (aC (eV 3) aN)))
  sNil)))
noncomputable def cA_string : Fn := fn 1 1 (sCons (sRet (eB gIx (eLst (aC (eC (.str [])) (aC (eC (.str [97])) (aC (eC (.str [])) (aC (eC (.str [98])) (aC (eC (.str [97, 98])) (aC (eC (.str [])) (aC (eC (.str [98, 97])) (aC (eC (.str [122])) aN))))))))) (eCall 2 c_pick (aC (eV 0) (aC (eC (.int 8)) aN)))))
  sNil)
noncomputable def cA_row : Fn := fn 5 2 (sCons (sSet 2 (eLst (aC (eCall 1 cA_string (aC (eV 0) aN)) aN)))
  (sCons (sFor (iA (eV 1)) (gN 3) (sCons (sSet 2 (eB gAdd (eV 2) (eLst (aC (eV 3) (aC (eCall 1 cA_string (aC (eV 0) aN)) aN)))))
  sNil))
  (sCons (sRet (eA gTuple (aC (eLc (iA (eV 2)) (gN 4) (bB gNe (eV 4) (eC (.str []))) (eV 4) [4]) aN)))
  sNil)))
noncomputable def cA_news : Fn := fn 6 2 (sCons (sSet 2 (eLc (iR1 (eV 1)) (gN 3) bYes (eLst aN) [3]))
  (sCons (sFor (iR1 (eV 1)) (gN 3) (sCons (sSet 4 (eCall 2 c_pick (aC (eV 0) (aC (eB gAdd (eV 1) (eC (.int 3))) aN))))
  (sCons (sIf (bB gGe (eV 4) (eV 1)) (sCons (sSet 4 (eV 3))
  sNil) sNil)
  (sCons (sIf (bB gGt (eCall 2 c_pick (aC (eV 0) (aC (eC (.int 9)) aN))) (eC (.int 0))) (sCons (sEx (eMt "list" gIns (eB gIx (eV 2) (eV 4)) (aC (eB gMul (eCall 2 c_pick (aC (eV 0) (aC (eC (.int 2)) aN))) (eA gLen (aC (eB gIx (eV 2) (eV 4)) aN))) (aC (eV 3) aN))))
  sNil) sNil)
  sNil))))
  (sCons (sRet (eA gTuple (aC (eLc (iA (eV 2)) (gN 5) bYes (eCall 2 cA_row (aC (eV 0) (aC (eV 5) aN))) [5]) aN)))
  sNil)))
noncomputable def cA_boxes : Fn := fn 19 5 (sCons (sSet 5 (eCall 3 cA_goals (aC (eV 0) (aC (eB gAdd (eC (.int 1)) (eCall 2 c_pick (aC (eV 0) (aC (eV 4) aN)))) (aC (eA gLen (aC (eV 1) aN)) aN)))))
  (sCons (sSet 6 (eCall 2 c_pick (aC (eV 0) (aC (eB gAdd (eV 3) (eC (.int 1))) aN))))
  (sCons (sSet 7 (eB gAdd (eC (.int 1)) (eCall 2 c_pick (aC (eV 0) (aC (eV 2) aN)))))
  (sCons (sSet 8 (eB gEq (eCall 2 c_pick (aC (eV 0) (aC (eC (.int 3)) aN))) (eC (.int 0))))
  (sCons (sSet 9 (eLst aN))
  (sCons (sFor (iR1 (eV 7)) (gN 10) (sCons (sSet 11 (eLst aN))
  (sCons (sFor (iR1 (eA gLen (aC (eV 1) aN))) (gN 12) (sCons (sSet 13 (eLst aN))
  (sCons (sFor (iR1 (eA gLen (aC (eV 5) aN))) (gN 14) (sCons (sSet 15 (eTup (aC (eCall 2 c_pick (aC (eV 0) (aC (eV 7) aN))) (aC (eCall 2 cA_news (aC (eV 0) (aC (eV 6) aN))) aN))))
  (sCons (sEx (eMt "list" gApp (eV 13) (aC (eB gIx (eLst (aC (eV 15) (aC (eC .non) aN))) (eA gInt (aC (eAnd (eV 8) (eB gEq (eCall 2 c_pick (aC (eV 0) (aC (eC (.int 8)) aN))) (eC (.int 0)))) aN))) aN)))
  sNil)))
  (sCons (sEx (eMt "list" gApp (eV 11) (aC (eA gTuple (aC (eV 13) aN)) aN)))
  sNil))))
  (sCons (sEx (eMt "list" gApp (eV 9) (aC (eA gTuple (aC (eV 11) aN)) aN)))
  sNil))))
  (sCons (sSet 16 (eLst aN))
  (sCons (sFor (iR1 (eV 7)) (gN 10) (sCons (sSet 17 (eCall 2 cA_row (aC (eV 0) (aC (eLc (iR1 (eV 6)) (gN 18) (bB gGt (eCall 2 c_pick (aC (eV 0) (aC (eC (.int 5)) aN))) (eC (.int 0))) (eV 18) [18]) aN))))
  (sCons (sEx (eMt "list" gApp (eV 16) (aC (eB gIx (eLst (aC (eV 17) (aC (eC .non) aN))) (eA gInt (aC (eB gEq (eCall 2 c_pick (aC (eV 0) (aC (eC (.int 6)) aN))) (eC (.int 0))) aN))) aN)))
  sNil)))
  (sCons (sRet (eTup (aC (eC (.str [98, 111, 120, 101, 115])) (aC (eV 1) (aC (eV 5) (aC (eV 6) (aC (eA gTuple (aC (eV 9) aN)) (aC (eA gTuple (aC (eV 16) aN)) aN))))))))
  sNil)))))))))
abbrev goalsV (gs : List (List Nat)) : Va := .tup (gs.map rowV)
structure GW (gs : List (List Nat)) (many width : Nat) : Prop where
  len : gs.length = many
  row : ∀ r ∈ gs, r.length = width ∧ ∀ g ∈ r, g < many
theorem goalsV_flat (gs : List (List Nat)) : (goalsV gs).flat := flat_t fun w hw => by
  obtain ⟨r, _, rfl⟩ := List.mem_map.mp hw
  exact flat_t fun w hw => by
    obtain ⟨r, _, rfl⟩ := List.mem_map.mp hw
    rfl
theorem goals_D (e : Dw) (a : Nat) (L : Sto) {many width : Nat} (hm : 1 ≤ many ∧ many ≤ 10) (hw : width ≤ 10) : Wp (cA_goals [.ref e.d, .int many, .int width] (W e a L [])) fun w s => Hd (∃ gs b, w = goalsV gs ∧ s = W e b L [] ∧ GW gs many width) := by
  unfold cA_goals
  refine wp_fn rfl ?_
  (repeat (first |(with_reducible first |refine wa_n ?_|refine we_lstW ?_|refine ss_c ?_|refine ss_set ?_|refine ss_for ?_|refine wi_r1 ?_|refine ex_int ?_|refine inW_mk ?_) |(((with_reducible refine we_v (w := ?_) ?_ ?_); rotate_left; · rfl)) |(((with_reducible refine and_le ?_ ?_); · exact Nat.le_of_ble_eq_true rfl)) |(((with_reducible refine and_bd ?_ ?_); · first | decide | omega))))
  rw [Int.toNat_natCast]
  refine wl_inv (fun i fm st => Hd (∃ gs b y z M, fm = [some (.ref e.d), some (.int many), some (.int width), some (.ref (e.p L + 0)), y, z] ∧ st = W e b L M ∧ M[0]? = some (.lst (gs.map rowV)) ∧ gs.length = i ∧ ∀ r ∈ gs, r.length = width ∧ ∀ g ∈ r, g < many)) (fun _ _ _ _ => trivial) (hd ⟨[], _, _, _, _, rfl, rfl, rfl, rfl, fun _ h => (List.not_mem_nil h).elim⟩) ?_ ?_
  · rintro i w hw' fm st ⟨gs, b, y, z, M, rfl, rfl, hM, hgl, hgs⟩
    obtain ⟨rfl, hi⟩ := rng_get hw'
    refine ⟨_, rfl, ?_⟩
    (repeat (first |(with_reducible first |refine we_mt ?_|refine ss_c ?_|refine ss_ex ?_) |(((with_reducible refine we_v (w := ?_) ?_ ?_); rotate_left; · rfl))))
    refine and_hty (hty_W hM) ?_
    (repeat (with_reducible first |refine we_a ?_|refine wa_c ?_))
    refine wp_lcD (ws := rngW 0 width) (fun _ y => ∃ g : Nat, g < many ∧ y = .int g) (iR1_nat (by rfl) (by omega)) (by rw [rng_len]; omega) (fun j w hj => ⟨_, rfl, fun a' M' _ => ?_⟩) ?_
    · (repeat (first |(with_reducible first |refine wa_c ?_|refine wa_n ?_|refine we_call ?_) |(((with_reducible refine we_v (w := ?_) ?_ ?_); rotate_left; · rfl)) |(((with_reducible refine and_len ?_ ?_); · rfl))))
      refine wp_pick (by first | decide | omega) fun x b h0 h1 => ?_
      exact ⟨_, rfl, x.toNat, by omega, by rw [Int.toNat_of_nonneg h0]⟩
    · intro c ys hyl hy
      rw [rng_len] at hyl
      obtain ⟨r, rfl, hr⟩ := ys_map (f := fun g : Nat => Va.int g) hy
      rw [List.length_map] at hyl
      (repeat (with_reducible first |refine wa_n ?_|refine wp_tupZ ?_))
      refine wp_appW (k := 0) (at_push hM) (by rw [List.length_map, hgl]; omega) ?_
      (repeat (with_reducible refine ss_n ?_))
      exact hd ⟨gs ++ [r], _, _, _, _, rfl, rfl, by rw [at_set (at_push hM), List.map_append]; rfl, by simp [hgl], all_snoc hgs ⟨hyl, hr⟩⟩
  · rintro fm st ⟨gs, b, y, z, M, rfl, rfl, hM, hgl, hgs⟩
    dsimp only at hgl
    rw [rng_len] at hgl
    (repeat (first |(with_reducible first |refine we_a ?_|refine wa_c ?_|refine wa_n ?_|refine ss_c ?_|refine ss_ret ?_) |(((with_reducible refine we_v (w := ?_) ?_ ?_); rotate_left; · rfl))))
    refine wp_tupW (k := 0) hM ?_
    rw [W_fin_f (w := .tup (gs.map rowV)) (goalsV_flat gs)]
    exact hd ⟨gs, _, rfl, rfl, hgl, hgs⟩
theorem textA_D (e : Dw) (a : Nat) (L : Sto) {ls : List Nat} (hl : 1 ≤ ls.length ∧ ls.length ≤ 10) {most : Nat} (hm : most ≤ 120) : Wp (cA_text [.ref e.d, .str ls, .int most] (W e a L [])) fun w s => Hd (∃ t b, w = .str t ∧ s = W e b L [] ∧ t.length ≤ 120 ∧ ∀ c ∈ t, c ∈ ls) := by
  unfold cA_text
  refine wp_fn rfl ?_
  (repeat (first |(with_reducible first |refine we_c ?_|refine we_b ?_|refine wa_c ?_|refine wa_n ?_|refine we_call ?_|refine ss_c ?_|refine ss_set ?_|refine ss_for ?_|refine wi_r1 ?_|refine wp_ai ?_) |(((with_reducible refine we_v (w := ?_) ?_ ?_); rotate_left; · rfl)) |(((with_reducible refine and_len ?_ ?_); · rfl))))
  refine wp_pick (by omega) fun x b x0 x1 => ?_
  obtain ⟨n, rfl⟩ : ∃ n : Nat, x = (n : Int) := ⟨x.toNat, by omega⟩
  (repeat (first |(with_reducible refine ex_int ?_) |(((with_reducible refine and_bd ?_ ?_); · first | decide | omega))))
  rw [Int.toNat_natCast]
  refine wl_inv (fun i fm st => Hd (∃ t b x, fm = [some (.ref e.d), some (.str ls), some (.int most), some (.str t), x] ∧ st = W e b L [] ∧ t.length = i ∧ ∀ c ∈ t, c ∈ ls)) (fun _ _ _ _ => trivial) (hd ⟨[], _, _, rfl, rfl, rfl, fun _ h => (List.not_mem_nil h).elim⟩) ?_ ?_
  · rintro i w hw fm st ⟨t, b, x, rfl, rfl, ht, hlt⟩
    obtain ⟨rfl, hi⟩ := rng_get hw
    refine ⟨_, rfl, ?_⟩
    (repeat (first |(with_reducible first |refine we_b ?_|refine we_a ?_|refine wa_c ?_|refine wa_n ?_|refine we_call ?_|refine ss_c ?_|refine ss_set ?_) |(((with_reducible refine we_v (w := ?_) ?_ ?_); rotate_left; · rfl))))
    refine wp_lens (by omega) ?_
    (repeat (first |(with_reducible refine wa_n ?_) |(((with_reducible refine and_len ?_ ?_); · rfl))))
    refine wp_pick (by first | decide | omega) fun x b h0 h1 => ?_
    refine wp_ixC (by omega) h0 h1 fun c hc => ?_
    refine wp_as (by simp; omega) ?_
    (repeat (with_reducible refine ss_n ?_))
    exact hd ⟨_, _, _, rfl, rfl, by simp [ht], all_snoc hlt hc⟩
  · rintro fm st ⟨t, b, x, rfl, rfl, ht, hlt⟩
    dsimp only at ht
    rw [rng_len] at ht
    (repeat (first |(with_reducible first |refine ss_c ?_|refine ss_ret ?_) |(((with_reducible refine we_v (w := ?_) ?_ ?_); rotate_left; · rfl))))
    rw [W_fin_s]
    exact hd ⟨_, _, rfl, rfl, by omega, hlt⟩
def gl (gs : List (List Nat)) (c k : Nat) : Nat := ((gs[c]?).bind fun r => r[k]?).getD 0
theorem gl_at {gs : List (List Nat)} {many width : Nat} (h : GW gs many width) {c k : Nat} (hc : c < many) (hk : k < width) : ∃ r, gs[c]? = some r ∧ r[k]? = some (gl gs c k) ∧ gl gs c k < many := by
  have hl := h.len
  have hr := h.row gs[c] (List.getElem_mem (by omega))
  have e1 : gs[c]? = some gs[c] := List.getElem?_eq_getElem (by omega)
  have e2 : gs[c][k]? = some (gs[c][k]'(by omega)) := List.getElem?_eq_getElem (by omega)
  have e3 : gl gs c k = gs[c][k]'(by omega) := by unfold gl; rw [e1, Option.bind_some, e2]; rfl
  exact ⟨_, e1, by rw [e3]; exact e2, by rw [e3]; exact hr.2 _ (List.getElem_mem _)⟩
theorem atI_last {α : Type} (xs : List α) (x : α) : atI (xs ++ [x]) (-1) = some x := by
  unfold atI ixN
  rw [if_neg (by decide), if_pos (by simp; omega)]
  have : ((-1 : Int) + ((xs ++ [x]).length : Int)).toNat = xs.length := by simp; omega
  rw [Option.bind_some, this]
  simp
/-- the places of a text's letters -/
def nums (ls t : List Nat) : List Nat := t.map fun c => (at1 ls c).getD 0
theorem nums_lt {ls t : List Nat} (h : ∀ c ∈ t, c ∈ ls) : ∀ k ∈ nums ls t, k < ls.length := fun k hk => by
  obtain ⟨c, hc, rfl⟩ := List.mem_map.mp hk
  cases e : at1 ls c with
  | none => exact absurd (h c hc) (at1_none.mp e)
  | some k => exact (List.getElem?_eq_some_iff.mp (at1_some e).1).1
theorem num_ix {ls : List Nat} {c : Nat} (h : c ∈ ls) (st : Sto) : gIndex (.str ls) [.str [c]] st = some (.int (((at1 ls c).getD 0 : Nat) : Int), st) := by
  cases e : at1 ls c with
  | none => exact absurd h (at1_none.mp e)
  | some k => exact gIndex_one (at1_some e).1 (at1_some e).2
def nI (ks : List Nat) : List Va := ks.map fun k => .int (k : Nat)
theorem nI_len (ks : List Nat) : (nI ks).length = ks.length := by simp [nI]
theorem nI_get {ks : List Nat} {i : Nat} {w : Va} (h : (nI ks)[i]? = some w) : ∃ k : Nat, ks[i]? = some k ∧ w = .int k := by
  unfold nI at h
  rw [List.getElem?_map] at h
  obtain ⟨k, hk, rfl⟩ := Option.map_eq_some_iff.mp h
  exact ⟨k, hk, rfl⟩
theorem nI_at {ks : List Nat} {i k : Nat} (h : ks[i]? = some k) : atI (nI ks) (i : Int) = some (.int k) := by
  unfold nI
  rw [atI_map, atI_n, h]; rfl
def TupA (n : Nat) (P : Nat → Va → Prop) (w : Va) : Prop := ∃ ws, w = .tup ws ∧ ws.length = n ∧ ∀ (i : Nat) x, ws[i]? = some x → P i x
theorem TupA.flat {n : Nat} {P : Nat → Va → Prop} {w : Va} (hP : ∀ i x, P i x → x.flat) (h : TupA n P w) : w.flat := by
  obtain ⟨ws, rfl, _, h⟩ := h
  exact flat_t fun w hw => by
    obtain ⟨i, hi⟩ := List.getElem?_of_mem hw
    exact hP i w (h i w hi)
theorem idx_snoc {P : Nat → Va → Prop} {ws : List Va} {y : Va} (h : ∀ (i : Nat) x, ws[i]? = some x → P i x) (hy : P ws.length y) : ∀ (i : Nat) x, (ws ++ [y])[i]? = some x → P i x := fun i x hx => by
  by_cases hi : i < ws.length
  · rw [List.getElem?_append_left hi] at hx; exact h i x hx
  · rw [List.getElem?_append_right (by omega)] at hx
    by_cases h0 : i - ws.length = 0
    · rw [h0] at hx; simp at hx; subst hx
      have : i = ws.length := by omega
      rw [this]; exact hy
    · rw [List.getElem?_singleton, if_neg h0] at hx; cases hx
def scanT (gs : List (List Nat)) : Nat → List Nat → List Nat
  | c, [] => [c]
  | c, k :: ks => c :: scanT gs (gl gs c k) ks
def fin0 (gs : List (List Nat)) (c : Nat) (ks : List Nat) : Nat := ks.foldl (gl gs) c
theorem scanT_snoc (gs : List (List Nat)) : ∀ (ks : List Nat) (c k : Nat), scanT gs c (ks ++ [k]) = scanT gs c ks ++ [gl gs (fin0 gs c ks) k]
  | [], _, _ => rfl
  | j :: ks, c, k => by
    rw [List.cons_append, scanT, scanT_snoc gs ks, scanT, List.cons_append]; rfl
theorem scanT_len (gs : List (List Nat)) : ∀ (ks : List Nat) (c : Nat), (scanT gs c ks).length = ks.length + 1
  | [], _ => rfl
  | j :: ks, c => by rw [scanT, List.length_cons, scanT_len gs ks, List.length_cons]
theorem scanT_last (gs : List (List Nat)) : ∀ (ks : List Nat) (c : Nat), (scanT gs c ks)[ks.length]? = some (fin0 gs c ks)
  | [], _ => rfl
  | j :: ks, c => by
    rw [scanT, List.length_cons, List.getElem?_cons_succ, scanT_last gs ks]; rfl
theorem fin0_lt {gs : List (List Nat)} {many width : Nat} (h : GW gs many width) : ∀ (ks : List Nat) (c : Nat), c < many → (∀ k ∈ ks, k < width) → fin0 gs c ks < many
  | [], _, hc, _ => hc
  | j :: ks, c, hc, hk => fin0_lt h ks _ (gl_at h hc (hk j (by simp))).choose_spec.2.2 fun k hk' => hk k (List.mem_cons_of_mem _ hk')
theorem scanT_lt {gs : List (List Nat)} {many width : Nat} (h : GW gs many width) : ∀ (ks : List Nat) (c : Nat), c < many → (∀ k ∈ ks, k < width) → ∀ x ∈ scanT gs c ks, x < many
  | [], c, hc, _, x, hx => by simp [scanT] at hx; omega
  | j :: ks, c, hc, hk, x, hx => by
    rw [scanT] at hx
    rcases List.mem_cons.mp hx with rfl | hx
    · exact hc
    · exact scanT_lt h ks _ (gl_at h hc (hk j (by simp))).choose_spec.2.2 (fun k hk' => hk k (List.mem_cons_of_mem _ hk')) x hx
theorem scanT_split (gs : List (List Nat)) : ∀ (ks : List Nat) (c : Nat), ∃ xs, scanT gs c ks = xs ++ [fin0 gs c ks]
  | [], c => ⟨[], rfl⟩
  | j :: ks, c => by
    obtain ⟨xs, e⟩ := scanT_split gs ks (gl gs c j)
    exact ⟨c :: xs, by rw [scanT, e]; rfl⟩
/-! ### rows -/
abbrev It := Nat ⊕ List Nat
def itV : It → Va
  | .inl n => .int n
  | .inr s => .str s
abbrev rowVa (r : List It) : Va := .tup (r.map itV)
def boxN (r : List It) : List Nat := r.filterMap Sum.getLeft?
def noAdj : List It → Bool
  | .inr _ :: .inr y :: r => false
  | _ :: r => noAdj r
  | [] => true
def Str5 (t : List Nat) : Prop := t = [] ∨ t = [97] ∨ t = [98] ∨ t = [97, 98] ∨ t = [98, 97] ∨ t = [122]
theorem Str5.len {t : List Nat} (h : Str5 t) : t.length ≤ 2 := by
  rcases h with rfl | rfl | rfl | rfl | rfl | rfl <;> decide
structure RowOk (b : List Nat) (r : List It) : Prop where
  box : boxN r = b
  str : ∀ t, .inr t ∈ r → Str5 t ∧ t ≠ []
  adj : noAdj r = true
  len : r.length ≤ 2 * b.length + 1
theorem itV_flat (i : It) : (itV i).flat := by cases i <;> rfl
theorem rowVa_flat (r : List It) : (rowVa r).flat := flat_t fun w hw => by
  obtain ⟨i, _, rfl⟩ := List.mem_map.mp hw
  exact itV_flat i
theorem stringA_D (e : Dw) (a : Nat) (L : Sto) : Wp (cA_string [.ref e.d] (W e a L [])) fun w s => Hd (∃ t b, w = .str t ∧ s = W e b L [] ∧ Str5 t) := by
  unfold cA_string
  refine wp_fn rfl ?_
  (repeat (first |(with_reducible first |refine we_c ?_|refine we_b ?_|refine wa_c ?_|refine wa_n ?_|refine we_call ?_|refine we_lstW ?_|refine ss_c ?_|refine ss_ret ?_|refine inW_mk ?_) |(((with_reducible refine we_v (w := ?_) ?_ ?_); rotate_left; · rfl)) |(((with_reducible refine and_len ?_ ?_); · rfl)) |(((with_reducible refine and_le ?_ ?_); · exact Nat.le_of_ble_eq_true rfl))))
  refine wp_pick (by first | decide | omega) fun x b h0 h1 => ?_
  refine wp_ixZ rfl h0 h1 fun y hy => ?_
  obtain ⟨t, rfl, ht⟩ : ∃ t, y = .str t ∧ Str5 t := by
    simp only [List.mem_cons, List.not_mem_nil, or_false] at hy
    unfold Str5
    rcases hy with rfl | rfl | rfl | rfl | rfl | rfl | rfl | rfl <;> exact ⟨_, rfl, by decide⟩
  rw [W_fin_s]
  exact hd ⟨_, _, rfl, rfl, ht⟩
/-- what is put side by side ahead of the empty texts' leaving -/
def raw (s : List Nat) (ps : List (Nat × List Nat)) : List It := .inr s :: ps.flatMap fun p => [.inl p.1, .inr p.2]
def full : It → Bool
  | .inl _ => true
  | .inr s => !s.isEmpty
theorem raw_ok {s : List Nat} (hs : Str5 s) : ∀ {ps : List (Nat × List Nat)}, (∀ p ∈ ps, Str5 p.2) → RowOk (ps.map (·.1)) ((raw s ps).filter full)
  | ps, hp => by
    have key : ∀ ps : List (Nat × List Nat), (∀ p ∈ ps, Str5 p.2) → ∃ r, (ps.flatMap fun p => [(.inl p.1 : It), .inr p.2]).filter full = r ∧ boxN r = ps.map (·.1) ∧ (∀ t, .inr t ∈ r → Str5 t ∧ t ≠ []) ∧ noAdj r = true ∧ (∀ u, noAdj (.inr u :: r) = true) ∧ r.length ≤ 2 * ps.length := by
      intro ps
      induction ps with
      | nil => exact fun _ => ⟨[], rfl, rfl, fun _ h => (List.not_mem_nil h).elim, rfl, fun _ => rfl, Nat.le_refl _⟩
      | cons p ps ih =>
        intro hp
        obtain ⟨r, e, h1, h2, h3, h4, h5⟩ := ih fun q hq => hp q (List.mem_cons_of_mem _ hq)
        have hp0 := hp p (by simp)
        rw [List.flatMap_cons, List.filter_append, e]
        by_cases he : p.2 = []
        · refine ⟨.inl p.1 :: r, by simp [full, he, List.filter_cons], by rw [List.map_cons, ← h1]; rfl, fun t ht => ?_, h3, fun u => h3, by simp; omega⟩
          rcases List.mem_cons.mp ht with h | h
          · cases h
          · exact h2 t h
        · refine ⟨.inl p.1 :: .inr p.2 :: r, by simp [full, he, List.filter_cons], by rw [List.map_cons, ← h1]; rfl, fun t ht => ?_, h4 _, fun u => h4 _, by simp; omega⟩
          rcases List.mem_cons.mp ht with h | h
          · cases h
          · rcases List.mem_cons.mp h with h | h
            · cases h; exact ⟨hp0, he⟩
            · exact h2 t h
    obtain ⟨r, e, h1, h2, h3, h4, h5⟩ := key ps hp
    unfold raw
    by_cases he : s = []
    · rw [List.filter_cons_of_neg (by simp [full, he]), e]
      exact ⟨h1, h2, h3, by simp; omega⟩
    · rw [List.filter_cons_of_pos (by simp [full, he]), e]
      refine ⟨by rw [← h1]; rfl, fun t ht => ?_, h4 _, by simp; omega⟩
      rcases List.mem_cons.mp ht with h | h
      · cases h; exact ⟨hs, he⟩
      · exact h2 t h
def fullV : Va → Bool
  | .str s => !s.isEmpty
  | _ => true
theorem fullV_it (i : It) : fullV (itV i) = full i := by cases i <;> rfl
theorem rowA_D (e : Dw) (a : Nat) (L : Sto) {n : Nat} {b : List Nat} (hb : ∀ a M, (W e a L M)[n]? = some (.lst (nI b))) (hbl : b.length ≤ 100) :
    Wp (cA_row [.ref e.d, .ref n] (W e a L [])) fun w s => Hd (∃ r c, w = rowVa r ∧ s = W e c L [] ∧ RowOk b r) := by
  unfold cA_row
  refine wp_fn rfl ?_
  (repeat (first |(with_reducible first |refine wa_c ?_|refine wa_n ?_|refine we_call ?_|refine we_lstW ?_|refine ss_c ?_|refine ss_set ?_) |(((with_reducible refine we_v (w := ?_) ?_ ?_); rotate_left; · rfl)) |(((with_reducible refine and_len ?_ ?_); · rfl))))
  refine (stringA_D e _ _).imp ?_
  rintro w s ⟨t, c, rfl, rfl, ht⟩
  (repeat (first |(with_reducible first |refine wa_n ?_|refine ss_c ?_|refine ss_for ?_|refine wi_a ?_|refine inW_mk ?_) |(((with_reducible refine we_v (w := ?_) ?_ ?_); rotate_left; · rfl)) |(((with_reducible refine and_le ?_ ?_); · exact Nat.le_of_ble_eq_true rfl))))
  refine ex_some (y := ⟨nI b, fun st => st[n]? = some (.lst (nI b))⟩) (by simp only [srcOf, hb]) ?_
  refine wl_inv (fun i fm st => Hd (∃ c ps M k x4, fm = [some (.ref e.d), some (.ref n), some (.ref (e.p L + k)), x4, none] ∧ st = W e c L M ∧ M[k]? = some (.lst ((raw t ps).map itV)) ∧ ps.map (·.1) = b.take i ∧ ∀ p ∈ ps, Str5 p.2)) (by
    rintro i fm st ⟨c, ps, M, k, x4, rfl, rfl, _⟩
    exact hb _ _) (hd ⟨_, [], _, 0, _, rfl, rfl, rfl, rfl, fun _ h => (List.not_mem_nil h).elim⟩) ?_ ?_
  · rintro i w hw fm st ⟨c, ps, M, k, x4, rfl, rfl, hk, hps, hpt⟩
    obtain ⟨k', hk', rfl⟩ := nI_get hw
    have hti : b.take (i + 1) = b.take i ++ [k'] := by rw [List.take_succ, hk']; rfl
    refine ⟨_, rfl, ?_⟩
    (repeat (first |(with_reducible first |refine we_b ?_|refine wa_c ?_|refine wa_n ?_|refine we_call ?_|refine we_lstW ?_|refine ss_c ?_|refine ss_set ?_) |(((with_reducible refine we_v (w := ?_) ?_ ?_); rotate_left; · rfl)) |(((with_reducible refine and_len ?_ ?_); · rfl))))
    rw [W_in]
    refine (stringA_D e _ _).imp ?_
    rintro w s ⟨u, c, rfl, rfl, hu⟩
    rw [← W_in]
    (repeat (first |(with_reducible first |refine wa_n ?_|refine inW_mk ?_) |(((with_reducible refine and_le ?_ ?_); · exact Nat.le_of_ble_eq_true rfl))))
    have hl := congrArg List.length hps
    rw [List.length_map, List.length_take] at hl
    have hrl : (raw t ps).length = 1 + 2 * ps.length := by
      unfold raw
      have : ∀ ps : List (Nat × List Nat), (ps.flatMap fun p => [(.inl p.1 : It), .inr p.2]).length = 2 * ps.length := by
        intro ps
        induction ps with
        | nil => rfl
        | cons p ps ih => rw [List.flatMap_cons, List.length_append, ih]; simp; omega
      rw [List.length_cons, this]; omega
    refine wp_addL (k := k) (j := M.length) (at_push hk) at_last (by rw [List.length_map, hrl]; simp; omega) ?_
    (repeat (with_reducible refine ss_n ?_))
    refine hd ⟨_, ps ++ [(k', u)], _, _, _, rfl, rfl, ?_, by rw [hti, List.map_append, hps]; rfl, all_snoc hpt hu⟩
    rw [at_last]
    simp [raw, itV]
  · rintro fm st ⟨c, ps, M, k, x4, rfl, rfl, hk, hps, hpt⟩
    rw [nI_len, List.take_length] at hps
    have hok := raw_ok ht hpt
    rw [hps] at hok
    (repeat (with_reducible first |refine we_a ?_|refine wa_c ?_|refine ss_c ?_|refine ss_ret ?_))
    have hl := congrArg List.length hps
    rw [List.length_map] at hl
    have hrl : (raw t ps).length = 1 + 2 * ps.length := by
      unfold raw
      have : ∀ ps : List (Nat × List Nat), (ps.flatMap fun p => [(.inl p.1 : It), .inr p.2]).length = 2 * ps.length := by
        intro ps
        induction ps with
        | nil => rfl
        | cons p ps ih => rw [List.flatMap_cons, List.length_append, ih]; simp; omega
      rw [List.length_cons, this]; omega
    refine wp_lcQ (ws := (raw t ps).map itV) (gd := fun st => st[e.p L + k]? = some (.lst ((raw t ps).map itV))) fullV id (by
      simp only [iA, eV, List.getElem?_cons_succ, List.getElem?_cons_zero, Option.bind_some, srcOf, W_get, hk, Option.map_some]) (fun X => (W_get k).trans (at_push hk)) (by rw [List.length_map, hrl]; omega) (fun w hw => ?_) ?_
    · obtain ⟨i, hi, rfl⟩ := List.mem_map.mp hw
      refine ⟨_, rfl, fun M' _ => ?_⟩
      cases i with
      | inl j =>
        (repeat (first |(with_reducible first |refine we_c ?_|refine wb_b ?_) |(((with_reducible refine we_v (w := ?_) ?_ ?_); rotate_left; · rfl))))
        refine wp_of (w := .bl true) rfl ?_
        (repeat (with_reducible refine ex_bl ?_))
        refine ⟨rfl, rfl, fun _ => ?_⟩
        (repeat (((with_reducible refine we_v (w := ?_) ?_ ?_); rotate_left; · rfl)))
        exact ⟨rfl, rfl⟩
      | inr z =>
        simp only [itV]
        (repeat (first |(with_reducible first |refine we_c ?_|refine wb_b ?_|refine wp_nes ?_|refine ex_bl ?_) |(((with_reducible refine we_v (w := ?_) ?_ ?_); rotate_left; · rfl))))
        refine ⟨?_, rfl, fun _ => ?_⟩
        · cases z <;> simp [fullV]
        · (repeat (((with_reducible refine we_v (w := ?_) ?_ ?_); rotate_left; · rfl)))
          exact ⟨rfl, rfl⟩
    · have hf : (((raw t ps).map itV).filter fullV).map id = ((raw t ps).filter full).map itV := by
        rw [List.map_id, List.filter_map]
        congr 1
        congr 1
        funext i
        exact fullV_it i
      rw [hf]
      (repeat (with_reducible first |refine wa_n ?_|refine wp_tupZ ?_))
      rw [W_fin_f (rowVa_flat _)]
      exact hd ⟨_, _, rfl, rfl, hok⟩
end T3
set_option maxHeartbeats 4000000
/-! drawn box machines, first family: news, entries, machines -/
namespace T3
open PySem PySem.Spec PyProof.Rows L2
theorem ys_mapI {α : Type} {f : α → Va} : ∀ {ys : List Va} {P : Nat → α → Prop}, (∀ (i : Nat) y, ys[i]? = some y → ∃ g, P i g ∧ y = f g) → ∃ r : List α, ys = r.map f ∧ ∀ (i : Nat) g, r[i]? = some g → P i g
  | [], _, _ => ⟨[], rfl, fun i g h => by cases i <;> cases h⟩
  | y :: ys, P, h => by
    obtain ⟨g, hg, rfl⟩ := h 0 y rfl
    obtain ⟨r, rfl, hr⟩ := ys_mapI (ys := ys) (P := fun i => P (i + 1)) fun i y hy => h (i + 1) y hy
    refine ⟨g :: r, rfl, fun i x hx => ?_⟩
    cases i with
    | zero => cases hx; exact hg
    | succ i => exact hr i x hx
def refs (n m : Nat) : List Va := (List.range m).map fun j => Va.ref (n + (1 + j))
def lsts (bs : List (List Nat)) : Sto := bs.map fun b => Ob.lst (nI b)
theorem lsts_get {bs : List (List Nat)} {g : Nat} {b : List Nat} (h : bs[g]? = some b) : (lsts bs)[g]? = some (.lst (nI b)) := by
  unfold lsts
  rw [List.getElem?_map, h]; rfl
theorem lsts_set {bs : List (List Nat)} {g : Nat} {b : List Nat} : (lsts bs).set g (.lst (nI b)) = lsts (bs.set g b) := by
  unfold lsts; rw [List.map_set]
theorem flat_set {x : Nat} : ∀ {bs : List (List Nat)} {g : Nat} {b b' : List Nat}, bs[g]? = some b → b'.Perm (x :: b) → (bs.set g b').flatten.Perm (x :: bs.flatten)
  | [], _, _, _, h, _ => by cases h
  | c :: bs, 0, b, b', h, p => by
    cases h
    rw [List.set_cons_zero, List.flatten_cons, List.flatten_cons]
    exact p.append_right _
  | c :: bs, g + 1, b, b', h, p => by
    rw [List.set_cons_succ, List.flatten_cons, List.flatten_cons]
    exact ((flat_set (bs := bs) h p).append_left c).trans List.perm_middle
theorem len_flat {bs : List (List Nat)} {b : List Nat} (h : b ∈ bs) : b.length ≤ bs.flatten.length := by
  induction bs with
  | nil => cases h
  | cons c bs ih =>
    rw [List.flatten_cons, List.length_append]
    rcases List.mem_cons.mp h with rfl | h
    · omega
    · have := ih h; omega
theorem few : ∀ (S : Nat) (l : List Nat), l.Nodup → (∀ x ∈ l, x < S) → l.length ≤ S
  | 0, l, _, h => by
    cases l with
    | nil => exact Nat.le_refl _
    | cons a l => exact absurd (h a (by simp)) (by omega)
  | S + 1, l, hn, h => by
    have h1 := few S (l.erase S) (hn.erase S) fun x hx => by
      rw [hn.mem_erase_iff] at hx
      have := h x hx.2
      have := hx.1
      omega
    by_cases hm : S ∈ l
    · rw [List.length_erase_of_mem hm] at h1; omega
    · rw [List.erase_of_not_mem hm] at h1; omega
structure NewsOk (m : Nat) (rows : List (List It)) : Prop where
  len : rows.length = m
  row : ∀ r ∈ rows, ∃ b, RowOk b r
  nd : (rows.flatMap boxN).Nodup
  lt : ∀ x ∈ rows.flatMap boxN, x < m
abbrev newsVa (rows : List (List It)) : Va := .tup (rows.map rowVa)
theorem newsVa_flat (r : List (List It)) : (newsVa r).flat := flat_t fun w hw => by
  obtain ⟨i, _, rfl⟩ := List.mem_map.mp hw
  exact rowVa_flat i
theorem newsA_D (e : Dw) (a : Nat) (L : Sto) {m : Nat} (hm : m ≤ 20) :
    Wp (cA_news [.ref e.d, .int m] (W e a L [])) fun w s => Hd (∃ c rows, s = W e c L [] ∧ w = newsVa rows ∧ NewsOk m rows) := by
  unfold cA_news
  refine wp_fn rfl ?_
  have h00 : (W e a L []).length = e.p L + 0 := W_len
  refine ss_c (ss_set ?_)
  refine wp_lc ⟨⟨rngW 0 m, fun _ => True⟩, W e a L [], iR1_nat (by rfl) (by omega), fun i s => s = W e a L (.lst (refs (e.p L) i) :: List.replicate i (.lst [])), fun _ _ _ => trivial, W_push _, fun i w hw => ⟨_, rfl, ?_⟩, ?_⟩
  · rintro s1 rfl
    refine wb_yes (If.t ?_)
    (repeat (first |(with_reducible first |refine wa_n ?_|refine we_lstW ?_|refine inW_mk ?_) |(((with_reducible refine and_le ?_ ?_); · exact Nat.le_of_ble_eq_true rfl))))
    rw [h00]
    refine ⟨refs (e.p L) i, (W_get 0).trans rfl, by simp [refs]; have := (rng_get hw).2; omega, ?_⟩
    dsimp only
    rw [W_set]
    congr 1
    simp only [refs, List.length_cons, List.length_replicate, List.range_succ, List.map_append, List.map_cons, List.map_nil, List.cons_append, List.set_cons_zero]
    rw [List.replicate_succ', Nat.add_comm i 1]
  rintro s rfl
  dsimp only
  rw [rng_len, h00]
  (repeat (first |(with_reducible first |refine ss_c ?_|refine ss_for ?_|refine wi_r1 ?_|refine ex_int ?_) |(((with_reducible refine we_v (w := ?_) ?_ ?_); rotate_left; · rfl)) |(((with_reducible refine and_bd ?_ ?_); · first | decide | omega))))
  rw [Int.toNat_natCast]
  refine wl_inv (fun i fm st => Hd (∃ c bs x3 x4, fm = [some (.ref e.d), some (.int m), some (.ref (e.p L + 0)), x3, x4, none] ∧ st = W e c L (.lst (refs (e.p L) m) :: lsts bs) ∧ bs.length = m ∧ bs.flatten.Nodup ∧ ∀ x ∈ bs.flatten, x < i)) (fun _ _ _ _ => trivial)
    (hd ⟨_, List.replicate m [], _, _, rfl, by unfold lsts; rw [List.map_replicate]; rfl, by simp, by simp, fun x hx => by simp at hx⟩) ?_ ?_
  · rintro i w hw fm st ⟨c, bs, x3, x4, rfl, rfl, hbl, hnd, hlt⟩
    obtain ⟨rfl, hi⟩ := rng_get hw
    refine ⟨_, rfl, ?_⟩
    (repeat (first |(with_reducible first |refine we_c ?_|refine we_b ?_|refine wa_c ?_|refine wa_n ?_|refine we_call ?_|refine ss_c ?_|refine ss_set ?_|refine wp_ai ?_) |(((with_reducible refine we_v (w := ?_) ?_ ?_); rotate_left; · rfl)) |(((with_reducible refine and_len ?_ ?_); · rfl))))
    refine wp_pick (by omega) fun x b x0 x1 => ?_
    obtain ⟨x, rfl⟩ : ∃ n : Nat, x = (n : Int) := ⟨x.toNat, by omega⟩
    refine ss_cut (fun fm s => Hd (∃ g : Nat, fm = [some (.ref e.d), some (.int m), some (.ref (e.p L + 0)), some (.int (i : Nat)), some (.int g), none] ∧ s = W e b L (.lst (refs (e.p L) m) :: lsts bs) ∧ g < m)) ?_ ?_
    · (repeat (first |(with_reducible first |refine wb_b ?_|refine ss_if ?_|refine wp_ge ?_|refine ex_bl ?_) |(((with_reducible refine we_v (w := ?_) ?_ ?_); rotate_left; · rfl))))
      refine If.d (fun _ => ?_) (fun _ => ?_)
      · (repeat (first |(with_reducible first |refine ss_n ?_|refine ss_c ?_|refine ss_set ?_) |(((with_reducible refine we_v (w := ?_) ?_ ?_); rotate_left; · rfl))))
        exact hd ⟨i, by simp, rfl, hi⟩
      · (repeat (with_reducible refine ss_n ?_))
        exact hd ⟨x, by simp, rfl, by omega⟩
    rintro fm s ⟨g, rfl, rfl, hg⟩
    (repeat (first |(with_reducible first |refine we_c ?_|refine wa_c ?_|refine wa_n ?_|refine we_call ?_|refine wb_b ?_|refine ss_c ?_|refine ss_if ?_) |(((with_reducible refine we_v (w := ?_) ?_ ?_); rotate_left; · rfl)) |(((with_reducible refine and_len ?_ ?_); · rfl))))
    refine wp_pick (by first | decide | omega) fun x b h0 h1 => ?_
    (repeat (with_reducible first |refine we_c ?_|refine wp_gt ?_|refine ex_bl ?_))
    refine If.d (fun _ => ?_) (fun _ => ?_)
    · have hgb : bs[g]? = some (bs[g]'(by omega)) := List.getElem?_eq_getElem _
      generalize bs[g]'(by omega) = lst at hgb
      have hM : (Ob.lst (refs (e.p L) m) :: lsts bs)[1 + g]? = some (.lst (nI lst)) := by
        rw [Nat.add_comm 1 g, List.getElem?_cons_succ]; exact lsts_get hgb
      have hll := len_flat (List.mem_of_getElem? hgb)
      have hfl := few i bs.flatten hnd hlt
      have hix : atI (refs (e.p L) m) (g : Int) = some (.ref (e.p L + (1 + g))) := by rw [atI_n]; simp [refs, hg]
      (repeat (first |(with_reducible first |refine we_b ?_|refine we_mt ?_|refine ss_c ?_|refine ss_ex ?_) |(((with_reducible refine we_v (w := ?_) ?_ ?_); rotate_left; · rfl))))
      refine wp_ixLW (k := 0) rfl hix ?_
      refine and_hty (hty_W hM) ?_
      (repeat (first |(with_reducible first |refine we_c ?_|refine we_b ?_|refine wa_c ?_|refine wa_n ?_|refine we_call ?_) |(((with_reducible refine we_v (w := ?_) ?_ ?_); rotate_left; · rfl)) |(((with_reducible refine and_len ?_ ?_); · rfl))))
      refine wp_pick (by first | decide | omega) fun x b h0 h1 => ?_
      (repeat (first |(with_reducible first |refine we_b ?_|refine we_a ?_|refine wa_c ?_) |(((with_reducible refine we_v (w := ?_) ?_ ?_); rotate_left; · rfl))))
      refine wp_ixLW (k := 0) rfl hix ?_
      (repeat (with_reducible refine wa_n ?_))
      refine wp_lenW hM ?_
      rw [nI_len]
      obtain ⟨z, rfl, hz⟩ : ∃ z : Nat, x = (z : Int) ∧ z < 2 := ⟨x.toNat, by omega, by omega⟩
      have hzl : z * lst.length ≤ lst.length := by
        have : z * lst.length ≤ 1 * lst.length := Nat.mul_le_mul_right _ (by omega)
        omega
      refine wp_of (gMul_l (by omega)) ?_
      (repeat (first |(with_reducible first |refine wa_c ?_|refine wa_n ?_) |(((with_reducible refine we_v (w := ?_) ?_ ?_); rotate_left; · rfl))))
      have hins : ∀ b, gIns (.ref (e.p L + (1 + g))) [.int ((z : Int) * (lst.length : Int)), .int (i : Nat)] (W e b L (.lst (refs (e.p L) m) :: lsts bs)) = some (.non, W e b L (.lst (refs (e.p L) m) :: lsts (bs.set g (lst.take (z * lst.length) ++ [i] ++ lst.drop (z * lst.length))))) := fun b => by
        simp only [gIns, W_get, hM]
        rw [if_pos ⟨by rw [nI_len]; omega, by rw [← Int.natCast_mul]; omega, by rw [← Int.natCast_mul]; omega⟩, W_set, Nat.add_comm 1 g, List.set_cons_succ, ← Int.natCast_mul, Int.toNat_natCast, ← lsts_set]
        simp [nI]
      refine wp_of (hins _) ?_
      (repeat (with_reducible refine ss_n ?_))
      have hp : (lst.take (z * lst.length) ++ [i] ++ lst.drop (z * lst.length)).Perm (i :: lst) := by
        have h1 : (lst.take (z * lst.length) ++ [i] ++ lst.drop (z * lst.length)).Perm (i :: (lst.take (z * lst.length) ++ lst.drop (z * lst.length))) := by
          rw [List.append_assoc]; exact List.perm_middle
        rwa [List.take_append_drop] at h1
      have hq := flat_set hgb hp
      refine hd ⟨_, _, _, _, rfl, rfl, by simp [hbl], ?_, ?_⟩
      · rw [hq.nodup_iff, List.nodup_cons]
        exact ⟨fun h => by have := hlt i h; omega, hnd⟩
      · intro y hy
        rcases List.mem_cons.mp (hq.mem_iff.mp hy) with rfl | h
        · omega
        · have := hlt y h; omega
    · (repeat (with_reducible refine ss_n ?_))
      exact hd ⟨_, _, _, _, rfl, rfl, hbl, hnd, fun y hy => by have := hlt y hy; omega⟩
  · rintro fm st ⟨c, bs, x3, x4, rfl, rfl, hbl, hnd, hlt⟩
    rw [rng_len] at hlt
    have hfl := few m bs.flatten hnd hlt
    (repeat (with_reducible first |refine we_a ?_|refine wa_c ?_|refine ss_c ?_|refine ss_ret ?_))
    refine wp_lcG (ws := refs (e.p L) m) (fun i y => ∃ r, RowOk ((bs[i]?).getD []) r ∧ y = rowVa r) (gd := fun st => st[e.p L + 0]? = some (.lst (refs (e.p L) m))) (by
      simp only [iA, eV, List.getElem?_cons_succ, List.getElem?_cons_zero, Option.bind_some, srcOf, W_get]; rfl) (fun b Y h => (W_get 0).trans (pfx_get h rfl)) (by simp [refs]; omega) (fun i w hw => ⟨_, rfl, fun a X hX => ?_⟩) ?_
    · simp only [refs, List.getElem?_map, Option.map_eq_some_iff] at hw
      obtain ⟨j, hj, rfl⟩ := hw
      obtain ⟨h1, h2⟩ := List.getElem?_eq_some_iff.mp hj
      simp at h1 h2
      subst h2
      have hgb : bs[i]? = some ((bs[i]?).getD []) := by rw [List.getElem?_eq_getElem (by omega)]; rfl
      generalize (bs[i]?).getD [] = lst at hgb ⊢
      have hM : (Ob.lst (refs (e.p L) m) :: lsts bs)[1 + i]? = some (.lst (nI lst)) := by
        rw [Nat.add_comm 1 i, List.getElem?_cons_succ]; exact lsts_get hgb
      have hbl2 := len_flat (List.mem_of_getElem? hgb)
      (repeat (first |(with_reducible first |refine wa_c ?_|refine wa_n ?_|refine we_call ?_) |(((with_reducible refine we_v (w := ?_) ?_ ?_); rotate_left; · rfl)) |(((with_reducible refine and_len ?_ ?_); · rfl))))
      rw [W_in]
      refine (rowA_D e _ _ (b := lst) (fun a M => W_old2 (pfx_get hX hM)) (by omega)).imp ?_
      rintro w s ⟨r, c, rfl, rfl, hr⟩
      exact hd ⟨c, X, W_in.symm, List.prefix_refl _, r, hr, rfl⟩
    · intro b ys G hyl hy
      obtain ⟨rows, rfl, hrows⟩ := ys_mapI (f := rowVa) (P := fun i r => RowOk ((bs[i]?).getD []) r) hy
      rw [List.length_map] at hyl
      simp only [refs, List.length_map, List.length_range] at hyl
      have hfm : rows.flatMap boxN = bs.flatten := by
        have : rows.map boxN = bs := by
          apply List.ext_getElem?
          intro i
          rw [List.getElem?_map]
          by_cases hi : i < rows.length
          · rw [List.getElem?_eq_getElem hi, List.getElem?_eq_getElem (show i < bs.length by omega)]
            have := (hrows i _ (List.getElem?_eq_getElem hi)).box
            rw [List.getElem?_eq_getElem (show i < bs.length by omega)] at this
            simpa using this
          · rw [List.getElem?_eq_none (by omega), List.getElem?_eq_none (by omega)]; rfl
        rw [← this, List.flatMap]
      (repeat (with_reducible refine wa_n ?_))
      refine wp_tupG ?_
      rw [W_fin_f (w := newsVa rows) (newsVa_flat rows)]
      refine hd ⟨_, rows, rfl, rfl, hyl, fun r hr => ?_, by rw [hfm]; exact hnd, by rw [hfm]; exact hlt⟩
      obtain ⟨i, hi⟩ := List.getElem?_of_mem hr
      exact ⟨_, hrows i r hi⟩
end T3
set_option maxHeartbeats 4000000
/-! drawn box machines, first family: whole machines -/
namespace T3
open PySem PySem.Spec PyProof.Rows L2
abbrev Ent := Option (Nat × List (List It))
def entV : Ent → Va
  | none => .non
  | some p => .tup [.int p.1, newsVa p.2]
def endV : Option (List It) → Va
  | none => .non
  | some r => rowVa r
theorem entV_flat (x : Ent) : (entV x).flat := by
  cases x with
  | none => rfl
  | some p =>
    refine flat_t fun w hw => ?_
    simp only [List.mem_cons, List.not_mem_nil, or_false] at hw
    rcases hw with rfl | rfl
    · rfl
    · exact newsVa_flat _
theorem endV_flat (x : Option (List It)) : (endV x).flat := by
  cases x with
  | none => rfl
  | some r => exact rowVa_flat r
abbrev partVa (p : List Ent) : Va := .tup (p.map entV)
abbrev stVa (s : List (List Ent)) : Va := .tup (s.map partVa)
abbrev rowsVa (s : List (List (List Ent))) : Va := .tup (s.map stVa)
abbrev endsVa (s : List (Option (List It))) : Va := .tup (s.map endV)
abbrev boxVa (ls : List Nat) (ahead : List (List Nat)) (many : Nat) (rows : List (List (List Ent))) (ends : List (Option (List It))) : Va :=
  .tup [.str [98, 111, 120, 101, 115], .str ls, goalsV ahead, .int many, rowsVa rows, endsVa ends]
theorem map_flat {α : Type} {f : α → Va} (h : ∀ x, (f x).flat) (xs : List α) : (Va.tup (xs.map f)).flat := flat_t fun w hw => by
  obtain ⟨i, _, rfl⟩ := List.mem_map.mp hw
  exact h i
theorem rowsVa_flat (s : List (List (List Ent))) : (rowsVa s).flat := map_flat (fun x => map_flat (fun y => map_flat entV_flat y) x) s
theorem endsVa_flat (s : List (Option (List It))) : (endsVa s).flat := map_flat endV_flat s
theorem boxVa_flat {ls : List Nat} {ahead : List (List Nat)} {many : Nat} {rows : List (List (List Ent))} {ends : List (Option (List It))} : (boxVa ls ahead many rows ends).flat := flat_t fun w hw => by
  simp only [List.mem_cons, List.not_mem_nil, or_false] at hw
  rcases hw with rfl | rfl | rfl | rfl | rfl | rfl
  · rfl
  · rfl
  · exact goalsV_flat _
  · rfl
  · exact rowsVa_flat _
  · exact endsVa_flat _
def EntOk (S m : Nat) : Ent → Prop
  | none => True
  | some p => p.1 < S ∧ NewsOk m p.2
def EndOk (m : Nat) : Option (List It) → Prop
  | none => True
  | some r => ∃ b, RowOk b r ∧ b.Nodup ∧ ∀ x ∈ b, x < m
structure BW (ls : List Nat) (ahead : List (List Nat)) (many : Nat) (rows : List (List (List Ent))) (ends : List (Option (List It))) : Prop where
  pos : 1 ≤ ends.length
  len : rows.length = ends.length
  cpos : 1 ≤ ahead.length
  goals : GW ahead ahead.length ls.length
  st : ∀ s ∈ rows, s.length = ls.length ∧ ∀ p ∈ s, p.length = ahead.length ∧ ∀ x ∈ p, EntOk ends.length many x
  ends : ∀ x ∈ ends, EndOk many x
theorem range_nodup (n : Nat) : (List.range n).Nodup := List.nodup_range
theorem boxesA_D (e : Dw) (a : Nat) (L : Sto) {ls : List Nat} (hls : 1 ≤ ls.length ∧ ls.length ≤ 10) {most boxes classes : Nat} (hm : 1 ≤ most ∧ most ≤ 10) (hb : boxes ≤ 9) (hc : 1 ≤ classes ∧ classes ≤ 9) :
    Wp (cA_boxes [.ref e.d, .str ls, .int most, .int boxes, .int classes] (W e a L [])) fun w s => Hd (∃ c ahead many rows ends, s = W e c L [] ∧ w = boxVa ls ahead many rows ends ∧ BW ls ahead many rows ends ∧ ends.length ≤ most ∧ many ≤ boxes ∧ ahead.length ≤ classes) := by
  unfold cA_boxes
  refine wp_fn rfl ?_
  (repeat (first |(with_reducible first |refine we_c ?_|refine we_b ?_|refine wa_c ?_|refine wa_n ?_|refine we_call ?_|refine ss_c ?_|refine ss_set ?_) |(((with_reducible refine we_v (w := ?_) ?_ ?_); rotate_left; · rfl)) |(((with_reducible refine and_len ?_ ?_); · rfl))))
  refine wp_pick (by omega) fun x b0 x0 x1 => ?_
  obtain ⟨C, hC⟩ : ∃ n : Nat, 1 + x = (n : Int) := ⟨(1 + x).toNat, by omega⟩
  (repeat (first |(with_reducible first |refine we_a ?_|refine wa_c ?_|refine wa_n ?_|refine wp_ai ?_) |(((with_reducible refine we_v (w := ?_) ?_ ?_); rotate_left; · rfl))))
  rw [hC]
  refine wp_lens (by omega) ?_
  (repeat (first |(with_reducible refine wa_n ?_) |(((with_reducible refine and_len ?_ ?_); · rfl))))
  refine (goals_D e _ _ (by omega) (by omega)).imp ?_
  rintro w s ⟨ahead, b1, rfl, rfl, hgw⟩
  have hal := hgw.len
  subst hal
  (repeat (first |(with_reducible first |refine we_c ?_|refine we_b ?_|refine wa_c ?_|refine wa_n ?_|refine we_call ?_|refine ss_c ?_|refine ss_set ?_|refine wp_ai ?_) |(((with_reducible refine we_v (w := ?_) ?_ ?_); rotate_left; · rfl)) |(((with_reducible refine and_len ?_ ?_); · rfl))))
  refine wp_pick (by omega) fun x b2 y0 y1 => ?_
  obtain ⟨many, rfl⟩ : ∃ n : Nat, x = (n : Int) := ⟨x.toNat, by omega⟩
  (repeat (first |(with_reducible first |refine we_c ?_|refine we_b ?_|refine wa_c ?_|refine wa_n ?_|refine we_call ?_|refine ss_c ?_|refine ss_set ?_) |(((with_reducible refine we_v (w := ?_) ?_ ?_); rotate_left; · rfl)) |(((with_reducible refine and_len ?_ ?_); · rfl))))
  refine wp_pick (by omega) fun x b3 z0 z1 => ?_
  obtain ⟨S, hS⟩ : ∃ n : Nat, 1 + x = (n : Int) := ⟨(1 + x).toNat, by omega⟩
  (repeat (first |(with_reducible first |refine we_c ?_|refine we_b ?_|refine wa_c ?_|refine wa_n ?_|refine we_call ?_|refine ss_c ?_|refine ss_set ?_|refine wp_ai ?_) |(((with_reducible refine we_v (w := ?_) ?_ ?_); rotate_left; · rfl)) |(((with_reducible refine and_len ?_ ?_); · rfl))))
  rw [hS]
  refine wp_pick (by first | decide | omega) fun x b h0 h1 => ?_
  (repeat (first |(with_reducible first |refine we_c ?_|refine wa_n ?_|refine we_lstW ?_|refine ss_c ?_|refine ss_set ?_|refine ss_for ?_|refine wi_r1 ?_|refine wp_eqi ?_|refine ex_int ?_|refine inW_mk ?_) |(((with_reducible refine we_v (w := ?_) ?_ ?_); rotate_left; · rfl)) |(((with_reducible refine and_le ?_ ?_); · exact Nat.le_of_ble_eq_true rfl)) |(((with_reducible refine and_bd ?_ ?_); · first | decide | omega))))
  generalize decide (x = 0) = holes
  rw [Int.toNat_natCast]
  refine wl_inv (fun i fm st => Hd (∃ c rows M x10 x11 x12 x13 x14 x15 x16 x17 x18, fm = [some (.ref e.d), some (.str ls), some (.int most), some (.int boxes), some (.int classes), some (goalsV ahead), some (.int many), some (.int S), some (.bl holes), some (.ref (e.p L + 0)), x10, x11, x12, x13, x14, x15, x16, x17, x18] ∧ st = W e c L M ∧
      M[0]? = some (.lst rows) ∧ rows.length = i ∧ ∀ x ∈ rows, ∃ s : List (List Ent), (s.length = ls.length ∧ ∀ p ∈ s, p.length = ahead.length ∧ ∀ x ∈ p, EntOk S many x) ∧ x = stVa s)) (fun _ _ _ _ => trivial) (hd ⟨_, [], _, _, _, _, _, _, _, _, _, _, rfl, rfl, rfl, rfl, fun _ h => (List.not_mem_nil h).elim⟩) ?_ ?_
  · rintro i w hw fm st ⟨c, rows, M, x10, x11, x12, x13, x14, x15, x16, x17, x18, rfl, rfl, hk, hrl, hrows⟩
    obtain ⟨rfl, hi⟩ := rng_get hw
    refine ⟨_, rfl, ?_⟩
    refine ss_c (ss_set ?_)
    (repeat (first |(with_reducible first |refine we_a ?_|refine wa_c ?_|refine wa_n ?_|refine we_lstW ?_|refine ss_c ?_|refine ss_for ?_|refine wi_r1 ?_|refine inW_mk ?_) |(((with_reducible refine we_v (w := ?_) ?_ ?_); rotate_left; · rfl)) |(((with_reducible refine and_le ?_ ?_); · exact Nat.le_of_ble_eq_true rfl))))
    have hkl := at_lt hk
    have hj : (M ++ [Ob.lst []] : Sto)[M.length]? = some (.lst []) := at_last
    have hk' : (M ++ [Ob.lst []] : Sto)[0]? = some (.lst rows) := at_push hk
    have hne : M.length ≠ 0 := by omega
    generalize M.length = j at hj hne ⊢
    generalize (M ++ [Ob.lst []] : Sto) = M' at hj hk' ⊢
    clear hk hkl
    refine wp_lens (by omega) ?_
    (repeat (first |(with_reducible refine ex_int ?_) |(((with_reducible refine and_bd ?_ ?_); · first | decide | omega))))
    rw [Int.toNat_natCast]
    refine wl_inv (fun i' fm st => Hd (∃ c row M x12 x13 x14 x15 x16 x17 x18, fm = [some (.ref e.d), some (.str ls), some (.int most), some (.int boxes), some (.int classes), some (goalsV ahead), some (.int many), some (.int S), some (.bl holes), some (.ref (e.p L + 0)), some (.int (0 + (i : Int))), some (.ref (e.p L + j)), x12, x13, x14, x15, x16, x17, x18] ∧ st = W e c L M ∧
      M[0]? = some (.lst rows) ∧ M[j]? = some (.lst row) ∧ row.length = i' ∧ ∀ x ∈ row, ∃ p : List Ent, (p.length = ahead.length ∧ ∀ x ∈ p, EntOk S many x) ∧ x = partVa p)) (fun _ _ _ _ => trivial) (hd ⟨_, [], _, _, _, _, _, _, _, _, rfl, rfl, hk', hj, rfl, fun _ h => (List.not_mem_nil h).elim⟩) ?_ ?_
    · rintro i' w hw fm st ⟨c, row, M, x12, x13, x14, x15, x16, x17, x18, rfl, rfl, hk, hj, hrl', hrow⟩
      obtain ⟨rfl, hi'⟩ := rng_get hw
      refine ⟨_, rfl, ?_⟩
      refine ss_c (ss_set ?_)
      (repeat (first |(with_reducible first |refine we_a ?_|refine wa_c ?_|refine wa_n ?_|refine we_lstW ?_|refine ss_c ?_|refine ss_for ?_|refine wi_r1 ?_|refine wp_lent ?_|refine ex_int ?_|refine inW_mk ?_) |(((with_reducible refine we_v (w := ?_) ?_ ?_); rotate_left; · rfl)) |(((with_reducible refine and_le ?_ ?_); · exact Nat.le_of_ble_eq_true rfl))))
      have hkl := at_lt hk
      have hjl := at_lt hj
      have hl : (M ++ [Ob.lst []] : Sto)[M.length]? = some (.lst []) := at_last
      have hk' : (M ++ [Ob.lst []] : Sto)[0]? = some (.lst rows) := at_push hk
      have hj' : (M ++ [Ob.lst []] : Sto)[j]? = some (.lst row) := at_push hj
      have hnk : M.length ≠ 0 := by omega
      have hnj : M.length ≠ j := by omega
      generalize M.length = l at hl hnk hnj ⊢
      generalize (M ++ [Ob.lst []] : Sto) = M' at hl hj' hk' ⊢
      clear hk hkl hj hjl
      rw [List.length_map, Int.toNat_natCast]
      refine and_bd ⟨by omega, by omega⟩ ?_
      refine wl_inv (fun i'' fm st => Hd (∃ c part M x14 x15 x16 x17 x18, fm = [some (.ref e.d), some (.str ls), some (.int most), some (.int boxes), some (.int classes), some (goalsV ahead), some (.int many), some (.int S), some (.bl holes), some (.ref (e.p L + 0)), some (.int (0 + (i : Int))), some (.ref (e.p L + j)), some (.int (0 + (i' : Int))), some (.ref (e.p L + l)), x14, x15, x16, x17, x18] ∧ st = W e c L M ∧
        M[0]? = some (.lst rows) ∧ M[j]? = some (.lst row) ∧ M[l]? = some (.lst part) ∧ part.length = i'' ∧ ∀ x ∈ part, ∃ en : Ent, EntOk S many en ∧ x = entV en)) (fun _ _ _ _ => trivial) (hd ⟨_, [], _, _, _, _, _, _, rfl, rfl, hk', hj', hl, rfl, fun _ h => (List.not_mem_nil h).elim⟩) ?_ ?_
      · rintro i'' w hw fm st ⟨c, part, M, x14, x15, x16, x17, x18, rfl, rfl, hk, hj, hl, hcl, hpart⟩
        obtain ⟨rfl, hi''⟩ := rng_get hw
        refine ⟨_, rfl, ?_⟩
        (repeat (first |(with_reducible first |refine wa_c ?_|refine wa_n ?_|refine we_call ?_|refine we_tup ?_|refine ss_c ?_|refine ss_set ?_) |(((with_reducible refine we_v (w := ?_) ?_ ?_); rotate_left; · rfl)) |(((with_reducible refine and_len ?_ ?_); · rfl))))
        refine wp_pick (by omega) fun x bq q0 q1 => ?_
        obtain ⟨g, rfl⟩ : ∃ n : Nat, x = (n : Int) := ⟨x.toNat, by omega⟩
        (repeat (first |(with_reducible first |refine wa_c ?_|refine wa_n ?_|refine we_call ?_) |(((with_reducible refine we_v (w := ?_) ?_ ?_); rotate_left; · rfl)) |(((with_reducible refine and_len ?_ ?_); · rfl))))
        rw [W_in]
        refine (newsA_D e _ _ (by omega)).imp ?_
        rintro w s ⟨c, news, rfl, rfl, hnews⟩
        rw [← W_in]
        (repeat (first |(with_reducible first |refine wa_n ?_|refine we_mt ?_|refine ss_c ?_|refine ss_ex ?_) |(((with_reducible refine we_v (w := ?_) ?_ ?_); rotate_left; · rfl)) |(((with_reducible refine and_le ?_ ?_); · exact Nat.le_of_ble_eq_true rfl))))
        refine and_hty (hty_W hl) ?_
        have hent : ∀ (y : Va), y ∈ [entV (some (g, news)), Va.non] → ∃ en : Ent, EntOk S many en ∧ y = entV en := fun y hy => by
          simp only [List.mem_cons, List.not_mem_nil, or_false] at hy
          rcases hy with rfl | rfl
          · exact ⟨some (g, news), ⟨by omega, hnews⟩, rfl⟩
          · exact ⟨none, trivial, rfl⟩
        (repeat (first |(with_reducible first |refine we_c ?_|refine we_b ?_|refine we_a ?_|refine wa_c ?_|refine wa_n ?_|refine we_lstW ?_|refine we_and ?_|refine ex_bl ?_|refine inW_mk ?_) |(((with_reducible refine we_v (w := ?_) ?_ ?_); rotate_left; · rfl)) |(((with_reducible refine and_le ?_ ?_); · exact Nat.le_of_ble_eq_true rfl))))
        have fin1 : ∀ (k : Nat) (y : Va) (bb : Nat), k < 2 → atI [entV (some (g, news)), Va.non] (k : Int) = some y → ∃ en : Ent, EntOk S many en ∧ y = entV en := fun k y bb hk hy => hent y (by
          rw [atI_n] at hy
          exact List.mem_of_getElem? hy)
        cases holes with
        | true =>
          (repeat (first |(with_reducible first |refine we_c ?_|refine we_b ?_|refine wa_c ?_|refine wa_n ?_|refine we_call ?_) |(((with_reducible refine we_v (w := ?_) ?_ ?_); rotate_left; · rfl)) |(((with_reducible refine If_tr ?_ ?_); · rfl)) |(((with_reducible refine and_len ?_ ?_); · rfl))))
          refine wp_pick (by first | decide | omega) fun x b h0 h1 => ?_
          (repeat (with_reducible first |refine we_c ?_|refine wa_n ?_|refine wp_eqi ?_))
          refine wp_of (w := .int (if x = 0 then 1 else 0)) (by
            by_cases hx : x = 0
            · rw [if_pos hx, decide_eq_true hx]; rfl
            · rw [if_neg hx, decide_eq_false hx]; rfl) ?_
          refine wp_ixLW (k := M.length) (ws := [entV (some (g, news)), Va.non]) (w := if x = 0 then Va.non else entV (some (g, news))) at_last (by
            by_cases hx : x = 0
            · rw [if_pos hx, if_pos hx]; rfl
            · rw [if_neg hx, if_neg hx]; rfl) ?_
          (repeat (with_reducible refine wa_n ?_))
          refine wp_appW (at_push hl) (by omega) ?_
          (repeat (with_reducible refine ss_n ?_))
          refine hd ⟨_, _, _, _, _, _, _, _, rfl, rfl, at_set2 (at_push hk) hnk, at_set2 (at_push hj) hnj, at_set (at_push hl), by simp [hcl], all_snoc hpart (hent _ ?_)⟩
          by_cases hx : x = 0
          · rw [if_pos hx]; simp
          · rw [if_neg hx]; simp
        | false =>
          (repeat (first |(with_reducible refine wa_n ?_) |(((with_reducible refine If_fa ?_ ?_); · rfl))))
          refine wp_of (w := .int 0) rfl ?_
          refine wp_ixLW (k := M.length) (ws := [entV (some (g, news)), Va.non]) (w := entV (some (g, news))) at_last rfl ?_
          (repeat (with_reducible refine wa_n ?_))
          refine wp_appW (at_push hl) (by omega) ?_
          (repeat (with_reducible refine ss_n ?_))
          exact hd ⟨_, _, _, _, _, _, _, _, rfl, rfl, at_set2 (at_push hk) hnk, at_set2 (at_push hj) hnj, at_set (at_push hl), by simp [hcl], all_snoc hpart (hent _ (by simp))⟩
      · rintro fm st ⟨c, part, M, x14, x15, x16, x17, x18, rfl, rfl, hk, hj, hl, hcl, hpart⟩
        dsimp only at hcl
        rw [rng_len] at hcl
        obtain ⟨p, rfl, hp⟩ := ys_map (f := entV) (P := EntOk S many) fun i y h => hpart y (List.mem_of_getElem? h)
        rw [List.length_map] at hcl
        (repeat (first |(with_reducible first |refine we_mt ?_|refine ss_c ?_|refine ss_ex ?_) |(((with_reducible refine we_v (w := ?_) ?_ ?_); rotate_left; · rfl))))
        refine and_hty (hty_W hj) ?_
        (repeat (first |(with_reducible first |refine we_a ?_|refine wa_c ?_|refine wa_n ?_) |(((with_reducible refine we_v (w := ?_) ?_ ?_); rotate_left; · rfl))))
        refine wp_tupW hl ?_
        (repeat (with_reducible refine wa_n ?_))
        refine wp_appW hj (by omega) ?_
        (repeat (with_reducible refine ss_n ?_))
        exact hd ⟨_, _, _, _, _, _, _, _, _, _, rfl, rfl, at_set2 hk hne, at_set hj, by simp [hrl'], all_snoc hrow ⟨p, ⟨hcl, hp⟩, rfl⟩⟩
    · rintro fm st ⟨c, row, M, x12, x13, x14, x15, x16, x17, x18, rfl, rfl, hk, hj, hrl', hrow⟩
      dsimp only at hrl'
      rw [rng_len] at hrl'
      obtain ⟨s, rfl, hs⟩ := ys_map (f := partVa) (P := fun p => p.length = ahead.length ∧ ∀ x ∈ p, EntOk S many x) fun i y h => hrow y (List.mem_of_getElem? h)
      rw [List.length_map] at hrl'
      (repeat (first |(with_reducible first |refine we_mt ?_|refine ss_c ?_|refine ss_ex ?_) |(((with_reducible refine we_v (w := ?_) ?_ ?_); rotate_left; · rfl))))
      refine and_hty (hty_W hk) ?_
      (repeat (first |(with_reducible first |refine we_a ?_|refine wa_c ?_|refine wa_n ?_) |(((with_reducible refine we_v (w := ?_) ?_ ?_); rotate_left; · rfl))))
      refine wp_tupW hj ?_
      (repeat (with_reducible refine wa_n ?_))
      refine wp_appW hk (by omega) ?_
      (repeat (with_reducible refine ss_n ?_))
      exact hd ⟨_, _, _, _, _, _, _, _, _, _, _, _, rfl, rfl, at_set hk, by simp [hrl], all_snoc hrows ⟨s, ⟨hrl', hs⟩, rfl⟩⟩
  · rintro fm st ⟨c, rows, M, x10, x11, x12, x13, x14, x15, x16, x17, x18, rfl, rfl, hk, hrl, hrows⟩
    dsimp only at hrl
    rw [rng_len] at hrl
    obtain ⟨rows, rfl, hrs⟩ := ys_map (f := stVa) (P := fun s => s.length = ls.length ∧ ∀ p ∈ s, p.length = ahead.length ∧ ∀ x ∈ p, EntOk S many x) fun i y h => hrows y (List.mem_of_getElem? h)
    rw [List.length_map] at hrl
    (repeat (first |(with_reducible first |refine wa_n ?_|refine we_lstW ?_|refine ss_c ?_|refine ss_set ?_|refine ss_for ?_|refine wi_r1 ?_|refine ex_int ?_|refine inW_mk ?_) |(((with_reducible refine we_v (w := ?_) ?_ ?_); rotate_left; · rfl)) |(((with_reducible refine and_le ?_ ?_); · exact Nat.le_of_ble_eq_true rfl)) |(((with_reducible refine and_bd ?_ ?_); · first | decide | omega))))
    have hj : (M ++ [Ob.lst []] : Sto)[M.length]? = some (.lst []) := at_last
    have hk' : (M ++ [Ob.lst []] : Sto)[0]? = some (.lst (rows.map stVa)) := at_push hk
    have hne : M.length ≠ 0 := by have := at_lt hk; omega
    generalize M.length = j at hj hne ⊢
    generalize (M ++ [Ob.lst []] : Sto) = M' at hj hk' ⊢
    clear hk
    rw [Int.toNat_natCast]
    refine wl_inv (fun i fm st => Hd (∃ c es M x10 x11 x12 x13 x14 x15 x17 x18, fm = [some (.ref e.d), some (.str ls), some (.int most), some (.int boxes), some (.int classes), some (goalsV ahead), some (.int many), some (.int S), some (.bl holes), some (.ref (e.p L + 0)), x10, x11, x12, x13, x14, x15, some (.ref (e.p L + j)), x17, x18] ∧ st = W e c L M ∧
      M[0]? = some (.lst (rows.map stVa)) ∧ M[j]? = some (.lst es) ∧ es.length = i ∧ ∀ x ∈ es, ∃ en : Option (List It), EndOk many en ∧ x = endV en)) (fun _ _ _ _ => trivial) (hd ⟨_, [], _, _, _, _, _, _, _, _, _, rfl, rfl, hk', hj, rfl, fun _ h => (List.not_mem_nil h).elim⟩) ?_ ?_
    · rintro i w hw fm st ⟨c, es, M, x10, x11, x12, x13, x14, x15, x17, x18, rfl, rfl, hk, hj, hel, hes⟩
      obtain ⟨rfl, hi⟩ := rng_get hw
      refine ⟨_, rfl, ?_⟩
      (repeat (first |(with_reducible first |refine wa_c ?_|refine we_call ?_|refine ss_c ?_|refine ss_set ?_) |(((with_reducible refine we_v (w := ?_) ?_ ?_); rotate_left; · rfl))))
      refine wp_lc ⟨⟨rngW 0 many, fun _ => True⟩, W e c L M, iR1_nat (by rfl) (by omega), fun i s => ∃ c b, s = W e c L (M ++ [.lst (nI b)]) ∧ b.Nodup ∧ ∀ x ∈ b, x < i, fun _ _ _ => trivial, ⟨c, [], by rw [W_push]; rfl, List.nodup_nil, fun _ h => (List.not_mem_nil h).elim⟩, fun i w hw => ⟨_, rfl, ?_⟩, ?_⟩
      · rintro s1 ⟨c, b, rfl, hnd, hlt⟩
        obtain ⟨rfl, hi⟩ := rng_get hw
        have hbl := few i b hnd hlt
        (repeat (first |(with_reducible first |refine we_c ?_|refine wa_c ?_|refine wa_n ?_|refine we_call ?_|refine wb_b ?_) |(((with_reducible refine we_v (w := ?_) ?_ ?_); rotate_left; · rfl)) |(((with_reducible refine and_len ?_ ?_); · rfl))))
        refine wp_pick (by omega) fun x bq h0 h1 => ?_
        (repeat (with_reducible first |refine we_c ?_|refine wp_gt ?_|refine ex_bl ?_))
        refine If.d (fun _ => ?_) (fun _ => ?_)
        · (repeat (((with_reducible refine we_v (w := ?_) ?_ ?_); rotate_left; · rfl)))
          refine ⟨nI b, by rw [W_len, W_get]; exact at_last, by rw [nI_len]; omega, bq, b ++ [i], ?_, ?_, ?_⟩
          · rw [W_len, W_set]
            simp [nI]
          · rw [List.nodup_append]
            exact ⟨hnd, by simp, fun a ha b hb e => by simp at hb; subst hb; subst e; exact absurd (hlt _ ha) (by omega)⟩
          · intro x hx
            rcases List.mem_append.mp hx with h | h
            · have := hlt x h; omega
            · simp at h; omega
        · exact ⟨_, b, rfl, hnd, fun x hx => by have := hlt x hx; omega⟩
      · rintro s ⟨c, b, rfl, hnd, hlt⟩
        dsimp only at hlt
        rw [rng_len] at hlt
        rw [W_len]
        have hbl := few many b hnd hlt
        (repeat (first |(with_reducible refine wa_n ?_) |(((with_reducible refine and_len ?_ ?_); · rfl))))
        rw [W_in]
        refine (rowA_D e _ (L ++ (M ++ [Ob.lst (nI b)])) (n := e.p L + M.length) (b := b) (fun a M' => W_old2 at_last) (by omega)).imp ?_
        rintro w s ⟨r, c, rfl, rfl, hr⟩
        rw [← W_in]
        have hend : ∀ (y : Va), y ∈ [rowVa r, Va.non] → ∃ en : Option (List It), EndOk many en ∧ y = endV en := fun y hy => by
          simp only [List.mem_cons, List.not_mem_nil, or_false] at hy
          rcases hy with rfl | rfl
          · exact ⟨some r, ⟨b, hr, hnd, hlt⟩, rfl⟩
          · exact ⟨none, trivial, rfl⟩
        (repeat (first |(with_reducible first |refine we_mt ?_|refine ss_c ?_|refine ss_ex ?_) |(((with_reducible refine we_v (w := ?_) ?_ ?_); rotate_left; · rfl))))
        refine and_hty (hty_W (at_push hj)) ?_
        (repeat (first |(with_reducible first |refine we_c ?_|refine we_b ?_|refine we_a ?_|refine wa_c ?_|refine wa_n ?_|refine we_call ?_|refine we_lstW ?_|refine inW_mk ?_) |(((with_reducible refine we_v (w := ?_) ?_ ?_); rotate_left; · rfl)) |(((with_reducible refine and_len ?_ ?_); · rfl)) |(((with_reducible refine and_le ?_ ?_); · exact Nat.le_of_ble_eq_true rfl))))
        refine wp_pick (by omega) fun x bq h0 h1 => ?_
        (repeat (with_reducible first |refine we_c ?_|refine wa_n ?_|refine wp_eqi ?_))
        refine wp_of (w := .int (if x = 0 then 1 else 0)) (by
          by_cases hx : x = 0
          · rw [if_pos hx, decide_eq_true hx]; rfl
          · rw [if_neg hx, decide_eq_false hx]; rfl) ?_
        refine wp_ixLW (k := (M ++ [Ob.lst (nI b)]).length) (ws := [rowVa r, Va.non]) (w := if x = 0 then Va.non else rowVa r) at_last (by
          by_cases hx : x = 0
          · rw [if_pos hx, if_pos hx]; rfl
          · rw [if_neg hx, if_neg hx]; rfl) ?_
        (repeat (with_reducible refine wa_n ?_))
        refine wp_appW (at_push (at_push hj)) (by omega) ?_
        (repeat (with_reducible refine ss_n ?_))
        refine hd ⟨_, _, _, _, _, _, _, _, _, _, _, rfl, rfl, at_set2 (at_push (at_push hk)) hne, at_set (at_push (at_push hj)), by simp [hel], all_snoc hes (hend _ ?_)⟩
        by_cases hx : x = 0
        · rw [if_pos hx]; simp
        · rw [if_neg hx]; simp
    · rintro fm st ⟨c, es, M, x10, x11, x12, x13, x14, x15, x17, x18, rfl, rfl, hk, hj, hel, hes⟩
      dsimp only at hel
      rw [rng_len] at hel
      obtain ⟨es, rfl, hes'⟩ := ys_map (f := endV) (P := EndOk many) fun i y h => hes y (List.mem_of_getElem? h)
      rw [List.length_map] at hel
      (repeat (first |(with_reducible first |refine we_c ?_|refine we_a ?_|refine wa_c ?_|refine wa_n ?_|refine we_tup ?_|refine ss_c ?_|refine ss_ret ?_) |(((with_reducible refine we_v (w := ?_) ?_ ?_); rotate_left; · rfl))))
      refine wp_tupW hk ?_
      (repeat (first |(with_reducible first |refine we_a ?_|refine wa_c ?_|refine wa_n ?_) |(((with_reducible refine we_v (w := ?_) ?_ ?_); rotate_left; · rfl))))
      refine wp_tupW hj ?_
      (repeat (first |(with_reducible refine wa_n ?_) |(((with_reducible refine and_le ?_ ?_); · exact Nat.le_of_ble_eq_true rfl))))
      rw [W_fin_f (w := boxVa ls ahead many rows es) boxVa_flat]
      exact hd ⟨_, ahead, many, rows, es, rfl, rfl, ⟨by omega, by omega, by omega, hgw, fun s hs => by rw [hel]; exact hrs s hs, hes'⟩, by omega, by omega, by omega⟩
end T3
set_option maxHeartbeats 4000000
/-! box machines among things: what is right; len(set(..)), a comprehension of two fors over calls -/
namespace T3
open PySem PySem.Spec PyProof.Rows L2
theorem dedup_le : ∀ l : List Int, (dedup l).length ≤ l.length
  | [] => Nat.le_refl _
  | x :: xs => by
    have := dedup_le xs
    unfold dedup
    split
    · simp only [List.length_cons]; omega
    · simp only [List.length_cons]; omega
theorem dedup_eq : ∀ l : List Int, l.length = (dedup l).length ↔ l.Nodup
  | [] => by simp [dedup]
  | x :: xs => by
    have ih := dedup_eq xs
    have hl := dedup_le xs
    rw [List.nodup_cons]
    unfold dedup
    split
    · rename_i h
      rw [dedup_mem] at h
      constructor
      · intro h2
        simp only [List.length_cons] at h2
        omega
      · rintro ⟨h2, _⟩
        exact absurd h h2
    · rename_i h
      rw [dedup_mem] at h
      simp only [List.length_cons, Nat.add_right_cancel_iff]
      rw [ih]
      exact ⟨fun h2 => ⟨h, h2⟩, fun h2 => h2.2⟩
def itemOk (m : Nat) : Va → Bool
  | .str s => (!s.isEmpty) && s.all fun c => decide (c ∈ abc)
  | w => goalOk m w
def adjB (ws : List Va) : Bool := (List.range (ws.length - 1)).all fun i => !(isSt ((ws[i]?).getD .non) && isSt ((ws[i + 1]?).getD .non))
def browOk (m : Nat) : Va → Bool
  | .tup ws => ws.all (itemOk m) && adjB ws
  | _ => false
def boxI : Va → Option Int
  | .int i => some i
  | _ => none
def boxesI (rows : List Va) : List Int := rows.flatMap fun r => (itT r).filterMap boxI
def onceB (rows : List Va) : Bool := decide ((boxesI rows).Nodup)
def bendOk (m : Nat) (w : Va) : Bool := isNon w || (browOk m w && onceB [w])
def entryOk (S m : Nat) : Va → Bool
  | .non => true
  | .tup [q, .tup news] => goalOk S q && (decide (news.length = m) && (news.all (browOk m) && onceB news))
  | _ => false
def bpartOk (cl S m : Nat) : Va → Bool
  | .tup es => decide (es.length = cl) && es.all (entryOk S m)
  | _ => false
def bstateOk (k cl S m : Nat) : Va → Bool
  | .tup ps => decide (ps.length = k) && ps.all (bpartOk cl S m)
  | _ => false
def brestOk (k cl : Nat) (mm rs es : Va) : Bool := match mm, es with
  | .int i, .tup en => decide (0 ≤ i) && (!en.isEmpty && (en.all (bendOk i.toNat) && (sizedB en.length rs && (itT rs).all (bstateOk k cl en.length i.toNat))))
  | _, _ => false
def boxesW : List Nat := [98, 111, 120, 101, 115]
def boxOk : Va → Bool
  | .tup [h, l, z, mm, rs, es] => isW boxesW h && (letOk l && (goalsOk (lenS l) z && brestOk (lenS l) (itT z).length mm rs es))
  | _ => false
theorem boxesI_cons (r : Va) (rs : List Va) : boxesI (r :: rs) = (itT r).filterMap boxI ++ boxesI rs := by simp [boxesI]
theorem boxesI_app (rs qs : List Va) : boxesI (rs ++ qs) = boxesI rs ++ boxesI qs := by simp [boxesI]
/-- boxes of a right row -/
theorem row_boxes {m : Nat} : ∀ {ws : List Va}, ws.all (itemOk m) = true → ws.filter (fun w => !isSt w) = (ws.filterMap boxI).map Va.int
  | [], _ => rfl
  | w :: ws, h => by
    rw [List.all_cons, Bool.and_eq_true] at h
    have ih := row_boxes h.2
    cases w <;> simp [itemOk, goalOk] at h <;> rw [List.filter_cons, List.filterMap_cons, ih] <;> simp only [isSt, boxI, Bool.not_true, Bool.not_false, if_true, Bool.false_eq_true, if_false, List.map_cons]
theorem boxesI_len {b : Nat} : ∀ {rows : List Va}, (∀ r ∈ rows, (itT r).length ≤ b) → (boxesI rows).length ≤ rows.length * b
  | [], _ => Nat.zero_le _
  | r :: rs, h => by
    have h1 := boxesI_len (rows := rs) fun r hr => h r (List.mem_cons_of_mem _ hr)
    have h2 := h r List.mem_cons_self
    have h3 : ((itT r).filterMap boxI).length ≤ (itT r).length := List.length_filterMap_le _ _
    rw [boxesI_cons, List.length_append, List.length_cons, Nat.succ_mul]
    omega
theorem ints_map : ∀ ns : List Int, intsOf (ns.map Va.int) = some ns
  | [] => rfl
  | n :: ns => by simp [intsOf, ints_map ns]
section
variable {e : Dw} {a : Nat} {L M : Sto} {Q : Va → Sto → Prop}
theorem wp_lenset {k : Nat} {ns : List Int} (hM : M[k]? = some (.lst (ns.map Va.int))) (hl : ns.length < 4000) (h : Q (.int ((dedup ns).length : Nat)) (W e a L M)) : Wp (gLenSet [.ref (e.p L + k)] (W e a L M)) Q := by
  refine wp_of (w := .int ((dedup ns).length : Nat)) (st' := W e a L M) ?_ h
  simp only [gLenSet, seqOf, itemsOf, W_get, hM, Option.bind_some, ints_map]
  rw [if_pos hl]
/-- a number among numbers -/
theorem wp_inI {k : Nat} {i : Int} {ns : List Int} (hM : M[k]? = some (.lst (ns.map Va.int))) (h : Q (.bl (decide (i ∈ ns))) (W e a L M)) : Wp (gIn (.int i) (.ref (e.p L + k)) (W e a L M)) Q := by
  have ha : ∀ ns : List Int, atomsV (ns.map Va.int) = some (ns.map V.int) := by
    intro ns
    induction ns with
    | nil => rfl
    | cons b bs ih => simp [atomsV, atomV, ih]
  have hv : ∀ ns : List Int, inV (.int i) (ns.map V.int) = decide (i ∈ ns) := by
    intro ns
    unfold inV
    induction ns with
    | nil => rfl
    | cons b bs ih =>
      rw [List.map_cons, List.any_cons, ih, Bool.eq_iff_iff, Bool.or_eq_true, decide_eq_true_iff, decide_eq_true_iff, List.mem_cons]
      refine or_congr ?_ Iff.rfl
      show (decide _ = true) ↔ _
      simp only [decide_eq_true_eq]
      exact eq_comm
  refine wp_of (w := .bl (decide (i ∈ ns))) (st' := W e a L M) ?_ h
  have e1 : inS (.int i) (.ref (e.p L + k)) (W e a L M) = some (decide (i ∈ ns)) := by
    simp only [inS, seqOf, itemsOf, W_get, hM, Option.bind_some, inSeq, atomV, ha]
    rw [hv]
  simp only [gIn, inW, e1, Option.map_some]
/-- False not in [..] of bools -/
theorem wp_ninW {k : Nat} {bs : List Bool} (hM : M[k]? = some (.lst (bs.map Va.bl))) (h : Q (.bl (bs.all id)) (W e a L M)) : Wp (gNin (.bl false) (.ref (e.p L + k)) (W e a L M)) Q := by
  obtain ⟨w, s, e1, rfl, rfl⟩ := wp_noW (e := e) (a := a) (L := L) (Q := fun w s => w = .bl (!bs.all id) ∧ s = W e a L M) hM ⟨rfl, rfl⟩
  refine wp_of (w := .bl (bs.all id)) (st' := W e a L M) ?_ h
  simp only [gIn, Option.map_eq_some_iff] at e1
  obtain ⟨b, e2, e3⟩ := e1
  simp only [gNin, e2, Option.map_some]
  cases b <;> simp_all
/-- two fors, the second over what is found for each of the first; the things themselves -/
theorem wp_lc2g {fi fi1 : Fi} {fg fg1 : Fg} {fe : Ev} {vs vs1 : List Nat} {fm : Fm} {ws : List Va} {gd : Sto → Prop} (g : Va → List Va)
    (hi : fi fm (W e a L M) = some (⟨ws, gd⟩, W e a L M)) (hgd : ∀ Y, M <+: Y → gd (W e a L Y)) (hz : (ws.flatMap g).length < 16777216)
    (h : ∀ w ∈ ws, ∃ fm1, fg w (wip fm vs) = some fm1 ∧ ∀ Y, M <+: Y → M.length < Y.length → Wp (fi1 fm1 (W e a L Y)) fun S s => ∃ Z, s = W e a L (Y ++ Z) ∧ S.ws = g w ∧ ∀ X, (∀ k o, k ≠ M.length → (Y ++ Z)[k]? = some o → X[k]? = some o) → S.gd (W e a L X))
    (h1 : ∀ w ∈ ws, ∀ w1 ∈ g w, ∀ fm1, fg w (wip fm vs) = some fm1 → ∃ fm2, fg1 w1 (wip fm1 vs1) = some fm2 ∧ ∀ s, fe fm2 s = some (w1, s))
    (hq : ∀ G, Q (.ref (e.p L + M.length)) (W e a L (M ++ .lst (ws.flatMap g) :: G))) : Wp (eLc2 fi fg bYes fi1 fg1 bYes fe vs vs1 fm (W e a L M)) Q := by
  have inner : ∀ (gd1 : Sto → Prop) (fm3 : Fm) (us acc : List Va) (G : Sto), acc.length + us.length < 16777216 → (∀ u ∈ us, ∃ fm2, fg1 u fm3 = some fm2 ∧ ∀ s, fe fm2 s = some (u, s)) → (∀ acc', gd1 (W e a L (M ++ .lst acc' :: G))) →
      lcL gd1 fg1 bYes fe (W e a L M).length us fm3 (W e a L (M ++ .lst acc :: G)) = some (W e a L (M ++ .lst (acc ++ us) :: G)) := by
    intro gd1 fm3 us
    induction us with
    | nil =>
      intro acc G _ _ hg
      simp only [lcL]
      rw [if_pos (hg acc), List.append_nil]
    | cons u us ih =>
      intro acc G hl hu hg
      obtain ⟨fm2, e2, e3⟩ := hu u List.mem_cons_self
      simp only [List.length_cons] at hl
      have e4 : (W e a L (M ++ .lst acc :: G))[(W e a L M).length]? = some (.lst acc) := by rw [W_len, W_get]; simp
      have e5 : (W e a L (M ++ .lst acc :: G)).set (W e a L M).length (.lst (acc ++ [u])) = W e a L (M ++ .lst (acc ++ [u]) :: G) := by rw [W_len, W_set]; simp
      simp only [lcL]
      rw [if_pos (hg acc), e2, Option.bind_some]
      simp only [bYes, Option.bind_some, if_true, e3, e4]
      rw [if_pos (by omega), e5]
      have := ih (acc ++ [u]) G (by simp only [List.length_append, List.length_cons, List.length_nil]; omega) (fun u hu' => hu u (List.mem_cons_of_mem _ hu')) hg
      rw [List.append_assoc] at this
      exact this
  have key : ∀ (ws' : List Va), (∀ w ∈ ws', w ∈ ws) → ∀ acc G, acc.length + (ws'.flatMap g).length < 16777216 →
      ∃ G', lc2L gd fg bYes fi1 fg1 bYes fe vs1 (W e a L M).length ws' (wip fm vs) (W e a L (M ++ .lst acc :: G)) = some (W e a L (M ++ .lst (acc ++ ws'.flatMap g) :: G')) := by
    intro ws'
    induction ws' with
    | nil =>
      intro _ acc G _
      refine ⟨G, ?_⟩
      simp only [lc2L]
      rw [if_pos (hgd _ (List.prefix_append _ _))]
      simp
    | cons w ws' ih =>
      intro hw acc G hl
      rw [List.flatMap_cons, List.length_append] at hl
      obtain ⟨fm1, e1, e2⟩ := h w (hw w List.mem_cons_self)
      obtain ⟨S, s, e3, Z, rfl, e4, e5⟩ := e2 (M ++ .lst acc :: G) (List.prefix_append _ _) (by simp)
      have e6 := inner S.gd (wip fm1 vs1) (g w) acc (G ++ Z) (by omega) (fun u hu => h1 w (hw w List.mem_cons_self) u hu fm1 e1) fun acc' => e5 _ fun k o hk ho => by
        rw [List.append_assoc] at ho
        by_cases hlt : k < M.length
        · rw [List.getElem?_append_left hlt] at ho ⊢
          exact ho
        · rw [List.getElem?_append_right (by omega)] at ho ⊢
          obtain ⟨j, hj⟩ : ∃ j, k - M.length = j + 1 := ⟨k - M.length - 1, by omega⟩
          rw [hj] at ho ⊢
          exact ho
      obtain ⟨G', e7⟩ := ih (fun w hw' => hw w (List.mem_cons_of_mem _ hw')) (acc ++ g w) (G ++ Z) (by rw [List.length_append]; omega)
      refine ⟨G', ?_⟩
      simp only [lc2L]
      rw [if_pos (hgd _ (List.prefix_append _ _)), e1, Option.bind_some]
      simp only [bYes, Option.bind_some, if_true]
      rw [e3, Option.bind_some]
      dsimp only
      rw [e4, show M ++ Ob.lst acc :: G ++ Z = M ++ Ob.lst acc :: (G ++ Z) by simp, e6, Option.bind_some, e7]
      simp
  obtain ⟨G', e1⟩ := key ws (fun w h => h) [] [] (by simpa using hz)
  rw [List.nil_append] at e1
  refine ⟨_, _, ?_, hq G'⟩
  unfold eLc2
  rw [hi, Option.bind_some]
  dsimp only
  rw [W_push, e1, Option.map_some, W_len]
theorem fin_refW {e : Dw} {a c k : Nat} {L M : Sto} : fin (W e a L []) (.ref (e.p L + k)) (W e c L M) = (.ref (e.p L + k), W e c L M) := by
  unfold fin
  rw [if_neg]
  intro hc
  have hu := hc.1
  rw [und_ref, decide_eq_true_eq, W_len] at hu
  simp at hu
  omega
theorem W_cat {e : Dw} {a : Nat} {L M G : Sto} : W e a (L ++ M) G = W e a L (M ++ G) := by unfold W; simp
theorem boxesI_map (rows : List Va) : (rows.flatMap fun r => ((itT r).filterMap boxI).map Va.int) = (boxesI rows).map Va.int := by
  induction rows with
  | nil => rfl
  | cons r rs ih => rw [List.flatMap_cons, ih, boxesI_cons, List.map_append]
end
end T3
set_option maxHeartbeats 4000000
namespace L_k14
open PySem PySem.Spec PyProof.Rows L2 T3
/-! rows, what is once, entries, states of box machines -/
theorem item_eq {b n : Nat} {w : Va} (h : TD b n w) (m : Nat) (st : Sto) : m__is_item [w, .int m] st = some (.bl (itemOk m w), st) := by
  refine wp_eq ?_
  unfold m__is_item
  refine wp_fn rfl ?_
  (repeat (first |(with_reducible first |refine we_c ?_|refine we_a ?_|refine wa_c ?_|refine wa_n ?_|refine wb_v ?_|refine ss_c ?_|refine ss_if ?_) |(((with_reducible refine we_v (w := ?_) ?_ ?_); rotate_left; · rfl))))
  refine wp_of (isi_s h) ?_
  refine ⟨_, rfl, ?_⟩
  have num : itemOk m w = goalOk m w → Wp (m_is_number [w, .int m] st) fun r s => (fin st r s).1 = .bl (itemOk m w) ∧ (fin st r s).2 = st := fun e => by
    refine wp_of (number_eq h m _) ?_
    rw [fin_sb, e]
    exact ⟨rfl, rfl⟩
  rcases h.cases with rfl | ⟨i, rfl⟩ | ⟨i, rfl⟩ | ⟨s, rfl, _⟩ | ⟨ws, rfl, _⟩
  · refine If.f ?_
    (repeat (first |(with_reducible first |refine wa_c ?_|refine wa_n ?_|refine we_call ?_|refine ss_n ?_|refine ss_c ?_|refine ss_ret ?_) |(((with_reducible refine we_v (w := ?_) ?_ ?_); rotate_left; · rfl)) |(((with_reducible refine and_len ?_ ?_); · rfl))))
    exact num rfl
  · refine If.f ?_
    (repeat (first |(with_reducible first |refine wa_c ?_|refine wa_n ?_|refine we_call ?_|refine ss_n ?_|refine ss_c ?_|refine ss_ret ?_) |(((with_reducible refine we_v (w := ?_) ?_ ?_); rotate_left; · rfl)) |(((with_reducible refine and_len ?_ ?_); · rfl))))
    exact num rfl
  · refine If.f ?_
    (repeat (first |(with_reducible first |refine wa_c ?_|refine wa_n ?_|refine we_call ?_|refine ss_n ?_|refine ss_c ?_|refine ss_ret ?_) |(((with_reducible refine we_v (w := ?_) ?_ ?_); rotate_left; · rfl)) |(((with_reducible refine and_len ?_ ?_); · rfl))))
    exact num rfl
  · refine If.t ?_
    (repeat (first |(with_reducible first |refine we_c ?_|refine we_b ?_|refine we_and ?_|refine ss_c ?_|refine ss_ret ?_|refine wp_nes ?_|refine If.n ?_|refine ex_bl ?_) |(((with_reducible refine we_v (w := ?_) ?_ ?_); rotate_left; · rfl))))
    cases s with
    | nil =>
      refine If.d (fun h0 => ?_) (fun h0 => absurd rfl h0)
      skip
      rw [fin_sb]
      exact And.intro rfl rfl
    | cons c s =>
      refine If.d (fun h0 => by cases h0) (fun h0 => ?_)
      (repeat (first |(with_reducible first |refine wa_c ?_|refine wa_n ?_|refine we_call ?_) |(((with_reducible refine we_v (w := ?_) ?_ ?_); rotate_left; · rfl)) |(((with_reducible refine and_len ?_ ?_); · rfl))))
      refine wp_of (string_eq h _) ?_
      skip
      rw [fin_sb]
      refine And.intro ?_ rfl
      simp [itemOk, smallOk]
  · refine If.f ?_
    (repeat (first |(with_reducible first |refine wa_c ?_|refine wa_n ?_|refine we_call ?_|refine ss_n ?_|refine ss_c ?_|refine ss_ret ?_) |(((with_reducible refine we_v (w := ?_) ?_ ?_); rotate_left; · rfl)) |(((with_reducible refine and_len ?_ ?_); · rfl))))
    exact num rfl
theorem adj_no {ws : List Va} {i : Nat} {x y : Va} (hi : ws[i]? = some x) (hj : ws[i + 1]? = some y) (hx : isSt x = true) (hy : isSt y = true) : adjB ws = false := by
  unfold adjB
  rw [List.all_eq_false]
  have := (List.getElem?_eq_some_iff.mp hj).1
  refine ⟨i, List.mem_range.mpr (by omega), ?_⟩
  rw [hi, hj]
  simp [hx, hy]
theorem brow_eq {b n : Nat} {w : Va} (h : TD b n w) (hb : b ≤ 1000) (m : Nat) (st : Sto) : m__is_row [w, .int m] st = some (.bl (browOk m w), st) := by
  refine wp_eq ?_
  unfold m__is_row
  refine wp_fn rfl ?_
  (repeat (first |(with_reducible first |refine we_c ?_|refine we_a ?_|refine wa_c ?_|refine wa_n ?_|refine wb_v ?_|refine wb_or ?_|refine wb_not ?_|refine ss_c ?_|refine ss_if ?_) |(((with_reducible refine we_v (w := ?_) ?_ ?_); rotate_left; · rfl))))
  refine wp_of (isi_t h) ?_
  refine ⟨_, rfl, ?_⟩
  rcases h.cases with rfl | ⟨i, rfl⟩ | ⟨i, rfl⟩ | ⟨s, rfl, _⟩ | ⟨ws, rfl, hl, hx⟩
  · refine If.t ?_
    (repeat (first |(with_reducible first |refine we_c ?_|refine ss_c ?_|refine ss_ret ?_) |(((with_reducible refine If_tr ?_ ?_); · rfl))))
    rw [fin_sb]
    exact And.intro rfl rfl
  · refine If.t ?_
    (repeat (first |(with_reducible first |refine we_c ?_|refine ss_c ?_|refine ss_ret ?_) |(((with_reducible refine If_tr ?_ ?_); · rfl))))
    rw [fin_sb]
    exact And.intro rfl rfl
  · refine If.t ?_
    (repeat (first |(with_reducible first |refine we_c ?_|refine ss_c ?_|refine ss_ret ?_) |(((with_reducible refine If_tr ?_ ?_); · rfl))))
    rw [fin_sb]
    exact And.intro rfl rfl
  · refine If.t ?_
    (repeat (first |(with_reducible first |refine we_c ?_|refine ss_c ?_|refine ss_ret ?_) |(((with_reducible refine If_tr ?_ ?_); · rfl))))
    rw [fin_sb]
    exact And.intro rfl rfl
  · refine If.f ?_
    (repeat (with_reducible first |refine wb_v ?_|refine wb_not ?_))
    refine wp_gx (ws := ws) (itemOk m) rfl trivial (fun u hu => ?_) ?_
    · (repeat (first |(with_reducible first |refine wa_c ?_|refine wa_n ?_|refine we_call ?_) |(((with_reducible refine we_v (w := ?_) ?_ ?_); rotate_left; · rfl)) |(((with_reducible refine and_len ?_ ?_); · rfl))))
      exact wp_of (item_eq (hx u hu) m _) ⟨rfl, rfl⟩
    (repeat (first |(with_reducible refine If.n ?_) |(((with_reducible refine ex_some (y := ?_) ?_ ?_); rotate_left; · rfl))))
    refine ⟨fun hall => ?_, fun hall => ?_⟩
    · (repeat (first |(with_reducible first |refine we_c ?_|refine we_a ?_|refine wa_c ?_|refine wa_n ?_|refine ss_n ?_|refine ss_c ?_|refine ss_for ?_|refine wi_r2 ?_|refine wp_lent ?_|refine ex_int2 ?_) |(((with_reducible refine we_v (w := ?_) ?_ ?_); rotate_left; · rfl)) |(((with_reducible refine and_bd ?_ ?_); · first | decide | omega))))
      rw [show ((ws.length : Int) - 1).toNat = ws.length - 1 by omega]
      refine wl_inv (fun i fm s => Hd (∃ x, fm = [some (.tup ws), some (.int (m : Nat)), x] ∧ s = st ∧ ∀ j, j < i → (!(isSt ((ws[j]?).getD .non) && isSt ((ws[j + 1]?).getD .non))) = true)) (fun _ _ _ _ => trivial) (hd ⟨_, rfl, rfl, fun _ h => (Nat.not_lt_zero _ h).elim⟩) ?_ ?_
      · rintro i w hw fm s ⟨x, rfl, rfl, hal⟩
        obtain ⟨rfl, hil⟩ := rng_get hw
        have g1 : ws[i]? = some (ws[i]'(by omega)) := List.getElem?_eq_getElem _
        have g2 : ws[i + 1]? = some (ws[i + 1]'(by omega)) := List.getElem?_eq_getElem _
        have t1 := hx _ (List.mem_of_getElem? g1)
        have t2 := hx _ (List.mem_of_getElem? g2)
        refine ⟨_, rfl, ?_⟩
        (repeat (first |(with_reducible first |refine we_c ?_|refine we_b ?_|refine we_a ?_|refine wa_c ?_|refine wb_v ?_|refine wb_and ?_|refine ss_c ?_|refine ss_if ?_|refine wp_si ?_) |(((with_reducible refine we_v (w := ?_) ?_ ?_); rotate_left; · rfl))))
        refine wp_ixt (w := ws[i]'(by omega)) (by rw [show (1 : Int) + (i : Int) - 1 = (i : Nat) by omega, atI_n, g1]) ?_
        (repeat (with_reducible first |refine we_c ?_|refine wa_c ?_|refine wa_n ?_))
        refine wp_of (isi_s t1) ?_
        (repeat (((with_reducible refine ex_some (y := ?_) ?_ ?_); rotate_left; · rfl)))
        refine ⟨fun hs1 => ?_, fun hs1 => ?_⟩
        · (repeat (first |(with_reducible first |refine we_b ?_|refine we_a ?_|refine wa_c ?_|refine wb_v ?_) |(((with_reducible refine we_v (w := ?_) ?_ ?_); rotate_left; · rfl))))
          refine wp_ixt (w := ws[i + 1]'(by omega)) (by rw [show (1 : Int) + (i : Int) = ((i + 1 : Nat) : Int) by omega, atI_n, g2]) ?_
          (repeat (with_reducible first |refine we_c ?_|refine wa_c ?_|refine wa_n ?_))
          refine wp_of (isi_s t2) ?_
          (repeat (((with_reducible refine ex_some (y := ?_) ?_ ?_); rotate_left; · rfl)))
          refine ⟨fun hs2 => ?_, fun hs2 => ?_⟩
          · (repeat (with_reducible first |refine we_c ?_|refine ss_c ?_|refine ss_ret ?_))
            rw [fin_sb]
            refine And.intro ?_ rfl
            simp only [browOk, adj_no g1 g2 hs1 hs2, Bool.and_false]
          · (repeat (with_reducible refine ss_n ?_))
            refine hd ⟨_, rfl, rfl, fun j hj => ?_⟩
            by_cases hji : j = i
            · subst hji
              rw [g2, Option.getD_some, hs2, Bool.and_false]; rfl
            · exact hal j (by omega)
        · (repeat (first |(with_reducible refine ss_n ?_) |(((with_reducible refine If_fa ?_ ?_); · rfl))))
          refine hd ⟨_, rfl, rfl, fun j hj => ?_⟩
          by_cases hji : j = i
          · subst hji
            rw [g1, Option.getD_some, hs1, Bool.false_and]; rfl
          · exact hal j (by omega)
      · rintro fm s ⟨x, rfl, rfl, hal⟩
        dsimp only at hal
        rw [rng_len] at hal
        (repeat (with_reducible first |refine we_c ?_|refine ss_c ?_|refine ss_ret ?_))
        rw [fin_sb]
        refine And.intro ?_ rfl
        have : adjB ws = true := by
          unfold adjB
          rw [List.all_eq_true]
          exact fun i hi => hal i (List.mem_range.mp hi)
        simp only [browOk, this, hall, Bool.and_self]
    · (repeat (with_reducible first |refine we_c ?_|refine ss_c ?_|refine ss_ret ?_))
      rw [fin_sb]
      refine And.intro ?_ rfl
      simp only [browOk, hall, Bool.false_and]
theorem boxes_in_D {b n m : Nat} {ws : List Va} (h : TD b n (.tup ws)) (hb : b ≤ 1000) (hr : browOk m (.tup ws) = true) (e : Dw) (a : Nat) (L : Sto) :
    Wp (m_boxes_in [.tup ws] (W e a L [])) fun r s => r = .ref (e.p L + 0) ∧ s = W e a L [.lst ((ws.filterMap boxI).map Va.int)] := by
  obtain ⟨hl, hx⟩ := tup_in h
  have hall : ws.all (itemOk m) = true := by
    simp only [browOk, Bool.and_eq_true] at hr
    exact hr.1
  unfold m_boxes_in
  refine wp_fn rfl ?_
  (repeat (with_reducible first |refine ss_c ?_|refine ss_ret ?_))
  refine wp_lcP (ws := ws) (fun w => !isSt w) (fun w => w) rfl (by omega) (fun u hu => ⟨_, rfl, fun M' _ => ?_⟩) ?_
  · (repeat (first |(with_reducible first |refine we_c ?_|refine we_a ?_|refine wa_c ?_|refine wa_n ?_|refine wb_v ?_|refine wb_not ?_) |(((with_reducible refine we_v (w := ?_) ?_ ?_); rotate_left; · rfl))))
    refine wp_of (isi_s (hx u hu)) ?_
    (repeat (((with_reducible refine ex_some (y := ?_) ?_ ?_); rotate_left; · rfl)))
    refine ⟨rfl, rfl, fun _ => ?_⟩
    (repeat (((with_reducible refine we_v (w := ?_) ?_ ?_); rotate_left; · rfl)))
    exact ⟨rfl, rfl⟩
  · rw [List.map_id', row_boxes hall]
    rw [show (e.p L + ([] : Sto).length) = e.p L + 0 from rfl, fin_refW]
    exact ⟨rfl, rfl⟩
theorem once_D {b n m : Nat} {rows : List Va} (hl : rows.length ≤ b) (hx : ∀ r ∈ rows, TD b n r) (hb : b ≤ 60) (hr : ∀ r ∈ rows, browOk m r = true) (e : Dw) (a : Nat) (L : Sto) {v : Va} {gd : Sto → Prop} (hs : ∀ M, srcOf v (W e a L M) = some ⟨rows, gd⟩) (hg : ∀ M, gd (W e a L M)) :
    Wp (m__once [v] (W e a L [])) fun r s => r = .bl (onceB rows) ∧ s = W e a L [] := by
  have rowT : ∀ r ∈ rows, ∃ ws, r = .tup ws ∧ ws.length ≤ b := fun r hr' => by
    have h1 := hr r hr'
    have h2 := hx r hr'
    cases r <;> simp [browOk] at h1
    exact ⟨_, rfl, (tup_in h2).1⟩
  have hlen : (boxesI rows).length < 4000 := by
    have h1 : (boxesI rows).length ≤ rows.length * b := boxesI_len fun r hr' => by
      obtain ⟨ws, rfl, h⟩ := rowT r hr'
      exact h
    have h2 : rows.length * b ≤ 60 * 60 := Nat.mul_le_mul (by omega) hb
    omega
  unfold m__once
  refine wp_fn rfl ?_
  (repeat (with_reducible first |refine ss_c ?_|refine ss_set ?_))
  refine wp_lc2g (ws := rows) (gd := gd) (fun r => ((itT r).filterMap boxI).map Va.int) ?_ (fun Y _ => hg Y) (by rw [boxesI_map, List.length_map]; omega) (fun r hr' => ⟨_, rfl, fun Y hY hYl => ?_⟩) (fun r hr' w1 hw1 fm1 hfm => ?_) fun G => ?_
  · show (Option.bind (some (v, W e a L [])) _) = _
    rw [Option.bind_some]
    dsimp only
    rw [hs]; rfl
  · obtain ⟨ws, rfl, _⟩ := rowT r hr'
    (repeat (first |(with_reducible first |refine wa_c ?_|refine wa_n ?_|refine we_call ?_|refine wi_a ?_) |(((with_reducible refine we_v (w := ?_) ?_ ?_); rotate_left; · rfl)) |(((with_reducible refine and_len ?_ ?_); · rfl))))
    rw [W_in]
    refine (boxes_in_D (hx _ hr') (by omega) (hr _ hr') e a (L ++ Y)).imp ?_
    rintro r s ⟨rfl, rfl⟩
    refine ⟨⟨((ws.filterMap boxI).map Va.int), fun st => st[e.p (L ++ Y) + 0]? = some (.lst ((ws.filterMap boxI).map Va.int))⟩, by simp only [srcOf, W_get]; rfl, [.lst ((ws.filterMap boxI).map Va.int)], (by unfold W; simp), rfl, fun X hX => ?_⟩
    have := hX (Y.length + 0) (.lst ((ws.filterMap boxI).map Va.int)) (by have hY2 : ([] : Sto).length < Y.length := hYl; rw [List.length_nil] at hY2 ⊢; omega) (by simp)
    show (W e a L X)[e.p (L ++ Y) + 0]? = _
    rw [p_in, Nat.add_assoc, W_get]
    exact this
  · cases hfm
    exact ⟨_, rfl, fun s => rfl⟩
  · rw [boxesI_map]
    (repeat (first |(with_reducible first |refine we_b ?_|refine we_a ?_|refine wa_c ?_|refine wa_n ?_|refine ss_c ?_|refine ss_ret ?_) |(((with_reducible refine we_v (w := ?_) ?_ ?_); rotate_left; · rfl))))
    refine wp_lenW (k := 0) rfl ?_
    (repeat (first |(with_reducible first |refine we_a ?_|refine wa_c ?_|refine wa_n ?_) |(((with_reducible refine we_v (w := ?_) ?_ ?_); rotate_left; · rfl))))
    refine wp_lenset (k := 0) rfl hlen ?_
    (repeat (with_reducible refine wp_eqi ?_))
    rw [W_fin_b, List.length_map]
    refine ⟨?_, rfl⟩
    have h1 := dedup_eq (boxesI rows)
    show Va.bl _ = Va.bl _
    congr 1
    unfold onceB
    exact decide_eq_decide.mpr (by rw [← h1]; exact Int.ofNat_inj)
theorem once_t {b n m : Nat} {rows : List Va} (h : TD b n (.tup rows)) (hb : b ≤ 60) (hr : rows.all (browOk m) = true) (e : Dw) (a : Nat) (L : Sto) :
    Wp (m__once [.tup rows] (W e a L [])) fun r s => r = .bl (onceB rows) ∧ s = W e a L [] := by
  obtain ⟨hl, hx⟩ := tup_in h
  exact once_D hl hx hb (fun r hr' => List.all_eq_true.mp hr r hr') e a L (gd := fun _ => True) (fun M => rfl) fun _ => trivial
theorem entry_no2 {S m : Nat} {w : Va} (h0 : T3.isNon w = false) (h : sizedB 2 w = false) : entryOk S m w = false := by
  cases w <;> simp [T3.isNon] at h0 <;> try rfl
  rename_i ws
  simp only [sizedB, decide_eq_false_iff_not] at h
  unfold entryOk
  split
  · simp_all
  · simp_all
  · rfl
theorem two_v {ws : List Va} (h : ws.length = 2) : ∃ x y, ws = [x, y] := by
  match ws, h with
  | [x, y], _ => exact ⟨x, y, rfl⟩
theorem entry_D {b n : Nat} {w : Va} (h : TD b n w) (hb : b ≤ 60) (S m : Nat) (e : Dw) (a : Nat) (L : Sto) :
    Wp (m__is_entry [w, .int S, .int m] (W e a L [])) fun r s => r = .bl (entryOk S m w) ∧ s = W e a L [] := by
  unfold m__is_entry
  refine wp_fn rfl ?_
  (repeat (first |(with_reducible first |refine we_c ?_|refine wb_b ?_|refine ss_c ?_|refine ss_if ?_|refine wp_isn ?_|refine ex_bl ?_) |(((with_reducible refine we_v (w := ?_) ?_ ?_); rotate_left; · rfl))))
  by_cases hnon : T3.isNon w = true
  · rw [hnon]
    refine If.t ?_
    (repeat (with_reducible first |refine we_c ?_|refine ss_c ?_|refine ss_ret ?_))
    rw [W_fin_b]
    cases w <;> simp [T3.isNon] at hnon
    exact And.intro rfl rfl
  have hnon' : T3.isNon w = false := by simpa using hnon
  rw [hnon']
  refine If.f ?_
  (repeat (first |(with_reducible first |refine we_c ?_|refine wa_c ?_|refine wa_n ?_|refine we_call ?_|refine wb_v ?_|refine wb_or ?_|refine wb_not ?_|refine ss_n ?_|refine ss_c ?_|refine ss_if ?_) |(((with_reducible refine we_v (w := ?_) ?_ ?_); rotate_left; · rfl)) |(((with_reducible refine and_len ?_ ?_); · rfl))))
  refine wp_of (sized_eq h 2 _) ?_
  refine ⟨_, rfl, ?_⟩
  by_cases hsz : sizedB 2 w = true
  · obtain ⟨ws, rfl, hl⟩ := sizedB_t hsz
    obtain ⟨x, y, rfl⟩ := two_v hl
    obtain ⟨_, hx⟩ := tup_in h
    have tx := hx x (by simp)
    have ty := hx y (by simp)
    rw [hsz]
    refine If.f ?_
    (repeat (first |(with_reducible first |refine we_c ?_|refine we_b ?_|refine wa_c ?_|refine wa_n ?_|refine we_call ?_|refine wb_v ?_|refine wb_or ?_|refine wb_not ?_) |(((with_reducible refine we_v (w := ?_) ?_ ?_); rotate_left; · rfl)) |(((with_reducible refine wp_ixt (w := ?_) ?_ ?_); rotate_left; · rfl)) |(((with_reducible refine and_len ?_ ?_); · rfl))))
    refine wp_of (number_eq tx S _) ?_
    (repeat (first |(with_reducible refine If.n ?_) |(((with_reducible refine ex_some (y := ?_) ?_ ?_); rotate_left; · rfl))))
    refine ⟨fun hg => ?_, fun hg => ?_⟩
    · (repeat (first |(with_reducible first |refine we_c ?_|refine we_b ?_|refine wa_c ?_|refine wa_n ?_|refine we_call ?_|refine wb_v ?_|refine wb_not ?_) |(((with_reducible refine we_v (w := ?_) ?_ ?_); rotate_left; · rfl)) |(((with_reducible refine wp_ixt (w := ?_) ?_ ?_); rotate_left; · rfl)) |(((with_reducible refine and_len ?_ ?_); · rfl))))
      refine wp_of (sized_eq ty m _) ?_
      (repeat (first |(with_reducible refine If.n ?_) |(((with_reducible refine ex_some (y := ?_) ?_ ?_); rotate_left; · rfl))))
      refine ⟨fun hsy => ?_, fun hsy => ?_⟩
      · obtain ⟨news, rfl, hnl⟩ := sizedB_t hsy
        obtain ⟨_, hnx⟩ := tup_in ty
        (repeat (with_reducible first |refine we_and ?_|refine ss_n ?_|refine ss_c ?_|refine ss_ret ?_))
        refine wp_gx (ws := news) (browOk m) rfl trivial (fun u hu => ?_) ?_
        · (repeat (first |(with_reducible first |refine wa_c ?_|refine wa_n ?_|refine we_call ?_) |(((with_reducible refine we_v (w := ?_) ?_ ?_); rotate_left; · rfl)) |(((with_reducible refine and_len ?_ ?_); · rfl))))
          exact wp_of (brow_eq (hnx u hu) (by omega) m _) ⟨rfl, rfl⟩
        (repeat (with_reducible refine ex_bl ?_))
        refine ⟨fun hall => ?_, fun hall => ?_⟩
        · (repeat (first |(with_reducible first |refine we_c ?_|refine we_b ?_|refine wa_c ?_|refine wa_n ?_|refine we_call ?_) |(((with_reducible refine we_v (w := ?_) ?_ ?_); rotate_left; · rfl)) |(((with_reducible refine wp_ixt (w := ?_) ?_ ?_); rotate_left; · rfl)) |(((with_reducible refine and_len ?_ ?_); · rfl))))
          refine (once_t ty hb hall e a L).imp ?_
          rintro r s ⟨rfl, rfl⟩
          rw [W_fin_b]
          refine ⟨?_, rfl⟩
          simp only [entryOk, hg, hnl, hall, decide_true, Bool.true_and]
        · rw [W_fin_b]
          refine ⟨?_, rfl⟩
          simp only [entryOk, hall, Bool.and_false, Bool.false_and]
      · (repeat (with_reducible first |refine we_c ?_|refine ss_c ?_|refine ss_ret ?_))
        rw [W_fin_b]
        refine ⟨?_, rfl⟩
        have : entryOk S m (.tup [x, y]) = false := by
          cases y <;> try rfl
          simp only [sizedB] at hsy
          simp only [entryOk, hsy, Bool.and_false, Bool.false_and]
        rw [this]
    · (repeat (first |(with_reducible first |refine we_c ?_|refine ss_c ?_|refine ss_ret ?_) |(((with_reducible refine If_tr ?_ ?_); · rfl))))
      rw [W_fin_b]
      refine ⟨?_, rfl⟩
      have : entryOk S m (.tup [x, y]) = false := by
        cases y <;> try rfl
        simp only [entryOk, hg, Bool.false_and]
      rw [this]
  · have hsz' : sizedB 2 w = false := by simpa using hsz
    rw [hsz']
    refine If.t ?_
    (repeat (first |(with_reducible first |refine we_c ?_|refine ss_c ?_|refine ss_ret ?_) |(((with_reducible refine If_tr ?_ ?_); · rfl))))
    rw [W_fin_b, entry_no2 hnon' hsz']
    exact And.intro rfl rfl
theorem bpart_no {cl S m : Nat} {w : Va} (h : sizedB cl w = false) : bpartOk cl S m w = false := by
  cases w <;> simp [sizedB] at h <;> simp [bpartOk, h]
theorem bstate_no {k cl S m : Nat} {ps : List Va} {p : Va} (hp : p ∈ ps) (h : bpartOk cl S m p = false) : bstateOk k cl S m (.tup ps) = false := by
  have : ps.all (bpartOk cl S m) = false := List.all_eq_false.mpr ⟨p, hp, by rw [h]; exact Bool.false_ne_true⟩
  simp only [bstateOk, this, Bool.and_false]
theorem bstate_sz {k cl S m : Nat} {w : Va} (h : sizedB k w = false) : bstateOk k cl S m w = false := by
  cases w <;> simp [sizedB] at h <;> simp [bstateOk, h]
theorem bstate_D {b n : Nat} {w : Va} (h : TD b n w) (hb : b ≤ 60) (k cl S m : Nat) (e : Dw) (a : Nat) (L : Sto) :
    Wp (m__is_state [w, .int k, .int cl, .int S, .int m] (W e a L [])) fun r s => r = .bl (bstateOk k cl S m w) ∧ s = W e a L [] := by
  unfold m__is_state
  refine wp_fn rfl ?_
  (repeat (first |(with_reducible first |refine wa_c ?_|refine wa_n ?_|refine we_call ?_|refine wb_v ?_|refine wb_not ?_|refine ss_c ?_|refine ss_if ?_) |(((with_reducible refine we_v (w := ?_) ?_ ?_); rotate_left; · rfl)) |(((with_reducible refine and_len ?_ ?_); · rfl))))
  refine wp_of (sized_eq h k _) ?_
  refine ⟨_, rfl, ?_⟩
  by_cases hsz : sizedB k w = true
  · obtain ⟨ps, rfl, hl⟩ := sizedB_t hsz
    obtain ⟨_, hx⟩ := tup_in h
    rw [hsz]
    refine If.f ?_
    (repeat (first |(with_reducible first |refine ss_n ?_|refine ss_c ?_|refine ss_for ?_|refine wi_a ?_) |(((with_reducible refine we_v (w := ?_) ?_ ?_); rotate_left; · rfl)) |(((with_reducible refine ex_some (y := ?_) ?_ ?_); rotate_left; · rfl))))
    refine wl_inv (fun i fm s => Hd (∃ x, fm = [some (.tup ps), some (.int k), some (.int cl), some (.int S), some (.int m), x] ∧ s = W e a L [] ∧ ∀ p ∈ ps.take i, bpartOk cl S m p = true)) (fun _ _ _ _ => trivial) (hd ⟨_, rfl, rfl, fun _ h => (List.not_mem_nil h).elim⟩) ?_ ?_
    · rintro i p hp fm s ⟨x, rfl, rfl, hal⟩
      have hpm := List.mem_of_getElem? hp
      have tp := hx p hpm
      have htk : ps.take (i + 1) = ps.take i ++ [p] := by rw [List.take_succ, hp]; rfl
      refine ⟨_, rfl, ?_⟩
      (repeat (first |(with_reducible first |refine wa_c ?_|refine wa_n ?_|refine we_call ?_|refine wb_v ?_|refine wb_or ?_|refine wb_not ?_|refine ss_c ?_|refine ss_if ?_) |(((with_reducible refine we_v (w := ?_) ?_ ?_); rotate_left; · rfl)) |(((with_reducible refine and_len ?_ ?_); · rfl))))
      refine wp_of (sized_eq tp cl _) ?_
      refine ⟨_, rfl, ?_⟩
      by_cases hsp : sizedB cl p = true
      · obtain ⟨es, rfl, hel⟩ := sizedB_t hsp
        obtain ⟨_, hex⟩ := tup_in tp
        rw [hsp]
        refine If.f ?_
        (repeat (with_reducible first |refine wb_v ?_|refine wb_not ?_))
        refine wp_gx (ws := es) (entryOk S m) rfl trivial (fun u hu => ?_) ?_
        · (repeat (first |(with_reducible first |refine wa_c ?_|refine wa_n ?_|refine we_call ?_) |(((with_reducible refine we_v (w := ?_) ?_ ?_); rotate_left; · rfl)) |(((with_reducible refine and_len ?_ ?_); · rfl))))
          refine (entry_D (hex u hu) hb S m e a L).imp ?_
          rintro r s ⟨rfl, rfl⟩
          exact ⟨rfl, rfl⟩
        have hpo : es.all (entryOk S m) = bpartOk cl S m (.tup es) := by simp [bpartOk, hel]
        rw [hpo]
        (repeat (first |(with_reducible refine If.n ?_) |(((with_reducible refine ex_some (y := ?_) ?_ ?_); rotate_left; · rfl))))
        refine ⟨fun hg => ?_, fun hg => ?_⟩
        · (repeat (with_reducible refine ss_n ?_))
          refine hd ⟨_, rfl, rfl, fun q hq => ?_⟩
          rw [htk] at hq
          rcases List.mem_append.mp hq with h | h
          · exact hal q h
          · rw [List.mem_singleton.mp h]; exact hg
        · (repeat (with_reducible first |refine we_c ?_|refine ss_c ?_|refine ss_ret ?_))
          rw [W_fin_b, bstate_no hpm hg]
          exact And.intro rfl rfl
      · have hsp' : sizedB cl p = false := by simpa using hsp
        rw [hsp']
        refine If.t ?_
        (repeat (first |(with_reducible first |refine we_c ?_|refine ss_c ?_|refine ss_ret ?_) |(((with_reducible refine If_tr ?_ ?_); · rfl))))
        rw [W_fin_b, bstate_no hpm (bpart_no hsp')]
        exact And.intro rfl rfl
    · rintro fm s ⟨x, rfl, rfl, hal⟩
      dsimp only at hal
      rw [List.take_length] at hal
      (repeat (with_reducible first |refine we_c ?_|refine ss_c ?_|refine ss_ret ?_))
      rw [W_fin_b]
      refine ⟨?_, rfl⟩
      have : ps.all (bpartOk cl S m) = true := List.all_eq_true.mpr hal
      simp only [bstateOk, hl, this, decide_true, Bool.and_self]
  · have hsz' : sizedB k w = false := by simpa using hsz
    rw [hsz']
    refine If.t ?_
    (repeat (with_reducible first |refine we_c ?_|refine ss_c ?_|refine ss_ret ?_))
    rw [W_fin_b, bstate_sz hsz']
    exact And.intro rfl rfl
theorem bend_D {b n : Nat} {w : Va} (h : TD b n w) (h1b : 1 ≤ b) (hb : b ≤ 60) (m : Nat) (e : Dw) (a : Nat) (L : Sto) :
    Wp (m__is_end [w, .int m] (W e a L [])) fun r s => r = .bl (bendOk m w) ∧ s = W e a L [] := by
  unfold m__is_end
  refine wp_fn rfl ?_
  (repeat (first |(with_reducible first |refine we_c ?_|refine we_b ?_|refine we_or ?_|refine ss_c ?_|refine ss_ret ?_|refine wp_isn ?_|refine ex_bl ?_) |(((with_reducible refine we_v (w := ?_) ?_ ?_); rotate_left; · rfl))))
  by_cases hnon : T3.isNon w = true
  · rw [hnon]
    refine If.t ?_
    skip
    rw [W_fin_b]
    refine ⟨?_, rfl⟩
    simp only [bendOk, hnon, Bool.true_or]
  have hnon' : T3.isNon w = false := by simpa using hnon
  rw [hnon']
  refine If.f ?_
  (repeat (first |(with_reducible first |refine wa_c ?_|refine wa_n ?_|refine we_call ?_|refine we_and ?_) |(((with_reducible refine we_v (w := ?_) ?_ ?_); rotate_left; · rfl)) |(((with_reducible refine and_len ?_ ?_); · rfl))))
  refine wp_of (brow_eq h (by omega) m _) ?_
  (repeat (with_reducible refine ex_bl ?_))
  refine ⟨fun hr => ?_, fun hr => ?_⟩
  · (repeat (first |(with_reducible first |refine wa_c ?_|refine wa_n ?_|refine we_call ?_|refine we_lstW ?_|refine inW_mk ?_) |(((with_reducible refine we_v (w := ?_) ?_ ?_); rotate_left; · rfl)) |(((with_reducible refine and_len ?_ ?_); · rfl)) |(((with_reducible refine and_le ?_ ?_); · exact Nat.le_of_ble_eq_true rfl))))
    rw [W_in]
    have hbz : 1 ≤ b := by
      cases w <;> simp [browOk] at hr
      exact h1b
    refine (once_D (b := b) (n := n) (m := m) (rows := [w]) (gd := fun st => st[e.p L + 0]? = some (.lst [w])) hbz (fun r hr' => by rw [List.mem_singleton.mp hr']; exact h) hb (fun r hr' => by rw [List.mem_singleton.mp hr']; exact hr) e a _ (fun M => ?_) fun M => ?_).imp ?_
    · rw [W_cat]
      simp only [srcOf, List.length_nil, W_get]
      rfl
    · rw [W_cat, W_get]
      rfl
    · rintro r s ⟨rfl, rfl⟩
      rw [← W_in, W_fin_b]
      refine ⟨?_, rfl⟩
      simp only [bendOk, hnon', hr, Bool.true_and, Bool.false_or]
  · rw [W_fin_b]
    refine ⟨?_, rfl⟩
    simp only [bendOk, hnon', hr, Bool.false_and, Bool.false_or]
end L_k14
set_option maxHeartbeats 4000000
namespace L_k14
open PySem PySem.Spec PyProof.Rows L2 T3
/-! is_boxes -/
theorem let_str {w : Va} (h : letOk w = true) : ∃ s, w = .str s ∧ lettersOk s = true := by
  cases w <;> simp [letOk] at h
  exact ⟨_, rfl, h⟩
theorem let_len {s : List Nat} (h : lettersOk s = true) : 1 ≤ s.length ∧ s.length ≤ 6 := by
  simp only [lettersOk, Bool.and_eq_true, decide_eq_true_eq] at h
  exact h.1.1
theorem goals_t {k : Nat} {w : Va} (h : goalsOk k w = true) : ∃ ws, w = .tup ws := by
  cases w <;> simp [goalsOk] at h
  exact ⟨_, rfl⟩
theorem cps_boxes : Cps boxesW := cps_small (by decide)
theorem six {ws : List Va} (h : ws.length = 6) : ∃ x y z u v t, ws = [x, y, z, u, v, t] := by
  match ws, h with
  | [x, y, z, u, v, t], _ => exact ⟨x, y, z, u, v, t, rfl⟩
theorem boxOk_len {w : Va} (h : sizedB 6 w = false) : boxOk w = false := by
  unfold boxOk
  split
  · simp [sizedB] at h
  · rfl
theorem rest_es {k cl : Nat} {mm rs es : Va} (h : isT es = false) : brestOk k cl mm rs es = false := by
  unfold brestOk
  split
  · simp [isT] at h
  · rfl
theorem boxes_D {b n : Nat} {w : Va} (h : TD b n w) (h1b : 1 ≤ b) (hb : b ≤ 60) (hn : n ≤ 60) (e : Dw) (a : Nat) (L : Sto) : Wp (m_is_boxes [w] (W e a L [])) fun r s => r = .bl (boxOk w) ∧ s = W e a L [] := by
  unfold m_is_boxes
  refine wp_fn rfl ?_
  (repeat (first |(with_reducible first |refine we_c ?_|refine wa_c ?_|refine wa_n ?_|refine we_call ?_|refine wb_v ?_|refine wb_or ?_|refine wb_not ?_|refine ss_c ?_|refine ss_if ?_) |(((with_reducible refine we_v (w := ?_) ?_ ?_); rotate_left; · rfl)) |(((with_reducible refine and_len ?_ ?_); · rfl))))
  refine wp_of (sized_eq h 6 _) ?_
  refine ⟨_, rfl, ?_⟩
  by_cases hsz : sizedB 6 w = true
  · obtain ⟨ws, rfl, hl⟩ := sizedB_t hsz
    obtain ⟨x, y, z, u, v, t, rfl⟩ := six hl
    obtain ⟨_, hx⟩ := tup_in h
    have tx := hx x (by simp)
    have ty := hx y (by simp)
    have tz := hx z (by simp)
    have tu := hx u (by simp)
    have tv := hx v (by simp)
    have tt := hx t (by simp)
    rw [hsz]
    refine If.f ?_
    have no : boxOk (.tup [x, y, z, u, v, t]) = false → (fin (W e a L []) (.bl false) (W e a L [])).1 = .bl (boxOk (.tup [x, y, z, u, v, t])) ∧ (fin (W e a L []) (.bl false) (W e a L [])).2 = W e a L [] := fun hno => by
      rw [W_fin_b, hno]; exact ⟨rfl, rfl⟩
    (repeat (first |(with_reducible first |refine we_c ?_|refine we_b ?_|refine wb_b ?_|refine wb_or ?_) |(((with_reducible refine we_v (w := ?_) ?_ ?_); rotate_left; · rfl)) |(((with_reducible refine wp_ixt (w := ?_) ?_ ?_); rotate_left; · rfl))))
    refine wp_of (ne_str tx (by omega) cps_boxes _) ?_
    (repeat (with_reducible first |refine If.n ?_|refine ex_bl ?_))
    refine ⟨fun hs => ?_, fun hs => ?_⟩
    · (repeat (first |(with_reducible first |refine we_c ?_|refine we_b ?_|refine wa_c ?_|refine wa_n ?_|refine we_call ?_|refine wb_v ?_|refine wb_not ?_) |(((with_reducible refine we_v (w := ?_) ?_ ?_); rotate_left; · rfl)) |(((with_reducible refine wp_ixt (w := ?_) ?_ ?_); rotate_left; · rfl)) |(((with_reducible refine and_len ?_ ?_); · rfl))))
      refine (letters_eq ty (by omega) e a L).imp ?_
      rintro r s ⟨rfl, rfl⟩
      (repeat (first |(with_reducible refine If.n ?_) |(((with_reducible refine ex_some (y := ?_) ?_ ?_); rotate_left; · rfl))))
      refine ⟨fun hy => ?_, fun hy => ?_⟩
      · obtain ⟨ls, rfl, hlo⟩ := let_str hy
        have hll := let_len hlo
        (repeat (first |(with_reducible first |refine we_a ?_|refine wa_c ?_|refine wa_n ?_|refine we_call ?_|refine wb_v ?_|refine wb_or ?_|refine wb_not ?_|refine ss_n ?_|refine ss_c ?_|refine ss_if ?_|refine ss_asg ?_) |(((with_reducible refine we_v (w := ?_) ?_ ?_); rotate_left; · rfl)) |(((with_reducible refine ex_some (y := ?_) ?_ ?_); rotate_left; · rfl))))
        refine wp_lens (by omega) ?_
        (repeat (first |(with_reducible refine wa_n ?_) |(((with_reducible refine and_len ?_ ?_); · rfl))))
        refine wp_of (goals_eq tz ls.length _) ?_
        (repeat (first |(with_reducible refine If.n ?_) |(((with_reducible refine ex_some (y := ?_) ?_ ?_); rotate_left; · rfl))))
        refine ⟨fun hz => ?_, fun hz => ?_⟩
        · obtain ⟨ah, rfl⟩ := goals_t hz
          have hre : boxOk (.tup [x, .str ls, .tup ah, u, v, t]) = brestOk ls.length ah.length u v t := by
            simp only [boxOk, hs, hy, hz, lenS, itT, Bool.true_and]
          (repeat (first |(with_reducible first |refine we_c ?_|refine we_a ?_|refine wa_c ?_|refine wa_n ?_|refine wb_v ?_|refine wb_or ?_|refine wb_not ?_) |(((with_reducible refine we_v (w := ?_) ?_ ?_); rotate_left; · rfl))))
          refine wp_of (isi_i tu) ?_
          refine ⟨_, rfl, ?_⟩
          rcases tu.cases with rfl | ⟨i, rfl⟩ | ⟨i, rfl⟩ | ⟨s, rfl, _⟩ | ⟨us, rfl, _⟩
          · refine If.t ?_
            (repeat (first |(with_reducible first |refine we_c ?_|refine ss_c ?_|refine ss_ret ?_) |(((with_reducible refine If_tr ?_ ?_); · rfl))))
            exact no (by rw [hre]; rfl)
          · refine If.f ?_
            (repeat (first |(with_reducible first |refine we_c ?_|refine we_a ?_|refine wa_c ?_|refine wa_n ?_|refine wb_v ?_|refine wb_or ?_) |(((with_reducible refine we_v (w := ?_) ?_ ?_); rotate_left; · rfl))))
            refine wp_of (isi_b tu) ?_
            refine ⟨_, rfl, ?_⟩
            refine If.t ?_
            (repeat (first |(with_reducible first |refine we_c ?_|refine ss_c ?_|refine ss_ret ?_) |(((with_reducible refine If_tr ?_ ?_); · rfl))))
            exact no (by rw [hre]; rfl)
          · refine If.f ?_
            (repeat (first |(with_reducible first |refine we_c ?_|refine we_a ?_|refine wa_c ?_|refine wa_n ?_|refine wb_v ?_|refine wb_or ?_) |(((with_reducible refine we_v (w := ?_) ?_ ?_); rotate_left; · rfl))))
            refine wp_of (isi_b tu) ?_
            refine ⟨_, rfl, ?_⟩
            refine If.f ?_
            (repeat (first |(with_reducible first |refine we_c ?_|refine wb_b ?_|refine wp_lt ?_|refine ex_bl ?_) |(((with_reducible refine we_v (w := ?_) ?_ ?_); rotate_left; · rfl))))
            refine If.d (fun hi => ?_) (fun hi => ?_)
            · (repeat (with_reducible first |refine we_c ?_|refine ss_c ?_|refine ss_ret ?_))
              refine no ?_
              rw [hre]
              have : ¬ (0 ≤ i) := by omega
              cases t <;> simp only [brestOk, this, decide_false, Bool.false_and]
            · obtain ⟨m, rfl⟩ : ∃ m : Nat, i = (m : Int) := ⟨i.toNat, by omega⟩
              (repeat (first |(with_reducible first |refine we_c ?_|refine we_a ?_|refine wa_c ?_|refine wa_n ?_|refine wb_v ?_|refine wb_or ?_|refine wb_not ?_|refine ss_n ?_|refine ss_c ?_|refine ss_if ?_) |(((with_reducible refine we_v (w := ?_) ?_ ?_); rotate_left; · rfl))))
              refine wp_of (isi_t tt) ?_
              refine ⟨_, rfl, ?_⟩
              by_cases ht : isT t = true
              · obtain ⟨es, rfl⟩ := isT_of ht
                obtain ⟨_, hes⟩ := tup_in tt
                refine If.f ?_
                (repeat (first |(with_reducible first |refine we_c ?_|refine we_a ?_|refine wa_c ?_|refine wa_n ?_|refine wb_b ?_|refine wb_or ?_|refine wp_eqi ?_|refine wp_lent ?_|refine ex_bl ?_) |(((with_reducible refine we_v (w := ?_) ?_ ?_); rotate_left; · rfl))))
                refine If.d (fun h0 => ?_) (fun h0 => ?_)
                · (repeat (first |(with_reducible first |refine we_c ?_|refine ss_c ?_|refine ss_ret ?_) |(((with_reducible refine If_tr ?_ ?_); · rfl))))
                  refine no ?_
                  have : es.isEmpty = true := by rw [List.isEmpty_iff_length_eq_zero]; omega
                  rw [hre]
                  simp only [brestOk, this, Bool.not_true, Bool.false_and, Bool.and_false]
                · have hne : es.isEmpty = false := by
                    cases es with
                    | nil => exact absurd rfl h0
                    | cons _ _ => rfl
                  (repeat (with_reducible first |refine wb_v ?_|refine wb_not ?_))
                  refine wp_gx (ws := es) (bendOk m) rfl trivial (fun q hq => ?_) ?_
                  · (repeat (first |(with_reducible first |refine wa_c ?_|refine wa_n ?_|refine we_call ?_) |(((with_reducible refine we_v (w := ?_) ?_ ?_); rotate_left; · rfl)) |(((with_reducible refine and_len ?_ ?_); · rfl))))
                    refine (bend_D (hes q hq) h1b hb m e a L).imp ?_
                    rintro r s ⟨rfl, rfl⟩
                    exact ⟨rfl, rfl⟩
                  (repeat (first |(with_reducible refine If.n ?_) |(((with_reducible refine ex_some (y := ?_) ?_ ?_); rotate_left; · rfl))))
                  refine ⟨fun hall => ?_, fun hall => ?_⟩
                  · (repeat (first |(with_reducible first |refine we_a ?_|refine wa_c ?_|refine wa_n ?_|refine we_call ?_|refine wb_v ?_|refine wb_not ?_|refine ss_n ?_|refine ss_c ?_|refine ss_if ?_|refine wp_lent ?_) |(((with_reducible refine we_v (w := ?_) ?_ ?_); rotate_left; · rfl)) |(((with_reducible refine and_len ?_ ?_); · rfl))))
                    refine wp_of (sized_eq tv es.length _) ?_
                    (repeat (first |(with_reducible refine If.n ?_) |(((with_reducible refine ex_some (y := ?_) ?_ ?_); rotate_left; · rfl))))
                    refine ⟨fun hsv => ?_, fun hsv => ?_⟩
                    · obtain ⟨rs, rfl, hrl⟩ := sizedB_t hsv
                      obtain ⟨_, hrs⟩ := tup_in tv
                      (repeat (with_reducible first |refine ss_n ?_|refine ss_c ?_|refine ss_ret ?_))
                      refine wp_gx (ws := rs) (bstateOk ls.length ah.length es.length m) rfl trivial (fun q hq => ?_) ?_
                      · (repeat (first |(with_reducible first |refine we_a ?_|refine wa_c ?_|refine wa_n ?_|refine we_call ?_) |(((with_reducible refine we_v (w := ?_) ?_ ?_); rotate_left; · rfl))))
                        refine wp_lens (by omega) ?_
                        (repeat (first |(with_reducible first |refine we_a ?_|refine wa_c ?_|refine wa_n ?_|refine wp_lent ?_) |(((with_reducible refine we_v (w := ?_) ?_ ?_); rotate_left; · rfl)) |(((with_reducible refine and_len ?_ ?_); · rfl))))
                        refine (bstate_D (hrs q hq) hb ls.length ah.length es.length m e a L).imp ?_
                        rintro r s ⟨rfl, rfl⟩
                        exact ⟨rfl, rfl⟩
                      · rw [W_fin_b, hre]
                        refine ⟨?_, rfl⟩
                        have h0m : (0 : Int) ≤ (m : Nat) := by omega
                        simp only [brestOk, hne, hall, hsv, itT, h0m, Int.toNat_natCast, decide_true, Bool.not_false, Bool.true_and]
                    · (repeat (with_reducible first |refine we_c ?_|refine ss_c ?_|refine ss_ret ?_))
                      refine no ?_
                      rw [hre]
                      simp only [brestOk, hsv, Bool.and_false, Bool.false_and]
                  · (repeat (with_reducible first |refine we_c ?_|refine ss_c ?_|refine ss_ret ?_))
                    refine no ?_
                    rw [hre]
                    simp only [brestOk, Int.toNat_natCast, hall, Bool.and_false, Bool.false_and]
              · have ht' : isT t = false := by simpa using ht
                rw [ht']
                refine If.t ?_
                (repeat (first |(with_reducible first |refine we_c ?_|refine ss_c ?_|refine ss_ret ?_) |(((with_reducible refine If_tr ?_ ?_); · rfl))))
                exact no (by rw [hre, rest_es ht'])
          · refine If.t ?_
            (repeat (first |(with_reducible first |refine we_c ?_|refine ss_c ?_|refine ss_ret ?_) |(((with_reducible refine If_tr ?_ ?_); · rfl))))
            exact no (by rw [hre]; rfl)
          · refine If.t ?_
            (repeat (first |(with_reducible first |refine we_c ?_|refine ss_c ?_|refine ss_ret ?_) |(((with_reducible refine If_tr ?_ ?_); · rfl))))
            exact no (by rw [hre]; rfl)
        · (repeat (first |(with_reducible first |refine we_c ?_|refine ss_c ?_|refine ss_ret ?_) |(((with_reducible refine If_tr ?_ ?_); · rfl))))
          refine no ?_
          simp only [boxOk, lenS, hz, Bool.and_false, Bool.false_and]
      · (repeat (with_reducible first |refine we_c ?_|refine ss_c ?_|refine ss_ret ?_))
        refine no ?_
        simp only [boxOk, hy, Bool.and_false, Bool.false_and]
    · (repeat (first |(with_reducible first |refine we_c ?_|refine ss_c ?_|refine ss_ret ?_) |(((with_reducible refine If_tr ?_ ?_); · rfl))))
      refine no ?_
      simp only [boxOk, hs, Bool.false_and]
  · have hsz' : sizedB 6 w = false := by simpa using hsz
    rw [hsz']
    refine If.t ?_
    (repeat (first |(with_reducible first |refine we_c ?_|refine ss_c ?_|refine ss_ret ?_) |(((with_reducible refine If_tr ?_ ?_); · rfl))))
    rw [W_fin_b, boxOk_len hsz']
    exact And.intro rfl rfl
end L_k14
set_option maxHeartbeats 4000000
namespace L_k14
open PySem PySem.Spec PyProof.Rows L2 T3
/-! the law's own reader: rows, what is once, entries -/
theorem item_no {m : Nat} {ws : List Va} {x : Va} (hx : x ∈ ws) (h : itemOk m x = false) : browOk m (.tup ws) = false := by
  have : ws.all (itemOk m) = false := List.all_eq_false.mpr ⟨x, hx, by rw [h]; exact Bool.false_ne_true⟩
  simp only [browOk, this, Bool.false_and]
theorem law_row_eq {b n : Nat} {w : Va} (h : TD b n w) (hb : b ≤ 1000) (m : Nat) (st : Sto) : m__law_is_row [w, .int m] st = some (.bl (browOk m w), st) := by
  refine wp_eq ?_
  unfold m__law_is_row
  refine wp_fn rfl ?_
  (repeat (first |(with_reducible first |refine we_c ?_|refine we_a ?_|refine wa_c ?_|refine wa_n ?_|refine wb_v ?_|refine wb_not ?_|refine ss_c ?_|refine ss_if ?_) |(((with_reducible refine we_v (w := ?_) ?_ ?_); rotate_left; · rfl))))
  refine wp_of (isi_t h) ?_
  refine ⟨_, rfl, ?_⟩
  rcases h.cases with rfl | ⟨i, rfl⟩ | ⟨i, rfl⟩ | ⟨s, rfl, _⟩ | ⟨ws, rfl, hl, hx⟩
  · refine If.t ?_
    (repeat (with_reducible first |refine we_c ?_|refine ss_c ?_|refine ss_ret ?_))
    rw [fin_sb]
    exact And.intro rfl rfl
  · refine If.t ?_
    (repeat (with_reducible first |refine we_c ?_|refine ss_c ?_|refine ss_ret ?_))
    rw [fin_sb]
    exact And.intro rfl rfl
  · refine If.t ?_
    (repeat (with_reducible first |refine we_c ?_|refine ss_c ?_|refine ss_ret ?_))
    rw [fin_sb]
    exact And.intro rfl rfl
  · refine If.t ?_
    (repeat (with_reducible first |refine we_c ?_|refine ss_c ?_|refine ss_ret ?_))
    rw [fin_sb]
    exact And.intro rfl rfl
  · refine If.f ?_
    (repeat (first |(with_reducible first |refine we_c ?_|refine ss_n ?_|refine ss_c ?_|refine ss_set ?_|refine ss_for ?_|refine wi_a ?_) |(((with_reducible refine we_v (w := ?_) ?_ ?_); rotate_left; · rfl)) |(((with_reducible refine ex_some (y := ?_) ?_ ?_); rotate_left; · rfl))))
    refine wl_inv (fun i fm s => Hd (∃ bv x, fm = [some (.tup ws), some (.int (m : Nat)), some bv, x] ∧ s = st ∧ TD b n bv ∧ isSt bv = (decide (0 < i) && isSt ((ws[i - 1]?).getD .non)) ∧ (∀ u ∈ ws.take i, itemOk m u = true) ∧
      ∀ j, j + 1 < i → (!(isSt ((ws[j]?).getD .non) && isSt ((ws[j + 1]?).getD .non))) = true)) (fun _ _ _ _ => trivial) (hd ⟨_, _, rfl, rfl, TD.ofA (.inr (.inr (.inl ⟨_, rfl⟩))) n, rfl, fun _ h => (List.not_mem_nil h).elim, fun _ h => (Nat.not_lt_zero _ h).elim⟩) ?_ ?_
    · rintro i u hu fm s ⟨bv, x, rfl, rfl, tb, hbv, hal, hadj⟩
      have hum := List.mem_of_getElem? hu
      have tu := hx u hum
      have hil : i < ws.length := (List.getElem?_eq_some_iff.mp hu).1
      have htk : ws.take (i + 1) = ws.take i ++ [u] := by rw [List.take_succ, hu]; rfl
      have no : browOk m (.tup ws) = false → (fin s (.bl false) s).1 = .bl (browOk m (.tup ws)) ∧ (fin s (.bl false) s).2 = s := fun hno => by
        rw [fin_sb, hno]; exact ⟨rfl, rfl⟩
      have go : ∀ x', itemOk m u = true → (isSt u && isSt bv) = false → Hd (∃ bv x, [some (.tup ws), some (.int (m : Nat)), some u, x'] = [some (.tup ws), some (.int (m : Nat)), some bv, x] ∧ s = s ∧ TD b n bv ∧ isSt bv = (decide (0 < i + 1) && isSt ((ws[i + 1 - 1]?).getD .non)) ∧ (∀ u ∈ ws.take (i + 1), itemOk m u = true) ∧
          ∀ j, j + 1 < i + 1 → (!(isSt ((ws[j]?).getD .non) && isSt ((ws[j + 1]?).getD .non))) = true) := fun x' hok hst => by
        refine hd ⟨_, _, rfl, rfl, TD.lift (Nat.sub_le n 1) tu, ?_, fun q hq => ?_, fun j hj => ?_⟩
        · rw [Nat.add_sub_cancel, hu]; simp
        · rw [htk] at hq
          rcases List.mem_append.mp hq with h | h
          · exact hal q h
          · rw [List.mem_singleton.mp h]; exact hok
        · by_cases hji : j + 1 = i
          · rw [hji, hu, Option.getD_some]
            rw [hbv, ← hji, Nat.add_sub_cancel] at hst
            simp only [Nat.zero_lt_succ, decide_true, Bool.true_and] at hst
            rw [Bool.and_comm, hst]; rfl
          · exact hadj j (by omega)
      refine ⟨_, rfl, ?_⟩
      (repeat (first |(with_reducible first |refine we_c ?_|refine we_a ?_|refine wa_c ?_|refine wa_n ?_|refine wb_v ?_|refine ss_c ?_|refine ss_if ?_) |(((with_reducible refine we_v (w := ?_) ?_ ?_); rotate_left; · rfl))))
      refine wp_of (isi_s tu) ?_
      refine ⟨_, rfl, ?_⟩
      have num : isSt u = false → itemOk m u = goalOk m u := fun h => by cases u <;> simp [isSt] at h <;> rfl
      by_cases hsu : isSt u = true
      · rw [hsu]
        refine If.t ?_
        obtain ⟨us, rfl⟩ : ∃ us, u = .str us := by
          cases u <;> simp [isSt] at hsu
          exact ⟨_, rfl⟩
        (repeat (first |(with_reducible first |refine we_c ?_|refine wb_b ?_|refine wb_or ?_|refine ss_c ?_|refine ss_if ?_|refine wp_eqs ?_|refine ex_bl ?_) |(((with_reducible refine we_v (w := ?_) ?_ ?_); rotate_left; · rfl))))
        refine If.d (fun h0 => ?_) (fun h0 => ?_)
        · (repeat (first |(with_reducible first |refine we_c ?_|refine ss_c ?_|refine ss_ret ?_) |(((with_reducible refine If_tr ?_ ?_); · rfl))))
          subst h0
          exact no (item_no hum rfl)
        · have hne : us.isEmpty = false := by cases us <;> simp at h0 ⊢
          (repeat (first |(with_reducible first |refine wa_c ?_|refine wa_n ?_|refine we_call ?_|refine wb_v ?_|refine wb_or ?_|refine wb_not ?_) |(((with_reducible refine we_v (w := ?_) ?_ ?_); rotate_left; · rfl)) |(((with_reducible refine and_len ?_ ?_); · rfl))))
          refine wp_of (law_small_eq tu hb _) ?_
          (repeat (first |(with_reducible refine If.n ?_) |(((with_reducible refine ex_some (y := ?_) ?_ ?_); rotate_left; · rfl))))
          refine ⟨fun hsm => ?_, fun hsm => ?_⟩
          · have hio : itemOk m (.str us) = true := by
              simp only [smallOk] at hsm
              simp only [itemOk, hne, hsm, Bool.not_false, Bool.and_self]
            (repeat (first |(with_reducible first |refine we_c ?_|refine we_a ?_|refine wa_c ?_|refine wa_n ?_|refine wb_v ?_) |(((with_reducible refine we_v (w := ?_) ?_ ?_); rotate_left; · rfl))))
            refine wp_of (isi_s tb) ?_
            (repeat (((with_reducible refine ex_some (y := ?_) ?_ ?_); rotate_left; · rfl)))
            refine ⟨fun hb1 => ?_, fun hb1 => ?_⟩
            · (repeat (with_reducible first |refine we_c ?_|refine ss_c ?_|refine ss_ret ?_))
              refine no ?_
              rw [hbv, Bool.and_eq_true, decide_eq_true_eq] at hb1
              have hi1 : i - 1 < ws.length := by omega
              have g1 := List.getElem?_eq_getElem hi1
              have hs1 := hb1.2
              rw [g1, Option.getD_some] at hs1
              have : adjB ws = false := adj_no (i := i - 1) g1 (by rw [Nat.sub_add_cancel hb1.1]; exact hu) hs1 rfl
              simp only [browOk, this, Bool.and_false]
            · (repeat (first |(with_reducible first |refine ss_n ?_|refine ss_c ?_|refine ss_set ?_) |(((with_reducible refine we_v (w := ?_) ?_ ?_); rotate_left; · rfl))))
              exact go _ hio (by rw [hb1, Bool.and_false])
          · (repeat (first |(with_reducible first |refine we_c ?_|refine ss_c ?_|refine ss_ret ?_) |(((with_reducible refine If_tr ?_ ?_); · rfl))))
            refine no (item_no hum ?_)
            simp only [smallOk] at hsm
            simp only [itemOk, hsm, Bool.and_false]
      · have hsu' : isSt u = false := by simpa using hsu
        rw [hsu']
        refine If.f ?_
        (repeat (first |(with_reducible first |refine wa_c ?_|refine wa_n ?_|refine we_call ?_|refine wb_v ?_|refine wb_not ?_|refine ss_c ?_|refine ss_if ?_) |(((with_reducible refine we_v (w := ?_) ?_ ?_); rotate_left; · rfl)) |(((with_reducible refine and_len ?_ ?_); · rfl))))
        refine wp_of (law_number_eq tu m _) ?_
        (repeat (first |(with_reducible refine If.n ?_) |(((with_reducible refine ex_some (y := ?_) ?_ ?_); rotate_left; · rfl))))
        refine ⟨fun hg => ?_, fun hg => ?_⟩
        · (repeat (first |(with_reducible first |refine ss_n ?_|refine ss_c ?_|refine ss_set ?_) |(((with_reducible refine we_v (w := ?_) ?_ ?_); rotate_left; · rfl))))
          exact go _ (by rw [num hsu', hg]) (by rw [hsu', Bool.false_and])
        · (repeat (with_reducible first |refine we_c ?_|refine ss_c ?_|refine ss_ret ?_))
          exact no (item_no hum (by rw [num hsu', hg]))
    · rintro fm s ⟨bv, x, rfl, rfl, tb, hbv, hal, hadj⟩
      dsimp only at hal hadj
      rw [List.take_length] at hal
      (repeat (with_reducible first |refine we_c ?_|refine ss_c ?_|refine ss_ret ?_))
      rw [fin_sb]
      refine And.intro ?_ rfl
      have h1 : adjB ws = true := by
        unfold adjB
        rw [List.all_eq_true]
        exact fun i hi => hadj i (show i + 1 < ws.length by have := List.mem_range.mp hi; omega)
      have h2 : ws.all (itemOk m) = true := List.all_eq_true.mpr hal
      simp only [browOk, h1, h2, Bool.and_self]
theorem once_no {found rest : List Int} {i : Int} (h : i ∈ found) : ¬ (found ++ i :: rest).Nodup := fun hn => by
  rw [List.nodup_append] at hn
  exact hn.2.2 i h i List.mem_cons_self rfl
theorem law_once_D {b n m : Nat} {rows : List Va} (hl : rows.length ≤ b) (hx : ∀ r ∈ rows, TD b n r) (hb : b ≤ 60) (hr : ∀ r ∈ rows, browOk m r = true) (e : Dw) (a : Nat) (L : Sto) {v : Va} {gd : Sto → Prop} (hs : ∀ M, srcOf v (W e a L M) = some ⟨rows, gd⟩) (hg : ∀ M, gd (W e a L M)) :
    Wp (m__law_once [v] (W e a L [])) fun r s => r = .bl (onceB rows) ∧ s = W e a L [] := by
  have rowT : ∀ r ∈ rows, ∃ ws, r = .tup ws ∧ ws.length ≤ b ∧ (∀ u ∈ ws, TD b (n - 1) u ∧ itemOk m u = true) := fun r hr' => by
    have h1 := hr r hr'
    have h2 := hx r hr'
    cases r <;> simp only [browOk, Bool.false_eq_true] at h1
    rw [Bool.and_eq_true, List.all_eq_true] at h1
    exact ⟨_, rfl, (tup_in h2).1, fun u hu => ⟨(tup_in h2).2 u hu, h1.1 u hu⟩⟩
  have hlen : (boxesI rows).length < 4000 := by
    have h1 : (boxesI rows).length ≤ rows.length * b := boxesI_len fun r hr' => by
      obtain ⟨ws, rfl, h, _⟩ := rowT r hr'
      exact h
    have h2 : rows.length * b ≤ 60 * 60 := Nat.mul_le_mul (by omega) hb
    omega
  unfold m__law_once
  refine wp_fn rfl ?_
  (repeat (first |(with_reducible first |refine wa_n ?_|refine we_lstW ?_|refine ss_c ?_|refine ss_set ?_|refine ss_for ?_|refine wi_a ?_|refine inW_mk ?_) |(((with_reducible refine we_v (w := ?_) ?_ ?_); rotate_left; · rfl)) |(((with_reducible refine and_le ?_ ?_); · exact Nat.le_of_ble_eq_true rfl))))
  refine ⟨⟨rows, gd⟩, hs _, ?_⟩
  refine wl_inv (fun i fm s => Hd (∃ x2 x3, fm = [some v, some (.ref (e.p L + 0)), x2, x3] ∧ s = W e a L [.lst ((boxesI (rows.take i)).map Va.int)] ∧ (boxesI (rows.take i)).Nodup)) (fun i fm s hI => by obtain ⟨_, _, _, rfl, _⟩ := hI; exact hg _) (hd ⟨_, _, rfl, rfl, .nil⟩) ?_ ?_
  · rintro i r hri fm s ⟨x2, x3, rfl, rfl, hnd⟩
    have hrm := List.mem_of_getElem? hri
    obtain ⟨ws, rfl, hwl, hws⟩ := rowT r hrm
    have htk : rows.take (i + 1) = rows.take i ++ [.tup ws] := by rw [List.take_succ, hri]; rfl
    have hspl : rows = rows.take i ++ .tup ws :: rows.drop (i + 1) := by
      have hil := (List.getElem?_eq_some_iff.mp hri).1
      have h0 := List.take_append_drop i rows
      rw [List.drop_eq_getElem_cons hil, (List.getElem?_eq_some_iff.mp hri).2] at h0
      exact h0.symm
    refine ⟨_, rfl, ?_⟩
    (repeat (first |(with_reducible first |refine ss_c ?_|refine ss_for ?_|refine wi_a ?_) |(((with_reducible refine we_v (w := ?_) ?_ ?_); rotate_left; · rfl)) |(((with_reducible refine ex_some (y := ?_) ?_ ?_); rotate_left; · rfl))))
    refine wl_inv (fun j fm s => Hd (∃ x3, fm = [some v, some (.ref (e.p L + 0)), some (.tup ws), x3] ∧ s = W e a L [.lst ((boxesI (rows.take i) ++ (ws.take j).filterMap boxI).map Va.int)] ∧ (boxesI (rows.take i) ++ (ws.take j).filterMap boxI).Nodup)) (fun _ _ _ _ => trivial) (hd ⟨_, rfl, by simp, by simpa using hnd⟩) ?_ ?_
    · rintro j u hu fm s ⟨x3, rfl, rfl, hnd2⟩
      have hum := List.mem_of_getElem? hu
      obtain ⟨tu, hok⟩ := hws u hum
      have htk2 : ws.take (j + 1) = ws.take j ++ [u] := by rw [List.take_succ, hu]; rfl
      have hspl2 : ws = ws.take j ++ u :: ws.drop (j + 1) := by
        have hjl := (List.getElem?_eq_some_iff.mp hu).1
        have h0 := List.take_append_drop j ws
        rw [List.drop_eq_getElem_cons hjl, (List.getElem?_eq_some_iff.mp hu).2] at h0
        exact h0.symm
      have hfl : (boxesI (rows.take i) ++ (ws.take j).filterMap boxI).length < 4000 := by
        have h1 : boxesI rows = (boxesI (rows.take i) ++ (ws.take j).filterMap boxI) ++ ((u :: ws.drop (j + 1)).filterMap boxI ++ boxesI (rows.drop (i + 1))) := by
          rw [hspl, boxesI_app, boxesI_cons]
          have : itT (.tup ws) = ws.take j ++ u :: ws.drop (j + 1) := hspl2
          rw [this, List.filterMap_append]
          simp only [List.append_assoc, ← hspl]
        rw [h1, List.length_append] at hlen
        omega
      refine ⟨_, rfl, ?_⟩
      (repeat (first |(with_reducible first |refine we_c ?_|refine we_a ?_|refine wa_c ?_|refine wa_n ?_|refine wb_v ?_|refine wb_not ?_|refine ss_c ?_|refine ss_if ?_) |(((with_reducible refine we_v (w := ?_) ?_ ?_); rotate_left; · rfl))))
      refine wp_of (isi_s tu) ?_
      (repeat (first |(with_reducible refine If.n ?_) |(((with_reducible refine ex_some (y := ?_) ?_ ?_); rotate_left; · rfl))))
      refine ⟨fun hst => ?_, fun hst => ?_⟩
      · (repeat (with_reducible refine ss_n ?_))
        refine hd ⟨_, rfl, ?_, ?_⟩
        · cases u <;> simp [isSt] at hst
          rw [htk2, List.filterMap_append, show List.filterMap boxI [Va.str _] = [] from rfl, List.append_nil]
        · cases u <;> simp [isSt] at hst
          rw [htk2, List.filterMap_append, show List.filterMap boxI [Va.str _] = [] from rfl, List.append_nil]
          exact hnd2
      · obtain ⟨k, rfl⟩ : ∃ k, u = .int k := by
          cases u <;> simp [isSt, itemOk, goalOk] at hst hok
          exact ⟨_, rfl⟩
        (repeat (first |(with_reducible first |refine wb_b ?_|refine ss_c ?_|refine ss_if ?_) |(((with_reducible refine we_v (w := ?_) ?_ ?_); rotate_left; · rfl))))
        refine wp_inI (k := 0) rfl ?_
        (repeat (with_reducible refine ex_bl ?_))
        refine If.d (fun hin => ?_) (fun hin => ?_)
        · (repeat (with_reducible first |refine we_c ?_|refine ss_c ?_|refine ss_ret ?_))
          rw [W_fin_b]
          refine ⟨?_, rfl⟩
          have : onceB rows = false := by
            unfold onceB
            rw [decide_eq_false_iff_not, hspl, boxesI_app, boxesI_cons]
            have h3 : itT (.tup ws) = ws.take j ++ .int k :: ws.drop (j + 1) := hspl2
            rw [h3, List.filterMap_append, List.filterMap_cons]
            simp only [boxI]
            rw [List.append_assoc, ← List.append_assoc, List.cons_append]
            exact once_no hin
          rw [this]
        · (repeat (first |(with_reducible first |refine we_mt ?_|refine ss_n ?_|refine ss_c ?_|refine ss_ex ?_) |(((with_reducible refine we_v (w := ?_) ?_ ?_); rotate_left; · rfl))))
          refine and_hty (hty_W (k := 0) rfl) ?_
          (repeat (first |(with_reducible first |refine wa_c ?_|refine wa_n ?_) |(((with_reducible refine we_v (w := ?_) ?_ ?_); rotate_left; · rfl))))
          refine wp_appW (k := 0) rfl (by rw [List.length_map]; omega) ?_
          (repeat (with_reducible refine ss_n ?_))
          refine hd ⟨_, rfl, ?_, ?_⟩
          · rw [htk2, List.filterMap_append]
            simp [boxI]
          · rw [htk2, List.filterMap_append, ← List.append_assoc]
            simp only [List.filterMap_cons, List.filterMap_nil, boxI]
            rw [List.nodup_append]
            refine ⟨hnd2, by simp, fun x hx y hy => ?_⟩
            rw [List.mem_singleton.mp hy]
            intro he
            exact hin (he ▸ hx)
    · rintro fm s ⟨x3, rfl, rfl, hnd2⟩
      dsimp only at hnd2
      rw [List.take_length] at hnd2
      (repeat (with_reducible refine ss_n ?_))
      refine hd ⟨_, _, rfl, ?_, ?_⟩
      · rw [htk, boxesI_app, boxesI_cons, List.take_length]
        simp [boxesI, itT]
      · rw [htk, boxesI_app, boxesI_cons]
        simpa [boxesI, itT] using hnd2
  · rintro fm s ⟨x2, x3, rfl, rfl, hnd⟩
    dsimp only at hnd
    rw [List.take_length] at hnd
    (repeat (with_reducible first |refine we_c ?_|refine ss_c ?_|refine ss_ret ?_))
    rw [W_fin_b]
    refine ⟨?_, rfl⟩
    simp only [onceB, hnd, decide_true]
theorem law_entry_D {b n : Nat} {w : Va} (h : TD b n w) (hb : b ≤ 60) (S m : Nat) (e : Dw) (a : Nat) (L : Sto) :
    Wp (m__law_is_entry [w, .int S, .int m] (W e a L [])) fun r s => r = .bl (entryOk S m w) ∧ s = W e a L [] := by
  unfold m__law_is_entry
  refine wp_fn rfl ?_
  (repeat (first |(with_reducible first |refine we_c ?_|refine wb_b ?_|refine ss_c ?_|refine ss_if ?_|refine wp_isn ?_|refine ex_bl ?_) |(((with_reducible refine we_v (w := ?_) ?_ ?_); rotate_left; · rfl))))
  by_cases hnon : T3.isNon w = true
  · rw [hnon]
    refine If.t ?_
    (repeat (with_reducible first |refine we_c ?_|refine ss_c ?_|refine ss_ret ?_))
    rw [W_fin_b]
    cases w <;> simp [T3.isNon] at hnon
    exact And.intro rfl rfl
  have hnon' : T3.isNon w = false := by simpa using hnon
  rw [hnon']
  refine If.f ?_
  (repeat (first |(with_reducible first |refine we_c ?_|refine wa_c ?_|refine wa_n ?_|refine we_call ?_|refine wb_v ?_|refine wb_or ?_|refine wb_not ?_|refine ss_n ?_|refine ss_c ?_|refine ss_if ?_) |(((with_reducible refine we_v (w := ?_) ?_ ?_); rotate_left; · rfl)) |(((with_reducible refine and_len ?_ ?_); · rfl))))
  refine wp_of (law_sized_eq h 2 _) ?_
  refine ⟨_, rfl, ?_⟩
  by_cases hsz : sizedB 2 w = true
  · obtain ⟨ws, rfl, hl⟩ := sizedB_t hsz
    obtain ⟨x, y, rfl⟩ := two_v hl
    obtain ⟨_, hx⟩ := tup_in h
    have tx := hx x (by simp)
    have ty := hx y (by simp)
    rw [hsz]
    refine If.f ?_
    (repeat (first |(with_reducible first |refine we_c ?_|refine we_b ?_|refine wa_c ?_|refine wa_n ?_|refine we_call ?_|refine wb_v ?_|refine wb_or ?_|refine wb_not ?_) |(((with_reducible refine we_v (w := ?_) ?_ ?_); rotate_left; · rfl)) |(((with_reducible refine wp_ixt (w := ?_) ?_ ?_); rotate_left; · rfl)) |(((with_reducible refine and_len ?_ ?_); · rfl))))
    refine wp_of (law_number_eq tx S _) ?_
    (repeat (first |(with_reducible refine If.n ?_) |(((with_reducible refine ex_some (y := ?_) ?_ ?_); rotate_left; · rfl))))
    refine ⟨fun hg => ?_, fun hg => ?_⟩
    · (repeat (first |(with_reducible first |refine we_c ?_|refine we_b ?_|refine wa_c ?_|refine wa_n ?_|refine we_call ?_|refine wb_v ?_|refine wb_not ?_) |(((with_reducible refine we_v (w := ?_) ?_ ?_); rotate_left; · rfl)) |(((with_reducible refine wp_ixt (w := ?_) ?_ ?_); rotate_left; · rfl)) |(((with_reducible refine and_len ?_ ?_); · rfl))))
      refine wp_of (law_sized_eq ty m _) ?_
      (repeat (first |(with_reducible refine If.n ?_) |(((with_reducible refine ex_some (y := ?_) ?_ ?_); rotate_left; · rfl))))
      refine ⟨fun hsy => ?_, fun hsy => ?_⟩
      · obtain ⟨news, rfl, hnl⟩ := sizedB_t hsy
        obtain ⟨hnb, hnx⟩ := tup_in ty
        (repeat (with_reducible first |refine we_c ?_|refine we_b ?_|refine we_and ?_|refine ss_n ?_|refine ss_c ?_|refine ss_ret ?_))
        refine wp_lcP (ws := news) (fun _ => true) (fun x => .bl (browOk m x)) rfl (by omega) (fun u hum => ?_) ?_
        · refine ⟨_, rfl, fun M' _ => ?_⟩
          refine wb_yes ⟨rfl, rfl, fun _ => ?_⟩
          (repeat (first |(with_reducible first |refine wa_c ?_|refine wa_n ?_|refine we_call ?_) |(((with_reducible refine we_v (w := ?_) ?_ ?_); rotate_left; · rfl)) |(((with_reducible refine and_len ?_ ?_); · rfl))))
          refine wp_of (law_row_eq (hnx u hum) (by omega) m _) ?_
          exact ⟨rfl, rfl⟩
        rw [List.filter_eq_self.mpr (fun _ _ => rfl)]
        refine wp_ninW (bs := news.map (browOk m)) (by simp) ?_
        have hro : (news.map (browOk m)).all id = news.all (browOk m) := by rw [List.all_map]; rfl
        rw [hro]
        (repeat (with_reducible refine ex_bl ?_))
        refine ⟨fun hall => ?_, fun hall => ?_⟩
        · (repeat (first |(with_reducible first |refine we_c ?_|refine we_b ?_|refine wa_c ?_|refine wa_n ?_|refine we_call ?_) |(((with_reducible refine we_v (w := ?_) ?_ ?_); rotate_left; · rfl)) |(((with_reducible refine wp_ixt (w := ?_) ?_ ?_); rotate_left; · rfl)) |(((with_reducible refine and_len ?_ ?_); · rfl))))
          rw [W_in]
          refine (law_once_D hnb hnx hb (fun r hr' => List.all_eq_true.mp hall r hr') e a _ (gd := fun _ => True) (fun M => rfl) fun _ => trivial).imp ?_
          rintro r s ⟨rfl, rfl⟩
          rw [← W_in, W_fin_b]
          refine ⟨?_, rfl⟩
          simp only [entryOk, hg, hnl, hall, decide_true, Bool.true_and]
        · rw [W_fin_b]
          refine ⟨?_, rfl⟩
          simp only [entryOk, hall, Bool.and_false, Bool.false_and]
      · (repeat (with_reducible first |refine we_c ?_|refine ss_c ?_|refine ss_ret ?_))
        rw [W_fin_b]
        refine ⟨?_, rfl⟩
        have : entryOk S m (.tup [x, y]) = false := by
          cases y <;> try rfl
          simp only [sizedB] at hsy
          simp only [entryOk, hsy, Bool.and_false, Bool.false_and]
        rw [this]
    · (repeat (first |(with_reducible first |refine we_c ?_|refine ss_c ?_|refine ss_ret ?_) |(((with_reducible refine If_tr ?_ ?_); · rfl))))
      rw [W_fin_b]
      refine ⟨?_, rfl⟩
      have : entryOk S m (.tup [x, y]) = false := by
        cases y <;> try rfl
        simp only [entryOk, hg, Bool.false_and]
      rw [this]
  · have hsz' : sizedB 2 w = false := by simpa using hsz
    rw [hsz']
    refine If.t ?_
    (repeat (first |(with_reducible first |refine we_c ?_|refine ss_c ?_|refine ss_ret ?_) |(((with_reducible refine If_tr ?_ ?_); · rfl))))
    rw [W_fin_b, entry_no2 hnon' hsz']
    exact And.intro rfl rfl
end L_k14
set_option maxHeartbeats 4000000
namespace L_k14
open PySem PySem.Spec PyProof.Rows L2 T3
/-! the law's own reader of box machines -/
theorem law_boxes_D {b n : Nat} {w : Va} (h : TD b n w) (h1b : 1 ≤ b) (hb : b ≤ 60) (hn : n ≤ 60) (e : Dw) (a : Nat) (L : Sto) : Wp (m__law_is_boxes [w] (W e a L [])) fun r s => r = .bl (boxOk w) ∧ s = W e a L [] := by
  unfold m__law_is_boxes
  refine wp_fn rfl ?_
  (repeat (first |(with_reducible first |refine we_c ?_|refine wa_c ?_|refine wa_n ?_|refine we_call ?_|refine wb_v ?_|refine wb_or ?_|refine wb_not ?_|refine ss_c ?_|refine ss_if ?_) |(((with_reducible refine we_v (w := ?_) ?_ ?_); rotate_left; · rfl)) |(((with_reducible refine and_len ?_ ?_); · rfl))))
  refine wp_of (law_sized_eq h 6 _) ?_
  refine ⟨_, rfl, ?_⟩
  by_cases hsz : sizedB 6 w = true
  · obtain ⟨ws, rfl, hl⟩ := sizedB_t hsz
    obtain ⟨x, y, z, u, v, t, rfl⟩ := six hl
    obtain ⟨_, hx⟩ := tup_in h
    have tx := hx x (by simp)
    have ty := hx y (by simp)
    have tz := hx z (by simp)
    have tu := hx u (by simp)
    have tv := hx v (by simp)
    have tt := hx t (by simp)
    rw [hsz]
    refine If.f ?_
    have no : ∀ M, boxOk (.tup [x, y, z, u, v, t]) = false → (fin (W e a L []) (.bl false) (W e a L M)).1 = .bl (boxOk (.tup [x, y, z, u, v, t])) ∧ (fin (W e a L []) (.bl false) (W e a L M)).2 = W e a L [] := fun M hno => by
      rw [W_fin_b, hno]; exact ⟨rfl, rfl⟩
    (repeat (first |(with_reducible first |refine we_c ?_|refine we_b ?_|refine wb_b ?_|refine wb_or ?_) |(((with_reducible refine we_v (w := ?_) ?_ ?_); rotate_left; · rfl)) |(((with_reducible refine wp_ixt (w := ?_) ?_ ?_); rotate_left; · rfl))))
    refine wp_of (ne_str tx (by omega) cps_boxes _) ?_
    (repeat (with_reducible first |refine If.n ?_|refine ex_bl ?_))
    refine ⟨fun hs => ?_, fun hs => ?_⟩
    · (repeat (first |(with_reducible first |refine we_c ?_|refine we_b ?_|refine wa_c ?_|refine wa_n ?_|refine we_call ?_|refine wb_v ?_|refine wb_not ?_) |(((with_reducible refine we_v (w := ?_) ?_ ?_); rotate_left; · rfl)) |(((with_reducible refine wp_ixt (w := ?_) ?_ ?_); rotate_left; · rfl)) |(((with_reducible refine and_len ?_ ?_); · rfl))))
      refine (law_letters_eq ty (by omega) e a L).imp ?_
      rintro r s ⟨rfl, rfl⟩
      (repeat (first |(with_reducible refine If.n ?_) |(((with_reducible refine ex_some (y := ?_) ?_ ?_); rotate_left; · rfl))))
      refine ⟨fun hy => ?_, fun hy => ?_⟩
      · obtain ⟨ls, rfl, hlo⟩ := let_str hy
        have hll := let_len hlo
        (repeat (first |(with_reducible first |refine we_c ?_|refine we_b ?_|refine we_a ?_|refine wa_c ?_|refine wa_n ?_|refine we_call ?_|refine we_tup ?_|refine wb_v ?_|refine wb_or ?_|refine wb_not ?_|refine ss_n ?_|refine ss_c ?_|refine ss_if ?_|refine ss_asg ?_) |(((with_reducible refine we_v (w := ?_) ?_ ?_); rotate_left; · rfl)) |(((with_reducible refine wp_ixt (w := ?_) ?_ ?_); rotate_left; · rfl)) |(((with_reducible refine ex_some (y := ?_) ?_ ?_); rotate_left; · rfl)) |(((with_reducible refine and_le ?_ ?_); · exact Nat.le_of_ble_eq_true rfl))))
        refine wp_lens (by omega) ?_
        (repeat (first |(with_reducible refine wa_n ?_) |(((with_reducible refine and_len ?_ ?_); · rfl))))
        refine (law_goals_eq tz (by omega) ls.length e a L).imp ?_
        rintro r s ⟨rfl, rfl⟩
        (repeat (first |(with_reducible refine If.n ?_) |(((with_reducible refine ex_some (y := ?_) ?_ ?_); rotate_left; · rfl))))
        refine ⟨fun hz => ?_, fun hz => ?_⟩
        · obtain ⟨ah, rfl⟩ := goals_t hz
          have hre : boxOk (.tup [x, .str ls, .tup ah, u, v, t]) = brestOk ls.length ah.length u v t := by
            simp only [boxOk, hs, hy, hz, lenS, itT, Bool.true_and]
          (repeat (first |(with_reducible first |refine we_c ?_|refine we_a ?_|refine wa_c ?_|refine wa_n ?_|refine wb_v ?_|refine wb_or ?_|refine wb_not ?_) |(((with_reducible refine we_v (w := ?_) ?_ ?_); rotate_left; · rfl))))
          refine wp_of (isi_i tu) ?_
          refine ⟨_, rfl, ?_⟩
          rcases tu.cases with rfl | ⟨i, rfl⟩ | ⟨i, rfl⟩ | ⟨s, rfl, _⟩ | ⟨us, rfl, _⟩
          · refine If.t ?_
            (repeat (first |(with_reducible first |refine we_c ?_|refine ss_c ?_|refine ss_ret ?_) |(((with_reducible refine If_tr ?_ ?_); · rfl))))
            exact no _ (by rw [hre]; rfl)
          · refine If.f ?_
            (repeat (first |(with_reducible first |refine we_c ?_|refine we_a ?_|refine wa_c ?_|refine wa_n ?_|refine wb_v ?_|refine wb_or ?_) |(((with_reducible refine we_v (w := ?_) ?_ ?_); rotate_left; · rfl))))
            refine wp_of (isi_b tu) ?_
            refine ⟨_, rfl, ?_⟩
            refine If.t ?_
            (repeat (first |(with_reducible first |refine we_c ?_|refine ss_c ?_|refine ss_ret ?_) |(((with_reducible refine If_tr ?_ ?_); · rfl))))
            exact no _ (by rw [hre]; rfl)
          · refine If.f ?_
            (repeat (first |(with_reducible first |refine we_c ?_|refine we_a ?_|refine wa_c ?_|refine wa_n ?_|refine wb_v ?_|refine wb_or ?_) |(((with_reducible refine we_v (w := ?_) ?_ ?_); rotate_left; · rfl))))
            refine wp_of (isi_b tu) ?_
            refine ⟨_, rfl, ?_⟩
            refine If.f ?_
            (repeat (first |(with_reducible first |refine we_c ?_|refine wb_b ?_|refine wp_lt ?_|refine ex_bl ?_) |(((with_reducible refine we_v (w := ?_) ?_ ?_); rotate_left; · rfl))))
            refine If.d (fun hi => ?_) (fun hi => ?_)
            · (repeat (with_reducible first |refine we_c ?_|refine ss_c ?_|refine ss_ret ?_))
              refine no _ ?_
              rw [hre]
              have : ¬ (0 ≤ i) := by omega
              cases t <;> simp only [brestOk, this, decide_false, Bool.false_and]
            · obtain ⟨m, rfl⟩ : ∃ m : Nat, i = (m : Int) := ⟨i.toNat, by omega⟩
              have h0m : (0 : Int) ≤ (m : Nat) := by omega
              (repeat (first |(with_reducible first |refine we_c ?_|refine we_a ?_|refine wa_c ?_|refine wa_n ?_|refine wb_v ?_|refine wb_or ?_|refine wb_not ?_|refine ss_n ?_|refine ss_c ?_|refine ss_if ?_) |(((with_reducible refine we_v (w := ?_) ?_ ?_); rotate_left; · rfl))))
              refine wp_of (isi_t tt) ?_
              refine ⟨_, rfl, ?_⟩
              by_cases ht : isT t = true
              · obtain ⟨es, rfl⟩ := isT_of ht
                obtain ⟨hesb, hes⟩ := tup_in tt
                refine If.f ?_
                (repeat (first |(with_reducible first |refine we_c ?_|refine we_a ?_|refine wa_c ?_|refine wa_n ?_|refine wb_b ?_|refine wb_or ?_|refine wp_eqi ?_|refine wp_lent ?_|refine ex_bl ?_) |(((with_reducible refine we_v (w := ?_) ?_ ?_); rotate_left; · rfl))))
                refine If.d (fun h0 => ?_) (fun h0 => ?_)
                · (repeat (first |(with_reducible first |refine we_c ?_|refine ss_c ?_|refine ss_ret ?_) |(((with_reducible refine If_tr ?_ ?_); · rfl))))
                  refine no _ ?_
                  have : es.isEmpty = true := by rw [List.isEmpty_iff_length_eq_zero]; omega
                  rw [hre]
                  simp only [brestOk, this, Bool.not_true, Bool.false_and, Bool.and_false]
                · have hne : es.isEmpty = false := by
                    cases es with
                    | nil => exact absurd rfl h0
                    | cons _ _ => rfl
                  (repeat (first |(with_reducible first |refine we_a ?_|refine wa_c ?_|refine wa_n ?_|refine we_call ?_|refine wb_v ?_|refine wb_not ?_|refine wp_lent ?_) |(((with_reducible refine we_v (w := ?_) ?_ ?_); rotate_left; · rfl)) |(((with_reducible refine and_len ?_ ?_); · rfl))))
                  refine wp_of (law_sized_eq tv es.length _) ?_
                  (repeat (first |(with_reducible refine If.n ?_) |(((with_reducible refine ex_some (y := ?_) ?_ ?_); rotate_left; · rfl))))
                  refine ⟨fun hsv => ?_, fun hsv => ?_⟩
                  · obtain ⟨rs, rfl, hrl⟩ := sizedB_t hsv
                    obtain ⟨_, hrs⟩ := tup_in tv
                    have hrest : brestOk ls.length ah.length (.int (m : Nat)) (.tup rs) (.tup es) = (es.all (bendOk m) && rs.all (bstateOk ls.length ah.length es.length m)) := by
                      simp only [brestOk, hne, hsv, itT, h0m, Int.toNat_natCast, decide_true, Bool.not_false, Bool.true_and]
                    (repeat (first |(with_reducible first |refine ss_n ?_|refine ss_c ?_|refine ss_for ?_|refine wi_a ?_) |(((with_reducible refine we_v (w := ?_) ?_ ?_); rotate_left; · rfl)) |(((with_reducible refine ex_some (y := ?_) ?_ ?_); rotate_left; · rfl))))
                    refine wl_inv (fun i fm s => Hd (∃ x6 M, fm = [some (.tup [x, .str ls, .tup ah, .int (m : Nat), .tup rs, .tup es]), some (.str ls), some (.tup ah), some (.int (m : Nat)), some (.tup rs), some (.tup es), x6, none, none, none] ∧ s = W e a L M ∧ ∀ q ∈ es.take i, bendOk m q = true)) (fun _ _ _ _ => trivial) (hd ⟨_, [], rfl, rfl, fun _ h => (List.not_mem_nil h).elim⟩) ?_ ?_
                    · rintro i q hq fm s ⟨x6, M, rfl, rfl, hal⟩
                      have hqm := List.mem_of_getElem? hq
                      have tq := hes q hqm
                      have htk : es.take (i + 1) = es.take i ++ [q] := by rw [List.take_succ, hq]; rfl
                      have go : bendOk m q = true → ∀ q' ∈ es.take (i + 1), bendOk m q' = true := fun hok q' hq' => by
                        rw [htk] at hq'
                        rcases List.mem_append.mp hq' with h | h
                        · exact hal q' h
                        · rw [List.mem_singleton.mp h]; exact hok
                      have bad : bendOk m q = false → boxOk (.tup [x, .str ls, .tup ah, .int (m : Nat), .tup rs, .tup es]) = false := fun hno => by
                        have : es.all (bendOk m) = false := List.all_eq_false.mpr ⟨q, hqm, by rw [hno]; exact Bool.false_ne_true⟩
                        rw [hre, hrest, this, Bool.false_and]
                      refine ⟨_, rfl, ?_⟩
                      (repeat (first |(with_reducible first |refine we_c ?_|refine wb_b ?_|refine wb_and ?_|refine ss_c ?_|refine ss_if ?_|refine wp_isnn ?_|refine If.n ?_|refine ex_bl ?_) |(((with_reducible refine we_v (w := ?_) ?_ ?_); rotate_left; · rfl))))
                      by_cases hnon : T3.isNon q = true
                      · rw [hnon]
                        refine If.t ?_
                        (repeat (first |(with_reducible refine ss_n ?_) |(((with_reducible refine If_fa ?_ ?_); · rfl))))
                        exact hd ⟨_, _, rfl, rfl, go (by simp only [bendOk, hnon, Bool.true_or])⟩
                      · have hnon' : T3.isNon q = false := by simpa using hnon
                        rw [hnon']
                        refine If.f ?_
                        (repeat (first |(with_reducible first |refine wa_c ?_|refine wa_n ?_|refine we_call ?_|refine wb_v ?_|refine wb_or ?_|refine wb_not ?_) |(((with_reducible refine we_v (w := ?_) ?_ ?_); rotate_left; · rfl)) |(((with_reducible refine and_len ?_ ?_); · rfl))))
                        refine wp_of (law_row_eq tq (by omega) m _) ?_
                        (repeat (first |(with_reducible refine If.n ?_) |(((with_reducible refine ex_some (y := ?_) ?_ ?_); rotate_left; · rfl))))
                        refine ⟨fun hr => ?_, fun hr => ?_⟩
                        · (repeat (first |(with_reducible first |refine wa_c ?_|refine wa_n ?_|refine we_call ?_|refine we_lstW ?_|refine wb_v ?_|refine wb_not ?_|refine inW_mk ?_) |(((with_reducible refine we_v (w := ?_) ?_ ?_); rotate_left; · rfl)) |(((with_reducible refine and_len ?_ ?_); · rfl)) |(((with_reducible refine and_le ?_ ?_); · exact Nat.le_of_ble_eq_true rfl))))
                          rw [W_in]
                          refine (law_once_D (b := b) (m := m) (rows := [q]) (gd := fun st => st[e.p L + M.length]? = some (.lst [q])) h1b (fun r hr' => by rw [List.mem_singleton.mp hr']; exact tq) hb (fun r hr' => by rw [List.mem_singleton.mp hr']; exact hr) e a _ (fun M' => ?_) fun M' => ?_).imp ?_
                          · rw [W_cat]
                            have : (M ++ [Ob.lst [q]] ++ M')[M.length]? = some (.lst [q]) := by simp
                            simp only [srcOf, W_get, this]
                          · rw [W_cat, W_get]
                            simp
                          · rintro r s ⟨rfl, rfl⟩
                            rw [← W_in]
                            (repeat (first |(with_reducible refine If.n ?_) |(((with_reducible refine ex_some (y := ?_) ?_ ?_); rotate_left; · rfl))))
                            refine ⟨fun ho => ?_, fun ho => ?_⟩
                            · (repeat (with_reducible refine ss_n ?_))
                              exact hd ⟨_, _, rfl, rfl, go (by simp only [bendOk, hr, ho, Bool.and_self, Bool.or_true])⟩
                            · (repeat (with_reducible first |refine we_c ?_|refine ss_c ?_|refine ss_ret ?_))
                              exact no _ (bad (by simp only [bendOk, hnon', ho, Bool.and_false, Bool.or_false]))
                        · (repeat (first |(with_reducible first |refine we_c ?_|refine ss_c ?_|refine ss_ret ?_) |(((with_reducible refine If_tr ?_ ?_); · rfl))))
                          exact no _ (bad (by simp only [bendOk, hnon', hr, Bool.false_and, Bool.or_false]))
                    · rintro fm s ⟨x6, M, rfl, rfl, hal⟩
                      dsimp only at hal
                      rw [List.take_length] at hal
                      have hall : es.all (bendOk m) = true := List.all_eq_true.mpr hal
                      rw [hall, Bool.true_and] at hrest
                      clear hal
                      (repeat (first |(with_reducible first |refine ss_c ?_|refine ss_for ?_|refine wi_a ?_) |(((with_reducible refine we_v (w := ?_) ?_ ?_); rotate_left; · rfl)) |(((with_reducible refine ex_some (y := ?_) ?_ ?_); rotate_left; · rfl))))
                      refine wl_inv (fun i fm s => Hd (∃ x7 x8 x9 M, fm = [some (.tup [x, .str ls, .tup ah, .int (m : Nat), .tup rs, .tup es]), some (.str ls), some (.tup ah), some (.int (m : Nat)), some (.tup rs), some (.tup es), x6, x7, x8, x9] ∧ s = W e a L M ∧ ∀ q ∈ rs.take i, bstateOk ls.length ah.length es.length m q = true)) (fun _ _ _ _ => trivial) (hd ⟨_, _, _, _, rfl, rfl, fun _ h => (List.not_mem_nil h).elim⟩) ?_ ?_
                      · rintro i q hq fm s ⟨x7, x8, x9, M, rfl, rfl, hal⟩
                        have hqm := List.mem_of_getElem? hq
                        have tq := hrs q hqm
                        have htk : rs.take (i + 1) = rs.take i ++ [q] := by rw [List.take_succ, hq]; rfl
                        have bad : bstateOk ls.length ah.length es.length m q = false → boxOk (.tup [x, .str ls, .tup ah, .int (m : Nat), .tup rs, .tup es]) = false := fun hno => by
                          have : rs.all (bstateOk ls.length ah.length es.length m) = false := List.all_eq_false.mpr ⟨q, hqm, by rw [hno]; exact Bool.false_ne_true⟩
                          rw [hre, hrest, this]
                        refine ⟨_, rfl, ?_⟩
                        (repeat (first |(with_reducible first |refine we_a ?_|refine wa_c ?_|refine wa_n ?_|refine we_call ?_|refine wb_v ?_|refine wb_not ?_|refine ss_c ?_|refine ss_if ?_) |(((with_reducible refine we_v (w := ?_) ?_ ?_); rotate_left; · rfl))))
                        refine wp_lens (by omega) ?_
                        (repeat (first |(with_reducible refine wa_n ?_) |(((with_reducible refine and_len ?_ ?_); · rfl))))
                        refine wp_of (law_sized_eq tq ls.length _) ?_
                        refine ⟨_, rfl, ?_⟩
                        by_cases hsq : sizedB ls.length q = true
                        · obtain ⟨ps, rfl, hpl⟩ := sizedB_t hsq
                          obtain ⟨_, hps⟩ := tup_in tq
                          rw [hsq]
                          refine If.f ?_
                          (repeat (first |(with_reducible first |refine ss_n ?_|refine ss_c ?_|refine ss_for ?_|refine wi_a ?_) |(((with_reducible refine we_v (w := ?_) ?_ ?_); rotate_left; · rfl)) |(((with_reducible refine ex_some (y := ?_) ?_ ?_); rotate_left; · rfl))))
                          refine wl_inv (fun j fm s => Hd (∃ x8 x9 M, fm = [some (.tup [x, .str ls, .tup ah, .int (m : Nat), .tup rs, .tup es]), some (.str ls), some (.tup ah), some (.int (m : Nat)), some (.tup rs), some (.tup es), x6, some (.tup ps), x8, x9] ∧ s = W e a L M ∧ ∀ p ∈ ps.take j, bpartOk ah.length es.length m p = true)) (fun _ _ _ _ => trivial) (hd ⟨_, _, _, rfl, rfl, fun _ h => (List.not_mem_nil h).elim⟩) ?_ ?_
                          · rintro j p hp fm s ⟨x8, x9, M, rfl, rfl, hal2⟩
                            have hpm := List.mem_of_getElem? hp
                            have tp := hps p hpm
                            have htk2 : ps.take (j + 1) = ps.take j ++ [p] := by rw [List.take_succ, hp]; rfl
                            refine ⟨_, rfl, ?_⟩
                            (repeat (first |(with_reducible first |refine we_a ?_|refine wa_c ?_|refine wa_n ?_|refine we_call ?_|refine wb_v ?_|refine wb_or ?_|refine wb_not ?_|refine ss_c ?_|refine ss_if ?_|refine wp_lent ?_) |(((with_reducible refine we_v (w := ?_) ?_ ?_); rotate_left; · rfl)) |(((with_reducible refine and_len ?_ ?_); · rfl))))
                            refine wp_of (law_sized_eq tp ah.length _) ?_
                            refine ⟨_, rfl, ?_⟩
                            by_cases hsp : sizedB ah.length p = true
                            · obtain ⟨en, rfl, hel⟩ := sizedB_t hsp
                              obtain ⟨heb, hex⟩ := tup_in tp
                              rw [hsp]
                              refine If.f ?_
                              (repeat (with_reducible first |refine we_c ?_|refine wb_b ?_))
                              refine wp_lcP (ws := en) (fun _ => true) (fun x => .bl (entryOk es.length m x)) rfl (by omega) (fun u hum => ?_) ?_
                              · refine ⟨_, rfl, fun M' _ => ?_⟩
                                refine wb_yes ⟨rfl, rfl, fun _ => ?_⟩
                                (repeat (first |(with_reducible first |refine we_a ?_|refine wa_c ?_|refine wa_n ?_|refine we_call ?_|refine wp_lent ?_) |(((with_reducible refine we_v (w := ?_) ?_ ?_); rotate_left; · rfl)) |(((with_reducible refine and_len ?_ ?_); · rfl))))
                                rw [W_in]
                                refine (law_entry_D (hex u hum) hb es.length m e a _).imp ?_
                                rintro r s ⟨rfl, rfl⟩
                                rw [← W_in]
                                exact ⟨rfl, rfl⟩
                              · rw [List.filter_eq_self.mpr (fun _ _ => rfl)]
                                refine wp_noW (bs := en.map (entryOk es.length m)) (by simp) ?_
                                have hro : (en.map (entryOk es.length m)).all id = bpartOk ah.length es.length m (.tup en) := by rw [List.all_map]; simp [bpartOk, hel]
                                rw [hro]
                                (repeat (with_reducible first |refine If.n ?_|refine ex_bl ?_))
                                refine ⟨fun hg => ?_, fun hg => ?_⟩
                                · (repeat (with_reducible refine ss_n ?_))
                                  refine hd ⟨_, _, _, rfl, rfl, fun q' hq' => ?_⟩
                                  rw [htk2] at hq'
                                  rcases List.mem_append.mp hq' with h | h
                                  · exact hal2 q' h
                                  · rw [List.mem_singleton.mp h]; exact hg
                                · (repeat (with_reducible first |refine we_c ?_|refine ss_c ?_|refine ss_ret ?_))
                                  exact no _ (bad (bstate_no hpm hg))
                            · have hsp' : sizedB ah.length p = false := by simpa using hsp
                              rw [hsp']
                              refine If.t ?_
                              (repeat (first |(with_reducible first |refine we_c ?_|refine ss_c ?_|refine ss_ret ?_) |(((with_reducible refine If_tr ?_ ?_); · rfl))))
                              exact no _ (bad (bstate_no hpm (bpart_no hsp')))
                          · rintro fm s ⟨x8, x9, M, rfl, rfl, hal2⟩
                            dsimp only at hal2
                            rw [List.take_length] at hal2
                            (repeat (with_reducible refine ss_n ?_))
                            refine hd ⟨_, _, _, _, rfl, rfl, fun q' hq' => ?_⟩
                            rw [htk] at hq'
                            rcases List.mem_append.mp hq' with h | h
                            · exact hal q' h
                            · rw [List.mem_singleton.mp h]
                              have : ps.all (bpartOk ah.length es.length m) = true := List.all_eq_true.mpr hal2
                              simp only [bstateOk, hpl, this, decide_true, Bool.and_self]
                        · have hsq' : sizedB ls.length q = false := by simpa using hsq
                          rw [hsq']
                          refine If.t ?_
                          (repeat (with_reducible first |refine we_c ?_|refine ss_c ?_|refine ss_ret ?_))
                          exact no _ (bad (bstate_sz hsq'))
                      · rintro fm s ⟨x7, x8, x9, M, rfl, rfl, hal⟩
                        dsimp only at hal
                        rw [List.take_length] at hal
                        (repeat (with_reducible first |refine we_c ?_|refine ss_c ?_|refine ss_ret ?_))
                        rw [W_fin_b, hre, hrest]
                        refine ⟨?_, rfl⟩
                        have : rs.all (bstateOk ls.length ah.length es.length m) = true := List.all_eq_true.mpr hal
                        rw [this]
                  · (repeat (with_reducible first |refine we_c ?_|refine ss_c ?_|refine ss_ret ?_))
                    refine no _ ?_
                    rw [hre]
                    simp only [brestOk, hsv, Bool.and_false, Bool.false_and]
              · have ht' : isT t = false := by simpa using ht
                rw [ht']
                refine If.t ?_
                (repeat (first |(with_reducible first |refine we_c ?_|refine ss_c ?_|refine ss_ret ?_) |(((with_reducible refine If_tr ?_ ?_); · rfl))))
                exact no _ (by rw [hre, rest_es ht'])
          · refine If.t ?_
            (repeat (first |(with_reducible first |refine we_c ?_|refine ss_c ?_|refine ss_ret ?_) |(((with_reducible refine If_tr ?_ ?_); · rfl))))
            exact no _ (by rw [hre]; rfl)
          · refine If.t ?_
            (repeat (first |(with_reducible first |refine we_c ?_|refine ss_c ?_|refine ss_ret ?_) |(((with_reducible refine If_tr ?_ ?_); · rfl))))
            exact no _ (by rw [hre]; rfl)
        · (repeat (first |(with_reducible first |refine we_c ?_|refine ss_c ?_|refine ss_ret ?_) |(((with_reducible refine If_tr ?_ ?_); · rfl))))
          refine no _ ?_
          simp only [boxOk, lenS, hz, Bool.and_false, Bool.false_and]
      · (repeat (with_reducible first |refine we_c ?_|refine ss_c ?_|refine ss_ret ?_))
        refine no _ ?_
        simp only [boxOk, hy, Bool.and_false, Bool.false_and]
    · (repeat (first |(with_reducible first |refine we_c ?_|refine ss_c ?_|refine ss_ret ?_) |(((with_reducible refine If_tr ?_ ?_); · rfl))))
      refine no _ ?_
      simp only [boxOk, hs, Bool.false_and]
  · have hsz' : sizedB 6 w = false := by simpa using hsz
    rw [hsz']
    refine If.t ?_
    (repeat (first |(with_reducible first |refine we_c ?_|refine ss_c ?_|refine ss_ret ?_) |(((with_reducible refine If_tr ?_ ?_); · rfl))))
    rw [W_fin_b, boxOk_len hsz']
    exact And.intro rfl rfl
end L_k14
set_option maxHeartbeats 4000000
/-! drawn box machines of the first family as things, and as right ones -/
namespace T3
open PySem PySem.Spec PyProof.Rows L2
theorem td_int {b n : Nat} {i : Int} : TD b n (.int i) := TD.ofA (.inr (.inr (.inl ⟨_, rfl⟩))) n
theorem td_non {b n : Nat} : TD b n .non := TD.ofA (.inl rfl) n
theorem td_bl {b n : Nat} {i : Bool} : TD b n (.bl i) := TD.ofA (.inr (.inl ⟨_, rfl⟩)) n
theorem td_tup {b n : Nat} {ws : List Va} (hl : ws.length ≤ b) (h : ∀ x ∈ ws, TD b n x) : TD b (n + 1) (.tup ws) := .inr ⟨ws, rfl, hl, h⟩
theorem td_map {α : Type} {b n : Nat} {f : α → Va} {xs : List α} (hl : xs.length ≤ b) (h : ∀ x ∈ xs, TD b n (f x)) : TD b (n + 1) (.tup (xs.map f)) := td_tup (by rw [List.length_map]; exact hl) fun w hw => by
  obtain ⟨x, hx, rfl⟩ := List.mem_map.mp hw
  exact h x hx
theorem str5_abc {t : List Nat} (h : Str5 t) : ∀ c ∈ t, c ∈ abc := by
  rcases h with rfl | rfl | rfl | rfl | rfl | rfl <;> decide
theorem row_td {b : Nat} {bs : List Nat} {r : List It} (h : RowOk bs r) (hl : 2 * bs.length + 1 ≤ b) (h2 : 2 ≤ b) : TD b 1 (rowVa r) := td_map (by have := h.len; omega) fun i hi => by
  cases i with
  | inl n => exact td_int
  | inr t =>
    have := (h.str t hi).1
    exact td_str (by have := this.len; omega) (cps_small fun c hc => by have := abc_low c (str5_abc this c hc); omega)
theorem sub_few {m : Nat} {rows : List (List It)} (hn : (rows.flatMap boxN).Nodup) (hl : ∀ x ∈ rows.flatMap boxN, x < m) {r : List It} (hr : r ∈ rows) : (boxN r).length ≤ m := by
  refine few m _ ?_ fun x hx => hl x (List.mem_flatMap.mpr ⟨r, hr, hx⟩)
  obtain ⟨s, t, rfl⟩ := List.append_of_mem hr
  rw [List.flatMap_append, List.flatMap_cons, List.nodup_append] at hn
  exact (List.nodup_append.mp hn.2.1).1
theorem news_td {b m : Nat} {rows : List (List It)} (h : NewsOk m rows) (hm : 2 * m + 1 ≤ b) (h2 : 2 ≤ b) : TD b 2 (newsVa rows) := td_map (by rw [h.len]; omega) fun r hr => by
  obtain ⟨bs, hb⟩ := h.row r hr
  have := sub_few h.nd h.lt hr
  rw [hb.box] at this
  exact row_td hb (by omega) h2
theorem ent_td {b S m : Nat} {x : Ent} (h : EntOk S m x) (hm : 2 * m + 1 ≤ b) (h2 : 2 ≤ b) : TD b 3 (entV x) := by
  cases x with
  | none => exact td_non
  | some p =>
    refine td_tup (by show 2 ≤ b; exact h2) fun w hw => ?_
    simp only [List.mem_cons, List.not_mem_nil, or_false] at hw
    rcases hw with rfl | rfl
    · exact td_int
    · exact news_td h.2 hm h2
theorem end_td {b m : Nat} {x : Option (List It)} (h : EndOk m x) (hm : 2 * m + 1 ≤ b) (h2 : 2 ≤ b) : TD b 1 (endV x) := by
  cases x with
  | none => exact td_non
  | some r =>
    obtain ⟨bs, h1, h3, h4⟩ := h
    have := few m bs h3 h4
    exact row_td h1 (by omega) h2
theorem goalsA_td {b : Nat} {gs : List (List Nat)} {many width : Nat} (h : GW gs many width) (hm : many ≤ b) (hw : width ≤ b) : TD b 2 (goalsV gs) := by
  refine td_tup (by rw [List.length_map, h.len]; exact hm) fun x hx => ?_
  obtain ⟨r, hr, rfl⟩ := List.mem_map.mp hx
  refine td_tup (by rw [List.length_map, (h.row r hr).1]; exact hw) fun y hy => ?_
  obtain ⟨g, _, rfl⟩ := List.mem_map.mp hy
  exact td_int
/-- the parts of a drawn box machine as things -/
theorem rows_td {b : Nat} {ls : List Nat} {ahead : List (List Nat)} {many : Nat} {rows : List (List (List Ent))} {ends : List (Option (List It))} (h : BW ls ahead many rows ends) (hl : ls.length ≤ b) (ha : ahead.length ≤ b) (hm : 2 * many + 1 ≤ b) (he : ends.length ≤ b) (h2 : 2 ≤ b) : TD b 6 (rowsVa rows) :=
  td_map (by rw [h.len]; exact he) fun s hs => td_map (by rw [(h.st s hs).1]; exact hl) fun p hp => td_map (by rw [((h.st s hs).2 p hp).1]; exact ha) fun x hx => ent_td (((h.st s hs).2 p hp).2 x hx) hm h2
theorem ends_td {b : Nat} {ls : List Nat} {ahead : List (List Nat)} {many : Nat} {rows : List (List (List Ent))} {ends : List (Option (List It))} (h : BW ls ahead many rows ends) (hm : 2 * many + 1 ≤ b) (he : ends.length ≤ b) (h2 : 2 ≤ b) : TD b 2 (endsVa ends) :=
  td_map he fun x hx => end_td (h.ends x hx) hm h2
theorem box_td {b : Nat} {ls : List Nat} {ahead : List (List Nat)} {many : Nat} {rows : List (List (List Ent))} {ends : List (Option (List It))} (h : BW ls ahead many rows ends) (hc : Cps ls) (hl : ls.length ≤ b) (ha : ahead.length ≤ b) (hm : 2 * many + 1 ≤ b) (he : ends.length ≤ b) (h2 : 6 ≤ b) : TD b 7 (boxVa ls ahead many rows ends) := by
  refine td_tup (by show 6 ≤ b; exact h2) fun x hx => ?_
  simp only [List.mem_cons, List.not_mem_nil, or_false] at hx
  rcases hx with rfl | rfl | rfl | rfl | rfl | rfl
  · exact td_str (by show 5 ≤ b; omega) (cps_small (by decide))
  · exact td_str hl hc
  · exact TD.lift (by omega) (goalsA_td h.goals ha hl)
  · exact td_int
  · exact rows_td h hl ha hm he (by omega)
  · exact TD.lift (by omega) (ends_td h hm he (by omega))
/-! they are right -/
theorem adjB_cons (x y : Va) (ws : List Va) : adjB (x :: y :: ws) = (!(isSt x && isSt y) && adjB (y :: ws)) := by
  unfold adjB
  simp only [List.length_cons, Nat.add_sub_cancel]
  rw [List.range_succ_eq_map, List.all_cons, List.all_map]
  rfl
theorem adj_no2 : ∀ {r : List It}, noAdj r = true → adjB (r.map itV) = true
  | [], _ => rfl
  | [x], _ => rfl
  | x :: y :: r, h => by
    rw [List.map_cons, List.map_cons, adjB_cons, ← List.map_cons]
    cases x with
    | inl n =>
      have : noAdj (y :: r) = true := by simpa [noAdj] using h
      rw [adj_no2 this]; rfl
    | inr s =>
      cases y with
      | inl n =>
        have : noAdj (.inl n :: r) = true := by simpa [noAdj] using h
        rw [adj_no2 this]; rfl
      | inr t => simp [noAdj] at h
theorem boxI_row (r : List It) : (r.map itV).filterMap boxI = (boxN r).map Int.ofNat := by
  induction r with
  | nil => rfl
  | cons i r ih =>
    rw [List.map_cons, List.filterMap_cons, ih]
    cases i <;> rfl
theorem boxesI_rows (rows : List (List It)) : boxesI (rows.map rowVa) = (rows.flatMap boxN).map Int.ofNat := by
  induction rows with
  | nil => rfl
  | cons r rs ih => rw [List.map_cons, boxesI_cons, ih, List.flatMap_cons, List.map_append, ← boxI_row]; rfl
theorem nodup_ofNat {l : List Nat} (h : l.Nodup) : (l.map Int.ofNat).Nodup := by
  rw [List.nodup_iff_pairwise_ne, List.pairwise_map]
  exact h.imp fun {a b} hab e => hab (Int.ofNat_inj.mp e)
theorem row_ok {m : Nat} {bs : List Nat} {r : List It} (h : RowOk bs r) (hl : ∀ x ∈ bs, x < m) : browOk m (rowVa r) = true := by
  have h1 : (r.map itV).all (itemOk m) = true := by
    rw [List.all_eq_true]
    intro w hw
    obtain ⟨i, hi, rfl⟩ := List.mem_map.mp hw
    cases i with
    | inl n =>
      have : n ∈ boxN r := List.mem_filterMap.mpr ⟨_, hi, rfl⟩
      rw [h.box] at this
      have := hl n this
      simp only [itV, itemOk, goalOk, decide_eq_true_eq]
      omega
    | inr t =>
      obtain ⟨h5, hne⟩ := h.str t hi
      have h6 : (t.all fun c => decide (c ∈ abc)) = true := List.all_eq_true.mpr fun c hc => decide_eq_true (str5_abc h5 c hc)
      have h7 : t.isEmpty = false := by cases t <;> simp at hne ⊢
      simp only [itV, itemOk, h6, h7, Bool.not_false, Bool.and_self]
  simp only [browOk, h1, adj_no2 h.adj, Bool.and_self]
theorem news_ok {m : Nat} {rows : List (List It)} (h : NewsOk m rows) : decide ((rows.map rowVa).length = m) = true ∧ (rows.map rowVa).all (browOk m) = true ∧ onceB (rows.map rowVa) = true := by
  refine ⟨decide_eq_true (by rw [List.length_map]; exact h.len), List.all_eq_true.mpr fun w hw => ?_, ?_⟩
  · obtain ⟨r, hr, rfl⟩ := List.mem_map.mp hw
    obtain ⟨bs, hb⟩ := h.row r hr
    exact row_ok hb fun x hx => h.lt x (List.mem_flatMap.mpr ⟨r, hr, by rw [hb.box]; exact hx⟩)
  · unfold onceB
    rw [boxesI_rows]
    exact decide_eq_true (nodup_ofNat h.nd)
theorem ent_ok {S m : Nat} {x : Ent} (h : EntOk S m x) : entryOk S m (entV x) = true := by
  cases x with
  | none => rfl
  | some p =>
    obtain ⟨h1, h2, h3⟩ := news_ok h.2
    have h4 : goalOk S (.int p.1) = true := by
      have := h.1
      simp only [goalOk, decide_eq_true_eq]
      omega
    simp only [entV, entryOk, h1, h2, h3, h4, Bool.and_self]
theorem end_ok {m : Nat} {x : Option (List It)} (h : EndOk m x) : bendOk m (endV x) = true := by
  cases x with
  | none => rfl
  | some r =>
    obtain ⟨bs, h1, h2, h3⟩ := h
    have h4 : onceB [rowVa r] = true := by
      unfold onceB
      rw [show [rowVa r] = [r].map rowVa from rfl, boxesI_rows]
      refine decide_eq_true (nodup_ofNat ?_)
      rw [List.flatMap_cons, List.flatMap_nil, List.append_nil, h1.box]
      exact h2
    simp only [endV, bendOk, row_ok h1 h3, h4, Bool.and_self, Bool.or_true]
theorem goalsA_ok {gs : List (List Nat)} {many width : Nat} (h : GW gs many width) (hm : 1 ≤ many) : goalsOk width (goalsV gs) = true := by
  have h1 : (gs.map rowV).isEmpty = false := by
    have := h.len
    cases gs with
    | nil => simp at this; omega
    | cons _ _ => rfl
  have h2 : (gs.map rowV).all (rowOk width (gs.map rowV).length) = true := by
    rw [List.all_eq_true]
    intro x hx
    obtain ⟨r, hr, rfl⟩ := List.mem_map.mp hx
    obtain ⟨hrl, hrg⟩ := h.row r hr
    have h3 : (r.map fun g : Nat => Va.int g).all (goalOk (gs.map rowV).length) = true := by
      rw [List.all_eq_true]
      intro y hy
      obtain ⟨g, hg, rfl⟩ := List.mem_map.mp hy
      have := hrg g hg
      rw [List.length_map, h.len]
      simp only [goalOk, decide_eq_true_eq]
      omega
    simp only [rowOk, List.length_map, hrl, decide_true, Bool.true_and]
    rw [List.length_map] at h3
    exact h3
  simp only [goalsOk, h1, h2, Bool.not_false, Bool.and_self]
theorem box_ok {ls : List Nat} {ahead : List (List Nat)} {many : Nat} {rows : List (List (List Ent))} {ends : List (Option (List It))} (h : BW ls ahead many rows ends) : boxOk (boxVa ls ahead many rows ends) = lettersOk ls := by
  have h1 := goalsA_ok h.goals h.cpos
  have h0 : (0 : Int) ≤ (many : Nat) := by omega
  have hne : (ends.map endV).isEmpty = false := by
    have := h.pos
    cases ends with
    | nil => simp at this
    | cons _ _ => rfl
  have h2 : (ends.map endV).all (bendOk many) = true := List.all_eq_true.mpr fun w hw => by
    obtain ⟨x, hx, rfl⟩ := List.mem_map.mp hw
    exact end_ok (h.ends x hx)
  have h3 : (rows.map stVa).all (bstateOk ls.length ahead.length ends.length many) = true := List.all_eq_true.mpr fun w hw => by
    obtain ⟨s, hs, rfl⟩ := List.mem_map.mp hw
    obtain ⟨e1, e2⟩ := h.st s hs
    have h4 : (s.map partVa).all (bpartOk ahead.length ends.length many) = true := List.all_eq_true.mpr fun w hw => by
      obtain ⟨p, hp, rfl⟩ := List.mem_map.mp hw
      obtain ⟨e3, e4⟩ := e2 p hp
      have h5 : (p.map entV).all (entryOk ends.length many) = true := List.all_eq_true.mpr fun w hw => by
        obtain ⟨x, hx, rfl⟩ := List.mem_map.mp hw
        exact ent_ok (e4 x hx)
      simp only [bpartOk, h5, List.length_map, e3, decide_true, Bool.and_self]
    simp only [bstateOk, h4, List.length_map, e1, decide_true, Bool.and_self]
  have h6 : sizedB (ends.map endV).length (rowsVa rows) = true := decide_eq_true (by rw [List.length_map, List.length_map]; exact h.len)
  rw [List.length_map] at h6
  have h7 : isW boxesW (.str [98, 111, 120, 101, 115]) = true := rfl
  simp only [boxOk, brestOk, lenS, itT, letOk, h7, h1, h0, hne, h2, h6, List.length_map, Int.toNat_natCast, h3, decide_true, Bool.not_false, Bool.true_and, Bool.and_true]
end T3
set_option maxHeartbeats 8000000
/-! a part put in a place, rows of other sizes, a list of things that grows (turned from this work's own texts of law k17) -/
namespace T3
open PySem PySem.Spec PyProof.Rows L2
theorem wp_eqW {α : Type} {x : Option (α × Sto)} {w : α} {st : Sto} (h : Wp x fun r s => r = w ∧ s = st) : x = some (w, st) := by
  obtain ⟨r, s, e, rfl, rfl⟩ := h
  exact e
noncomputable def c_put : Fn := fn 3 3 (sCons (sRet (eB gAdd (eB gAdd (eCut (eV 0) pNo (pSo (eV 1))) (eTup (aC (eV 2) aN))) (eCut (eV 0) (pSo (eB gAdd (eV 1) (eC (.int 1)))) pNo)))
  sNil)
noncomputable def c_sizes : Fn := fn 1 1 (sCons (sRet (eLst (aC (eCut (eV 0) pNo (pSo (eB gSub (eA gLen (aC (eV 0) aN)) (eC (.int 1))))) (aC (eB gAdd (eV 0) (eCut (eV 0) pNo (pSo (eC (.int 1))))) (aC (eCut (eV 0) (pSo (eC (.int 1))) pNo) (aC (eIf (bB gGt (eA gLen (aC (eV 0) aN)) (eC (.int 0))) (eB gIx (eV 0) (eC (.int 0))) (eC (.int 0))) aN))))))
  sNil)
theorem fin_id {st : Sto} {w : Va} : fin st w st = (w, st) := by
  unfold fin
  split
  · rw [List.take_length]
  · rfl
/-! a part put in a place -/
theorem put_eq {ws : List Va} {k : Nat} (x : Va) (hk : k < ws.length) (hl : ws.length ≤ 1000) (st : Sto) : c_put [.tup ws, .int (k : Nat), x] st = some (.tup (ws.set k x), st) := by
  refine wp_eqW ?_
  unfold c_put
  refine wp_fn rfl ?_
  (repeat (first |(with_reducible first |refine we_b ?_|refine wa_c ?_|refine wa_n ?_|refine we_tup ?_|refine we_cut ?_|refine wo_n ?_|refine wo_s ?_|refine ss_c ?_|refine ss_ret ?_|refine wp_cutT ?_|refine ex_int ?_) |(((with_reducible refine we_v (w := ?_) ?_ ?_); rotate_left; · rfl)) |(((with_reducible refine and_le ?_ ?_); · exact Nat.le_of_ble_eq_true rfl))))
  rw [cut_to]
  refine wp_at (by rw [List.length_take]; simp; omega) ?_
  (repeat (first |(with_reducible first |refine we_c ?_|refine we_b ?_|refine we_cut ?_|refine wo_n ?_|refine wo_s ?_|refine wp_ai ?_|refine wp_cutT ?_|refine ex_int ?_) |(((with_reducible refine we_v (w := ?_) ?_ ?_); rotate_left; · rfl))))
  rw [show (k : Int) + 1 = ((k + 1 : Nat) : Int) by omega, cut_from]
  refine wp_at (by rw [List.length_append, List.length_take, List.length_drop]; simp; omega) ?_
  rw [fin_id]
  refine And.intro ?_ rfl
  dsimp only
  congr 1
  rw [List.set_eq_take_append_cons_drop, if_pos hk, List.append_assoc]
  rfl
theorem set_td {b n : Nat} {ws : List Va} {k : Nat} {x : Va} (hl : ws.length ≤ b) (hws : ∀ u ∈ ws, TD b n u) (hx : TD b n x) : TD b (n + 1) (.tup (ws.set k x)) :=
  td_tup (by rw [List.length_set]; exact hl) fun u hu => by
    rcases List.mem_or_eq_of_mem_set hu with h | h
    · exact hws u h
    · rw [h]; exact hx
/-- what is left of a row, or more -/
theorem sizes_D {b n : Nat} {ws : List Va} (h : TD b n (.tup ws)) (hb : b ≤ 100) (e : Dw) (a : Nat) (L : Sto) : Wp (c_sizes [.tup ws] (W e a L [])) fun r s => ∃ zs : List Va, r = .ref (e.p L + 0) ∧ s = W e a L [.lst zs] ∧ zs.length = 4 ∧ ∀ z ∈ zs, TD (b + 1) n z := by
  obtain ⟨hl, hx⟩ := tup_in h
  unfold c_sizes
  refine wp_fn rfl ?_
  have mk : ∀ us : List Va, us.length ≤ b + 1 → (∀ u ∈ us, u ∈ ws) → TD (b + 1) n (.tup us) := fun us h1 h2 => by
    rcases h.cases with h | ⟨i, h⟩ | ⟨i, h⟩ | ⟨s, h, _⟩ | ⟨ws', h, hl', hx'⟩
    · cases h
    · cases h
    · cases h
    · cases h
    · cases h
      have hnn : n - 1 + 1 = n := by
        cases n with
        | zero => rcases (show TD b 0 (.tup ws) by assumption) with h | ⟨i, h⟩ | ⟨i, h⟩ | ⟨s, h, _⟩ <;> cases h
        | succ n => rfl
      rw [← hnn]
      exact td_tup h1 fun u hu => TD.wide (by omega) (hx u (h2 u hu))
  have done : ∀ y : Va, TD (b + 1) n y → ∀ lo : Option Int, ∃ zs : List Va, (fin (W e a L []) (.ref (e.p L + 0)) (W e a L [.lst [.tup (cutL ws none lo), .tup (ws ++ cutL ws none (some 1)), .tup (cutL ws (some 1) none), y]])).1 = .ref (e.p L + 0) ∧
      (fin (W e a L []) (.ref (e.p L + 0)) (W e a L [.lst [.tup (cutL ws none lo), .tup (ws ++ cutL ws none (some 1)), .tup (cutL ws (some 1) none), y]])).2 = W e a L [.lst zs] ∧ zs.length = 4 ∧ ∀ z ∈ zs, TD (b + 1) n z := fun y hy lo => by
    refine ⟨[.tup (cutL ws none lo), .tup (ws ++ cutL ws none (some 1)), .tup (cutL ws (some 1) none), y], fin1, ?_, rfl, ?_⟩
    rotate_left
    · intro z hz
      simp only [List.mem_cons, List.not_mem_nil, or_false] at hz
      rcases hz with rfl | rfl | rfl | rfl
      · exact mk _ (Nat.le_trans (cutL_len _ _ _) (by omega)) fun u hu => cutL_mem hu
      · refine mk _ ?_ fun u hu => ?_
        · rw [show (1 : Int) = ((1 : Nat) : Int) from rfl, cut_to, List.length_append, List.length_take]
          omega
        · rcases List.mem_append.mp hu with h | h
          · exact h
          · exact cutL_mem h
      · exact mk _ (Nat.le_trans (cutL_len _ _ _) (by omega)) fun u hu => cutL_mem hu
      · exact hy
    · unfold fin
      rw [if_neg]
      intro hc
      have hu := hc.1
      rw [und_ref, decide_eq_true_eq, W_len] at hu
      simp at hu
  (repeat (first |(with_reducible first |refine we_c ?_|refine we_b ?_|refine we_a ?_|refine wa_c ?_|refine wa_n ?_|refine we_lstW ?_|refine we_cut ?_|refine wo_n ?_|refine wo_s ?_|refine ss_c ?_|refine ss_ret ?_|refine wp_si ?_|refine wp_lent ?_|refine wp_cutT ?_|refine ex_int ?_) |(((with_reducible refine we_v (w := ?_) ?_ ?_); rotate_left; · rfl))))
  refine wp_at (by have := cutL_len ws none (some (1 : Int)); omega) ?_
  (repeat (first |(with_reducible first |refine we_c ?_|refine we_a ?_|refine wa_c ?_|refine wa_n ?_|refine we_if ?_|refine we_cut ?_|refine wo_n ?_|refine wo_s ?_|refine wb_b ?_|refine wp_gt ?_|refine wp_lent ?_|refine wp_cutT ?_|refine ex_bl ?_|refine ex_int ?_) |(((with_reducible refine we_v (w := ?_) ?_ ?_); rotate_left; · rfl))))
  cases hws : ws with
  | nil =>
    subst hws
    refine If_fa rfl ?_
    (repeat (first |(with_reducible first |refine we_c ?_|refine wa_n ?_|refine inW_mk ?_) |(((with_reducible refine and_le ?_ ?_); · exact Nat.le_of_ble_eq_true rfl))))
    exact done (.int 0) td_int _
  | cons w0 wr =>
    rw [← hws]
    refine If_tr (by rw [hws]; simp) ?_
    (repeat (first |(with_reducible first |refine we_c ?_|refine we_b ?_) |(((with_reducible refine we_v (w := ?_) ?_ ?_); rotate_left; · rfl))))
    refine wp_ixt (w := w0) (by rw [hws]; exact atI_0) ?_
    (repeat (first |(with_reducible first |refine wa_n ?_|refine inW_mk ?_) |(((with_reducible refine and_le ?_ ?_); · exact Nat.le_of_ble_eq_true rfl))))
    exact done w0 (TD.wide (by omega) (TD.lift (by omega) (hx w0 (by rw [hws]; exact List.mem_cons_self)))) _
theorem td_n {b n : Nat} : TD b n .non := TD.ofA (.inl rfl) n
theorem td_b {b n : Nat} {i : Bool} : TD b n (.bl i) := TD.ofA (.inr (.inl ⟨_, rfl⟩)) n
theorem td_s {n : Nat} {s : List Nat} (hl : s.length ≤ 12) (hs : ∀ c ∈ s, c < 128) : TD 12 n (.str s) := td_str hl (cps_small hs)
theorem td_0 {b n : Nat} : TD b (n + 1) (.tup []) := td_tup (Nat.zero_le _) fun _ h => (List.not_mem_nil h).elim
theorem td_l {n : Nat} : ∀ {ws : List Va}, ws.length ≤ 12 → (∀ x ∈ ws, TD 12 n x) → TD 12 (n + 1) (.tup ws) := fun hl h => td_tup hl h
theorem td_up {b n m : Nat} {w : Va} (hb : b ≤ 12) (hn : n ≤ m) (h : TD b n w) : TD 12 m w := TD.lift hn (TD.wide hb h)
/-! the list of things -/
def Tk (k N : Nat) (M : Sto) : Prop := ∃ ts, M[k]? = some (.lst ts) ∧ ts.length ≤ N ∧ ∀ t ∈ ts, TD 12 9 t
theorem Tk.push {k N : Nat} {M G : Sto} (h : Tk k N M) : Tk k N (M ++ G) := by
  obtain ⟨ts, h1, h2, h3⟩ := h
  exact ⟨ts, at_push h1, h2, h3⟩
theorem Tk.le {k N N' : Nat} {M : Sto} (h : Tk k N M) (hN : N ≤ N') : Tk k N' M := by
  obtain ⟨ts, h1, h2, h3⟩ := h
  exact ⟨ts, h1, by omega, h3⟩
section
variable {e : Dw} {a : Nat} {L M : Sto} {Q : Va → Sto → Prop}
theorem and_T {k N : Nat} {p : Prop} (h : Tk k N M) (q : p) : hasTy "list" (.ref (e.p L + k)) (W e a L M) = true ∧ p := by
  obtain ⟨ts, h1, _, _⟩ := h
  exact ⟨hty_W h1, q⟩
theorem wp_appT {k N : Nat} {y : Va} (h : Tk k N M) (hN : N < 1000) (hy : TD 12 9 y) (q : ∀ M', Tk k (N + 1) M' → (∀ j o, j ≠ k → M[j]? = some o → M'[j]? = some o) → Q .non (W e a L M')) : Wp (gApp (.ref (e.p L + k)) [y] (W e a L M)) Q := by
  obtain ⟨ts, h1, h2, h3⟩ := h
  refine wp_appW h1 (by omega) (q _ ⟨_, at_set h1, by rw [List.length_append]; simp; omega, fun t ht => ?_⟩ fun j o hj ho => at_set2 ho (Ne.symm hj))
  rcases List.mem_append.mp ht with h | h
  · exact h3 t h
  · rw [List.mem_singleton.mp h]; exact hy
theorem sizes_M {b n : Nat} {ws : List Va} (h : TD b n (.tup ws)) (hb : b ≤ 11) (q : ∀ zs : List Va, zs.length = 4 → (∀ z ∈ zs, TD 12 n z) → Q (.ref (e.p L + M.length)) (W e a L (M ++ [.lst zs]))) : Wp (c_sizes [.tup ws] (W e a L M)) Q := by
  rw [W_in]
  refine (sizes_D h (by omega) e a (L ++ M)).imp ?_
  rintro r s ⟨zs, rfl, rfl, hl, hz⟩
  rw [W_cat, p_in, Nat.add_zero]
  exact q zs hl fun z hz' => TD.wide (by omega) (hz z hz')
end
/-- a loop that appends, one thing for each item of a list that stands -/
theorem app_loop {e : Dw} {c : Nat} {L M : Sto} {v g k N l : Nat} {E : Ev} {fm : Fm} {zs : List Va} {Nx : Fm → Sto → Prop} {R : Va → Sto → Prop} (hT : Tk k N M) (hl : M[l]? = some (.lst zs)) (hne : l ≠ k) (hN : N + zs.length < 1000) (h0 : zs ≠ []) (h4 : fm[v]? = some (some (.ref (e.p L + k)))) (hg : g ≠ v)
    (hE : ∀ z ∈ zs, ∀ M', Wp (E (fm.set g (some z)) (W e c L M')) fun y s => s = W e c L M' ∧ TD 12 9 y)
    (hq : ∀ z M', Tk k (N + zs.length) M' → (∀ j o, j ≠ k → M[j]? = some o → M'[j]? = some o) → Nx (fm.set g (some z)) (W e c L M')) :
    Wl (fun st => st[e.p L + l]? = some (.lst zs)) (gN g) (sCons (sEx (eMt "list" gApp (eV v) (aC E aN))) sNil) zs fm (W e c L M) Nx R := by
  refine wl_inv (fun j fm' s => (j = 0 ∧ fm' = fm ∨ ∃ z, fm' = fm.set g (some z)) ∧ ∃ M', s = W e c L M' ∧ Tk k (N + j) M' ∧ ∀ j o, j ≠ k → M[j]? = some o → M'[j]? = some o) (fun j fm' s hI => ?_) ⟨.inl ⟨rfl, rfl⟩, M, rfl, hT, fun _ _ _ h => h⟩ ?_ ?_
  · obtain ⟨_, M', rfl, _, hold⟩ := hI
    exact (W_get _).trans (hold _ _ hne hl)
  · rintro j z hz fm' s ⟨hfm, M', rfl, hT', hold⟩
    have hzm := List.mem_of_getElem? hz
    have hj : j < zs.length := (List.getElem?_eq_some_iff.mp hz).1
    have hset : fm'.set g (some z) = fm.set g (some z) := by
      rcases hfm with ⟨_, rfl⟩ | ⟨z', rfl⟩
      · rfl
      · rw [List.set_set]
    refine ⟨fm.set g (some z), by unfold gN; rw [hset], ?_⟩
    refine ss_c (ss_ex (we_mt (we_v (w := .ref (e.p L + k)) (by rw [List.getElem?_set_ne hg]; exact h4) (and_T hT' (wa_c ((hE z hzm M').imp ?_))))))
    rintro y s ⟨rfl, hy⟩
    refine wa_n (wp_appT hT' (by omega) hy fun M2 hT2 hold2 => ?_)
    exact ss_n ⟨.inr ⟨z, rfl⟩, M2, rfl, hT2, fun j o hj ho => hold2 j o hj (hold j o hj ho)⟩
  · rintro fm' s ⟨hfm, M', rfl, hT', hold⟩
    rcases hfm with ⟨h, _⟩ | ⟨z, rfl⟩
    · exact absurd (List.eq_nil_of_length_eq_zero h) h0
    · exact hq z M' hT' hold
/-- a source that stands -/
theorem src_W {e : Dw} {c l : Nat} {L M : Sto} {zs : List Va} {P : Src → Prop} (hl : M[l]? = some (.lst zs)) (h : P ⟨zs, fun st => st[e.p L + l]? = some (.lst zs)⟩) : ∃ S, srcOf (.ref (e.p L + l)) (W e c L M) = some S ∧ P S := ⟨_, by simp only [srcOf, W_get, hl], h⟩
/-- a comprehension over a list that is written out -/
theorem lc_lit {e : Dw} {c : Nat} {L M : Sto} {fi : Fi} {fe : Ev} {fm : Fm} {zs : List Va} {v : Nat} {Q : Va → Sto → Prop} (h1 : Wp (fi fm (W e c L M)) fun S s => S = ⟨zs, fun st => st[e.p L + M.length]? = some (.lst zs)⟩ ∧ s = W e c L (M ++ [.lst zs])) (hz : zs.length < 1000)
    (hE : ∀ z ∈ zs, ∀ X, Wp (fe ((wip fm [v]).set v (some z)) (W e c L X)) fun y s => s = W e c L X ∧ TD 12 9 y)
    (hq : ∀ ys, ys.length = zs.length → (∀ y ∈ ys, TD 12 9 y) → Q (.ref (e.p L + (M ++ [Ob.lst zs]).length)) (W e c L (M ++ [.lst zs] ++ [.lst ys]))) : Wp (eLc fi (gN v) bYes fe [v] fm (W e c L M)) Q := by
  obtain ⟨S, s, e1, rfl, rfl⟩ := h1
  refine lc_of e1 (wp_lc ⟨_, _, rfl, fun i s => ∃ ys, s = W e c L (M ++ [.lst zs] ++ [.lst ys]) ∧ ys.length = i ∧ ∀ y ∈ ys, TD 12 9 y, ?_, ⟨[], by rw [W_push], rfl, fun _ h => (List.not_mem_nil h).elim⟩, ?_, ?_⟩)
  · rintro i s ⟨ys, rfl, _, _⟩
    exact (W_get _).trans (at_push at_last)
  · intro i z hz'
    have hzm := List.mem_of_getElem? hz'
    have hi : i < zs.length := (List.getElem?_eq_some_iff.mp hz').1
    refine ⟨_, rfl, ?_⟩
    rintro s1 ⟨ys, rfl, hl, hy⟩
    refine wb_yes (If.t ((hE z hzm _).imp ?_))
    rintro y s ⟨rfl, ht⟩
    refine ⟨ys, by rw [W_len, W_get]; exact at_last, by omega, ys ++ [y], ?_, by simp [hl], fun u hu => ?_⟩
    · rw [W_len, W_set]
      congr 1
      simp
    · rcases List.mem_append.mp hu with h | h
      · exact hy u h
      · rw [List.mem_singleton.mp h]; exact ht
  · rintro s' ⟨ys, rfl, hl, hy⟩
    rw [W_len]
    exact hq ys hl hy
end T3
set_option maxHeartbeats 8000000
namespace L_k14
open PySem PySem.Spec PyProof.Rows L2 T3
theorem put_is : m__law_put = c_put := rfl
theorem sizes_is : m__law_sizes = c_sizes := rfl
theorem news_is : m__law_news = cA_news := rfl
theorem boxes_is : m__law_boxes = cA_boxes := rfl
/-- a drawn box machine and its parts -/
structure BF (ls : List Nat) (ah : List Va) (m : Nat) (rw_ en : List Va) : Prop where
  lsl : 1 ≤ ls.length ∧ ls.length ≤ 2
  lsc : ∀ c ∈ ls, c ∈ abc
  al : 1 ≤ ah.length ∧ ah.length ≤ 2
  rl : rw_.length = en.length
  el : 1 ≤ en.length ∧ en.length ≤ 2
  m2 : m ≤ 2
  at_ : TD 6 2 (.tup ah)
  rt : TD 6 6 (.tup rw_)
  et : TD 6 2 (.tup en)
  ag : ∀ (i : Nat) r, ah[i]? = some r → ∃ us, r = .tup us ∧ us.length = ls.length
  rg : ∀ (i : Nat) r, rw_[i]? = some r → ∃ ps, r = .tup ps ∧ ps.length = ls.length ∧ ∀ (j : Nat) p, ps[j]? = some p → ∃ es, p = .tup es ∧ es.length = ah.length
abbrev bd6 (ls : List Nat) (ah : List Va) (m : Nat) (rw_ en : List Va) : List Va := [.str boxesW, .str ls, .tup ah, .int (m : Nat), .tup rw_, .tup en]
theorem bf_of {ls : List Nat} {ahead : List (List Nat)} {many : Nat} {rows : List (List (List Ent))} {ends : List (Option (List T3.It))} (h : BW ls ahead many rows ends) (hls : 1 ≤ ls.length ∧ ls.length ≤ 2) (hc : ∀ c ∈ ls, c ∈ abc) (h1 : ends.length ≤ 2) (h2 : many ≤ 2) (h3 : ahead.length ≤ 2) :
    ∃ ah rw_ en, boxVa ls ahead many rows ends = .tup (bd6 ls ah many rw_ en) ∧ BF ls ah many rw_ en := by
  refine ⟨ahead.map rowV, rows.map stVa, ends.map endV, rfl, hls, hc, by rw [List.length_map]; exact ⟨h.cpos, h3⟩, by rw [List.length_map, List.length_map]; exact h.len, by rw [List.length_map]; exact ⟨h.pos, h1⟩, h2, goalsA_td h.goals (by omega) (by omega), rows_td h (by omega) (by omega) (by omega) (by omega) (by omega), ends_td h (by omega) (by omega) (by omega), fun i r hi => ?_, fun i r hi => ?_⟩
  · rw [List.getElem?_map, Option.map_eq_some_iff] at hi
    obtain ⟨g, hg, rfl⟩ := hi
    exact ⟨_, rfl, by rw [List.length_map]; exact (h.goals.row g (List.mem_of_getElem? hg)).1⟩
  · rw [List.getElem?_map, Option.map_eq_some_iff] at hi
    obtain ⟨s, hs, rfl⟩ := hi
    obtain ⟨e1, e2⟩ := h.st s (List.mem_of_getElem? hs)
    refine ⟨_, rfl, by rw [List.length_map]; exact e1, fun j p hj => ?_⟩
    rw [List.getElem?_map, Option.map_eq_some_iff] at hj
    obtain ⟨p, hp, rfl⟩ := hj
    exact ⟨_, rfl, by rw [List.length_map, List.length_map]; exact (e2 p (List.mem_of_getElem? hp)).1⟩
section
variable {ls : List Nat} {ah rw_ en : List Va} {m : Nat}
theorem td_sm {n : Nat} {s : List Nat} (hl : s.length ≤ 12) (hs : ∀ c ∈ s, c < 128) : TD 12 n (.str s) := td_str hl (cps_small hs)
theorem BF.all (h : BF ls ah m rw_ en) : ∀ u ∈ bd6 ls ah m rw_ en, TD 12 8 u := fun u hu => by
  simp only [List.mem_cons, List.not_mem_nil, or_false] at hu
  rcases hu with rfl | rfl | rfl | rfl | rfl | rfl
  · exact td_sm (by decide) (by decide)
  · exact td_sm (by have := h.lsl; omega) fun c hc => by have := abc_low c (h.lsc c hc); omega
  · exact td_up (by omega) (by omega) h.at_
  · exact td_int
  · exact td_up (by omega) (by omega) h.rt
  · exact td_up (by omega) (by omega) h.et
theorem BF.put (h : BF ls ah m rw_ en) (i : Nat) {x : Va} (hx : TD 12 8 x) : TD 12 9 (.tup ((bd6 ls ah m rw_ en).set i x)) := set_td (by show 6 ≤ 12; decide) h.all hx
theorem put6 (i : Nat) (hi : i < 6) (x : Va) (st : Sto) : c_put [.tup (bd6 ls ah m rw_ en), .int (i : Nat), x] st = some (.tup ((bd6 ls ah m rw_ en).set i x), st) := put_eq x (by show i < 6; exact hi) (by show 6 ≤ 1000; decide) st
theorem with_eq {ps es : List Va} {q k c : Nat} (x : Va) (h1 : rw_[q]? = some (.tup ps)) (h2 : ps[k]? = some (.tup es)) (hc : c < es.length) (z1 : rw_.length ≤ 1000) (z2 : ps.length ≤ 1000) (z3 : es.length ≤ 1000) (st : Sto) :
    m__law_with_entry [.tup (bd6 ls ah m rw_ en), .int (q : Nat), .int (k : Nat), .int (c : Nat), x] st =
      some (.tup ((bd6 ls ah m rw_ en).set 4 (.tup (rw_.set q (.tup (ps.set k (.tup (es.set c x))))))), st) := by
  have q1 := (List.getElem?_eq_some_iff.mp h1).1
  have q2 := (List.getElem?_eq_some_iff.mp h2).1
  refine wp_eqW ?_
  unfold m__law_with_entry
  rw [put_is]
  refine wp_fn rfl ?_
  (repeat (first |(with_reducible first |refine we_c ?_|refine we_b ?_|refine wa_c ?_|refine we_call ?_|refine ss_c ?_|refine ss_set ?_|refine ss_ret ?_) |(((with_reducible refine we_v (w := ?_) ?_ ?_); rotate_left; · rfl)) |(((with_reducible refine wp_ixt (w := ?_) ?_ ?_); rotate_left; · rfl))))
  refine wp_ixt (w := .tup ps) (by rw [atI_n, h1]) ?_
  (repeat (first |(with_reducible first |refine we_b ?_|refine wa_c ?_|refine we_call ?_) |(((with_reducible refine we_v (w := ?_) ?_ ?_); rotate_left; · rfl))))
  refine wp_ixt (w := .tup ps) (by rw [atI_n, h1]) ?_
  (repeat (((with_reducible refine we_v (w := ?_) ?_ ?_); rotate_left; · rfl)))
  refine wp_ixt (w := .tup es) (by rw [atI_n, h2]) ?_
  (repeat (first |(with_reducible first |refine wa_c ?_|refine wa_n ?_) |(((with_reducible refine we_v (w := ?_) ?_ ?_); rotate_left; · rfl)) |(((with_reducible refine and_len ?_ ?_); · rfl))))
  refine wp_of (put_eq x hc z3 _) ?_
  (repeat (first |(with_reducible refine wa_n ?_) |(((with_reducible refine and_len ?_ ?_); · rfl))))
  refine wp_of (put_eq _ q2 z2 _) ?_
  (repeat (first |(with_reducible refine wa_n ?_) |(((with_reducible refine and_len ?_ ?_); · rfl))))
  refine wp_of (put_eq _ q1 z1 _) ?_
  (repeat (first |(with_reducible refine wa_n ?_) |(((with_reducible refine and_len ?_ ?_); · rfl))))
  refine wp_of (put6 4 (by decide) _ _) ?_
  rw [fin_id]
  exact And.intro rfl rfl
end
theorem td2 {n : Nat} {x y : Va} (hx : TD 12 n x) (hy : TD 12 n y) : TD 12 (n + 1) (.tup [x, y]) := td_l (Nat.le_of_ble_eq_true rfl) fun u hu => by
  simp only [List.mem_cons, List.not_mem_nil, or_false] at hu
  rcases hu with rfl | rfl <;> assumption
theorem td1 {n : Nat} {x : Va} (hx : TD 12 n x) : TD 12 (n + 1) (.tup [x]) := td_l (Nat.le_of_ble_eq_true rfl) fun u hu => by rw [List.mem_singleton.mp hu]; exact hx
theorem td3 {n : Nat} {x y z : Va} (hx : TD 12 n x) (hy : TD 12 n y) (hz : TD 12 n z) : TD 12 (n + 1) (.tup [x, y, z]) := td_l (Nat.le_of_ble_eq_true rfl) fun u hu => by
  simp only [List.mem_cons, List.not_mem_nil, or_false] at hu
  rcases hu with rfl | rfl | rfl <;> assumption
theorem tdA {n : Nat} {k : Nat} (s : List Nat) (h : (decide (s.length ≤ 12) && s.all fun c => decide (c < 128)) = true) : TD 12 n (.str s) := by
  rw [Bool.and_eq_true, decide_eq_true_eq, List.all_eq_true] at h
  exact td_sm h.1 fun c hc => of_decide_eq_true (h.2 c hc)
/-- rows that may be wrong -/
theorem rows_D {ws : List Va} (h : TD 6 1 (.tup ws)) (m : Nat) (e : Dw) (a : Nat) (L : Sto) : Wp (m__law_rows [.tup ws, .int (m : Nat)] (W e a L [])) fun r s => Hd (∃ k G zs, r = .ref (e.p L + k) ∧ s = W e a L G ∧ G[k]? = some (.lst zs) ∧ (1 ≤ zs.length ∧ zs.length ≤ 24) ∧ ∀ z ∈ zs, TD 12 2 z) := by
  obtain ⟨hl, hx⟩ := tup_in h
  have tS : ∀ {s : List Nat} {n : Nat}, s.length ≤ 12 → (∀ c ∈ s, c < 128) → TD 12 n (.str s) := fun h1 h2 => td_sm h1 h2
  unfold m__law_rows
  refine wp_fn rfl ?_
  have mk : ∀ us : List Va, us.length ≤ 12 → (∀ u ∈ us, u ∈ ws ∨ TD 12 1 u) → TD 12 2 (.tup us) := fun us h1 h2 => td_tup h1 fun u hu => by
    rcases h2 u hu with h | h
    · exact td_up (by omega) (by omega) (hx u h)
    · exact h
  have cl : ∀ u ∈ cutL ws none (some (1 : Int)), u ∈ ws := fun u hu => cutL_mem hu
  have cll := cutL_len ws none (some (1 : Int))
  have tail : ∀ (k : Nat) (M : Sto) (us : List Va), M[k]? = some (.lst us) → us.length ≤ 21 → (∀ u ∈ us, TD 12 2 u) → k < M.length →
      Hd (∃ k' G zs, Va.ref (e.p L + (M ++ [Ob.lst [.tup (ws ++ cutL ws none (some 1)), .tup (ws ++ [.str [113]]), .tup ([.str [113]] ++ ws)]]).length) = .ref (e.p L + k') ∧
        W e a L (M ++ [Ob.lst [.tup (ws ++ cutL ws none (some 1)), .tup (ws ++ [.str [113]]), .tup ([.str [113]] ++ ws)]] ++ [.lst (us ++ [.tup (ws ++ cutL ws none (some 1)), .tup (ws ++ [.str [113]]), .tup ([.str [113]] ++ ws)])]) = W e a L G ∧ G[k']? = some (.lst zs) ∧ (1 ≤ zs.length ∧ zs.length ≤ 24) ∧ ∀ z ∈ zs, TD 12 2 z) := fun k M us h1 h2 h3 h4 => by
    refine hd ⟨_, _, _, rfl, rfl, at_last, by rw [List.length_append]; simp; omega, fun z hz => ?_⟩
    rcases List.mem_append.mp hz with h | h
    · exact h3 z h
    · simp only [List.mem_cons, List.not_mem_nil, or_false] at h
      rcases h with rfl | rfl | rfl
      · refine mk _ (by rw [List.length_append]; omega) fun u hu => ?_
        rcases List.mem_append.mp hu with h | h
        · exact .inl h
        · exact .inl (cl u h)
      · refine mk _ (by rw [List.length_append]; simp; omega) fun u hu => ?_
        rcases List.mem_append.mp hu with h | h
        · exact .inl h
        · rw [List.mem_singleton.mp h]; exact .inr (tS (by decide) (by decide))
      · refine mk _ (by rw [List.length_append]; simp; omega) fun u hu => ?_
        rcases List.mem_append.mp hu with h | h
        · rw [List.mem_singleton.mp h]; exact .inr (tS (by decide) (by decide))
        · exact .inl h
  have h14 : ∀ z ∈ [Va.tup [.str [97], .str [98]], .tup [.str []], .tup [.str [65]], .tup [.str [97, 32, 98]], .tup [.bl true], .tup [.non], .tup [.int (-1)], .tup [.int (m : Nat)], .tup [.tup []], .str [97], .int 0, .non, .tup [.str [97]], .tup []], TD 12 2 z := fun z h => by
    simp only [List.mem_cons, List.not_mem_nil, or_false] at h
    rcases h with rfl | rfl | rfl | rfl | rfl | rfl | rfl | rfl | rfl | rfl | rfl | rfl | rfl | rfl
    · exact td2 (tS (by decide) (by decide)) (tS (by decide) (by decide))
    · exact td1 (tS (by decide) (by decide))
    · exact td1 (tS (by decide) (by decide))
    · exact td1 (tS (by decide) (by decide))
    · exact td1 td_b
    · exact td1 td_n
    · exact td1 td_int
    · exact td1 td_int
    · exact td1 td_0
    · exact tS (by decide) (by decide)
    · exact td_int
    · exact td_n
    · exact td1 (tS (by decide) (by decide))
    · exact td_0
  have h7 : ∀ z ∈ [Va.tup [.int 0, .int 0], .tup [.int 0, .str [97], .int 0], .tup [.int 0, .str [120]], .tup [.str [120], .int 0, .str [121]], .tup [.int ((m : Int) - 1), .str [], .str [97]], .tup [.int 0, .bl false], .tup [.int 0, .str [97], .str [98]]], TD 12 2 z := fun z h => by
    simp only [List.mem_cons, List.not_mem_nil, or_false] at h
    rcases h with rfl | rfl | rfl | rfl | rfl | rfl | rfl
    · exact td2 td_int td_int
    · exact td3 td_int (tS (by decide) (by decide)) td_int
    · exact td2 td_int (tS (by decide) (by decide))
    · exact td3 (tS (by decide) (by decide)) td_int (tS (by decide) (by decide))
    · exact td3 td_int (tS (by decide) (by decide)) (tS (by decide) (by decide))
    · exact td2 td_int td_b
    · exact td3 td_int (tS (by decide) (by decide)) (tS (by decide) (by decide))
  (repeat (first |(with_reducible first |refine we_c ?_|refine wa_c ?_|refine wa_n ?_|refine we_tup ?_|refine we_lstW ?_|refine we_u ?_|refine wb_b ?_|refine ss_c ?_|refine ss_set ?_|refine ss_if ?_|refine wp_ng ?_|refine wp_gt ?_|refine ex_bl ?_|refine inW_mk ?_) |(((with_reducible refine we_v (w := ?_) ?_ ?_); rotate_left; · rfl)) |(((with_reducible refine and_le ?_ ?_); · exact Nat.le_of_ble_eq_true rfl))))
  refine If.d (fun hm => ?_) (fun hm => ?_)
  · (repeat (first |(with_reducible first |refine we_c ?_|refine we_b ?_|refine wa_c ?_|refine wa_n ?_|refine we_tup ?_|refine we_lstW ?_|refine ss_c ?_|refine ss_set ?_|refine wp_si ?_|refine inW_mk ?_) |(((with_reducible refine we_v (w := ?_) ?_ ?_); rotate_left; · rfl)) |(((with_reducible refine and_le ?_ ?_); · exact Nat.le_of_ble_eq_true rfl))))
    refine wp_addL (k := 0) (j := 1) rfl rfl (Nat.le_of_ble_eq_true rfl) ?_
    (repeat (first |(with_reducible first |refine we_c ?_|refine we_b ?_|refine wa_c ?_|refine we_lstW ?_|refine we_cut ?_|refine wo_n ?_|refine wo_s ?_|refine ss_n ?_|refine ss_c ?_|refine ss_ret ?_|refine wp_cutT ?_|refine ex_int ?_) |(((with_reducible refine we_v (w := ?_) ?_ ?_); rotate_left; · rfl))))
    refine wp_at (by have := cutL_len ws none (some (1 : Int)); omega) ?_
    (repeat (first |(with_reducible first |refine we_c ?_|refine we_b ?_|refine wa_c ?_|refine wa_n ?_|refine we_tup ?_) |(((with_reducible refine we_v (w := ?_) ?_ ?_); rotate_left; · rfl)) |(((with_reducible refine and_le ?_ ?_); · exact Nat.le_of_ble_eq_true rfl))))
    refine wp_at (by simp; omega) ?_
    (repeat (first |(with_reducible first |refine we_c ?_|refine we_b ?_|refine wa_c ?_|refine wa_n ?_|refine we_tup ?_) |(((with_reducible refine we_v (w := ?_) ?_ ?_); rotate_left; · rfl)) |(((with_reducible refine and_le ?_ ?_); · exact Nat.le_of_ble_eq_true rfl))))
    refine wp_at (by simp; omega) ?_
    (repeat (first |(with_reducible first |refine wa_n ?_|refine inW_mk ?_) |(((with_reducible refine and_le ?_ ?_); · exact Nat.le_of_ble_eq_true rfl))))
    refine wp_addL (k := 2) rfl at_last (Nat.le_of_ble_eq_true rfl) ?_
    rw [fin_refW]
    exact tail 2 _ _ rfl (Nat.le_of_ble_eq_true rfl) (fun z hz => by
      rcases List.mem_append.mp hz with h | h
      · exact h14 z h
      · exact h7 z h) (Nat.le_of_ble_eq_true rfl)
  · (repeat (first |(with_reducible first |refine we_c ?_|refine we_b ?_|refine wa_c ?_|refine we_lstW ?_|refine we_cut ?_|refine wo_n ?_|refine wo_s ?_|refine ss_n ?_|refine ss_c ?_|refine ss_ret ?_|refine wp_cutT ?_|refine ex_int ?_) |(((with_reducible refine we_v (w := ?_) ?_ ?_); rotate_left; · rfl))))
    refine wp_at (by have := cutL_len ws none (some (1 : Int)); omega) ?_
    (repeat (first |(with_reducible first |refine we_c ?_|refine we_b ?_|refine wa_c ?_|refine wa_n ?_|refine we_tup ?_) |(((with_reducible refine we_v (w := ?_) ?_ ?_); rotate_left; · rfl)) |(((with_reducible refine and_le ?_ ?_); · exact Nat.le_of_ble_eq_true rfl))))
    refine wp_at (by simp; omega) ?_
    (repeat (first |(with_reducible first |refine we_c ?_|refine we_b ?_|refine wa_c ?_|refine wa_n ?_|refine we_tup ?_) |(((with_reducible refine we_v (w := ?_) ?_ ?_); rotate_left; · rfl)) |(((with_reducible refine and_le ?_ ?_); · exact Nat.le_of_ble_eq_true rfl))))
    refine wp_at (by simp; omega) ?_
    (repeat (first |(with_reducible first |refine wa_n ?_|refine inW_mk ?_) |(((with_reducible refine and_le ?_ ?_); · exact Nat.le_of_ble_eq_true rfl))))
    refine wp_addL (k := 0) rfl at_last (Nat.le_of_ble_eq_true rfl) ?_
    rw [fin_refW]
    exact tail 0 _ _ rfl (Nat.le_of_ble_eq_true rfl) h14 (Nat.le_of_ble_eq_true rfl)
end L_k14
set_option maxHeartbeats 16000000
namespace L_k14
open PySem PySem.Spec PyProof.Rows L2 T3
theorem four_mem {z : Va} (h : z ∈ [Va.str [98, 111, 120], .str [104, 101, 97, 100], .int 0, .non]) : TD 12 8 z := by
  simp only [List.mem_cons, List.not_mem_nil, or_false] at h
  rcases h with rfl | rfl | rfl | rfl
  · exact td_sm (by decide) (by decide)
  · exact td_sm (by decide) (by decide)
  · exact td_int
  · exact td_n
theorem nine_mem {ls : List Nat} {lo : Option Int} (hl : ls.length ≤ 2) (hc : ∀ c ∈ ls, c ∈ abc) {z : Va} (h : z ∈ [Va.str [], .str (ls ++ [121]), .str (cutL ls none lo), .str [98, 97], .str [97, 97], .str [97, 66], .int 5, .tup [.str [97], .str [98]], .str [97, 32]]) : TD 12 8 z := by
  have small : ∀ c ∈ ls, c < 128 := fun c h => by have := abc_low c (hc c h); omega
  simp only [List.mem_cons, List.not_mem_nil, or_false] at h
  rcases h with rfl | rfl | rfl | rfl | rfl | rfl | rfl | rfl | rfl
  · exact td_sm (by decide) (by decide)
  · refine td_sm (by simp; omega) fun c hc => ?_
    rcases List.mem_append.mp hc with h | h
    · exact small c h
    · rw [List.mem_singleton.mp h]; decide
  · exact td_sm (Nat.le_trans (cutL_len _ _ _) (by omega)) fun c hc => small c (cutL_mem hc)
  · exact td_sm (by decide) (by decide)
  · exact td_sm (by decide) (by decide)
  · exact td_sm (by decide) (by decide)
  · exact td_int
  · exact td2 (td_sm (by decide) (by decide)) (td_sm (by decide) (by decide))
  · exact td_sm (by decide) (by decide)
theorem seven_mem {m : Nat} {z : Va} (h : z ∈ [Va.int ((m : Int) + 1), .int ((m : Int) - 1), .int (-1), .bl true, .bl false, .non, .str [49]]) : TD 12 8 z := by
  simp only [List.mem_cons, List.not_mem_nil, or_false] at h
  rcases h with rfl | rfl | rfl | rfl | rfl | rfl | rfl
  · exact td_int
  · exact td_int
  · exact td_int
  · exact td_b
  · exact td_b
  · exact td_n
  · exact td_sm (by decide) (by decide)
theorem six_mem {k : Nat} {z : Va} (h : z ∈ [Va.int (k : Nat), .int (-1), .bl true, .str [48], .non, .int ((k : Int) - 1)]) : TD 12 2 z := by
  simp only [List.mem_cons, List.not_mem_nil, or_false] at h
  rcases h with rfl | rfl | rfl | rfl | rfl | rfl
  · exact td_int
  · exact td_int
  · exact td_b
  · exact td_sm (by decide) (by decide)
  · exact td_n
  · exact td_int
theorem twelve_mem {nw : Va} {k : Nat} (hn : TD 12 2 nw) {z : Va} (h : z ∈ [Va.non, .tup [], .tup [.int 0], .tup [.int 0, nw, .int 0], .tup [.int (k : Nat), nw], .tup [.int (-1), nw], .tup [.bl true, nw], .tup [.str [48], nw], .tup [.int ((k : Int) - 1), nw], nw, .int 0, .tup [.int 0, .non]]) : TD 12 3 z := by
  simp only [List.mem_cons, List.not_mem_nil, or_false] at h
  rcases h with rfl | rfl | rfl | rfl | rfl | rfl | rfl | rfl | rfl | rfl | rfl | rfl
  · exact td_n
  · exact td_0
  · exact td1 td_int
  · exact td3 td_int hn td_int
  · exact td2 td_int hn
  · exact td2 td_int hn
  · exact td2 td_b hn
  · exact td2 (td_sm (by decide) (by decide)) hn
  · exact td2 td_int hn
  · exact TD.lift (by omega) hn
  · exact td_int
  · exact td2 td_int td_n
theorem rows_M {e : Dw} {a : Nat} {L M : Sto} {ws : List Va} {m : Nat} {Q : Va → Sto → Prop} (h : TD 6 1 (.tup ws)) (q : ∀ k G zs, G[k]? = some (.lst zs) → (1 ≤ zs.length ∧ zs.length ≤ 24) → (∀ z ∈ zs, TD 12 2 z) → Q (.ref (e.p L + (M.length + k))) (W e a L (M ++ G))) : Wp (m__law_rows [.tup ws, .int (m : Nat)] (W e a L M)) Q := by
  rw [W_in]
  refine (rows_D h m e a (L ++ M)).imp ?_
  rintro r s ⟨k, G, zs, rfl, rfl, h1, h2, h3⟩
  rw [W_cat, p_in, Nat.add_assoc]
  exact q k G zs h1 h2 h3
abbrev FQ (d : Nat) (ls : List Nat) (ah : List Va) (m : Nat) (rw_ en : List Va) (r : Va) (cc kk q : Nat) (x11 x12 x13 x14 x15 x16 : Option Va) : Fm :=
  [some (.ref d), some (.tup (bd6 ls ah m rw_ en)), some (.str ls), some (.tup ah), some (.int (m : Nat)), some (.tup rw_), some (.tup en), some r, some (.int (cc : Nat)), some (.int (kk : Nat)), some (.int (q : Nat)), x11, x12, x13, x14, x15, x16]
/-- from the entries on -/
noncomputable abbrev suff2 : Sm := (sCons (sFor (iA (eLst (aC (eC .non) (aC (eTup aN) (aC (eTup (aC (eC (.int 0)) aN)) (aC (eTup (aC (eC (.int 0)) (aC (eV 13) (aC (eC (.int 0)) aN)))) (aC (eTup (aC (eA gLen (aC (eV 6) aN)) (aC (eV 13) aN))) (aC (eTup (aC (eU gNeg (eC (.int 1))) (aC (eV 13) aN))) (aC (eTup (aC (eC (.bl true)) (aC (eV 13) aN))) (aC (eTup (aC (eC (.str [48])) (aC (eV 13) aN))) (aC (eTup (aC (eB gSub (eA gLen (aC (eV 6) aN)) (eC (.int 1))) (aC (eV 13) aN))) (aC (eV 13) (aC (eC (.int 0)) (aC (eTup (aC (eC (.int 0)) (aC (eC .non) aN))) aN)))))))))))))) (gN 14) (sCons (sEx (eMt "list" gApp (eV 7) (aC (eCall 5 m__law_with_entry (aC (eV 1) (aC (eV 10) (aC (eV 9) (aC (eV 8) (aC (eV 14) aN)))))) aN)))
  sNil))
  (sCons (sFor (iA (eCall 1 c_sizes (aC (eV 13) aN))) (gN 12) (sCons (sEx (eMt "list" gApp (eV 7) (aC (eCall 5 m__law_with_entry (aC (eV 1) (aC (eV 10) (aC (eV 9) (aC (eV 8) (aC (eTup (aC (eC (.int 0)) (aC (eV 12) aN))) aN)))))) aN)))
  sNil))
  (sCons (sIf (bB gGt (eV 4) (eC (.int 0))) (sCons (sFor (iA (eCall 2 m__law_rows (aC (eB gIx (eV 13) (eC (.int 0))) (aC (eV 4) aN)))) (gN 12) (sCons (sEx (eMt "list" gApp (eV 7) (aC (eCall 5 m__law_with_entry (aC (eV 1) (aC (eV 10) (aC (eV 9) (aC (eV 8) (aC (eTup (aC (eC (.int 0)) (aC (eB gAdd (eTup (aC (eV 12) aN)) (eCut (eV 13) (pSo (eC (.int 1))) pNo)) aN))) aN)))))) aN)))
  (sCons (sEx (eMt "list" gApp (eV 7) (aC (eCall 5 m__law_with_entry (aC (eV 1) (aC (eV 10) (aC (eV 9) (aC (eV 8) (aC (eTup (aC (eC (.int 0)) (aC (eB gAdd (eTup (aC (eV 12) aN)) (eB gMul (eTup (aC (eTup aN) aN)) (eB gSub (eV 4) (eC (.int 1))))) aN))) aN)))))) aN)))
  sNil)))
  (sCons (sEx (eMt "list" gApp (eV 7) (aC (eCall 5 m__law_with_entry (aC (eV 1) (aC (eV 10) (aC (eV 9) (aC (eV 8) (aC (eTup (aC (eC (.int 0)) (aC (eB gMul (eTup (aC (eTup (aC (eC (.int 0)) aN)) aN)) (eV 4)) aN))) aN)))))) aN)))
  sNil)) sNil)
  (sCons (sFor (iA (eCall 2 m__law_rows (aC (eTup aN) (aC (eV 4) aN)))) (gN 12) (sCons (sEx (eMt "list" gApp (eV 7) (aC (eCall 3 c_put (aC (eV 1) (aC (eC (.int 5)) (aC (eCall 3 c_put (aC (eV 6) (aC (eV 10) (aC (eV 12) aN)))) aN)))) aN)))
  sNil))
  (sCons (sRet (eV 7))
  sNil)))))
theorem suff2_D {e : Dw} {L : Sto} {ls : List Nat} {ah rw_ en : List Va} {m : Nat} (hF : BF ls ah m rw_ en) {cc kk q k : Nat} (hcc : cc < ah.length) (hkk : kk < ls.length) (hq : q < rw_.length) {nw : List Va} (hnl : nw.length = m) (hnw : TD 6 2 (.tup nw)) (hnt : ∀ r ∈ nw, ∃ us, r = .tup us) (c : Nat) (M : Sto) (hM : Tk k 60 M) (x11 x12 : Option Va) {N : Fm → Sto → Prop} {R : Va → Sto → Prop} {B C : Fm → Sto → Prop} (hR : ∀ c M, Tk k 300 M → R (.ref (e.p L + k)) (W e c L M)) :
    Ws (suff2 (FQ e.d ls ah m rw_ en (.ref (e.p L + k)) cc kk q x11 x12 (some (.tup nw)) none none none) (W e c L M)) N R B C := by
  have hll := hF.lsl
  have hal := hF.al
  have hel := hF.el
  have hrl := hF.rl
  have hm2 := hF.m2
  have hq2 : q < en.length := by omega
  obtain ⟨us, hus, hul⟩ := hF.ag cc _ (List.getElem?_eq_getElem hcc)
  have gc : ah[cc]? = some (.tup us) := by rw [List.getElem?_eq_getElem hcc, hus]
  obtain ⟨ps, hps, hpl, hpe⟩ := hF.rg q _ (List.getElem?_eq_getElem hq)
  have gq : rw_[q]? = some (.tup ps) := by rw [List.getElem?_eq_getElem hq, hps]
  obtain ⟨es, hes, hesl⟩ := hpe kk _ (List.getElem?_eq_getElem (show kk < ps.length by omega))
  have gk : ps[kk]? = some (.tup es) := by rw [List.getElem?_eq_getElem (show kk < ps.length by omega), hes]
  have hce : cc < es.length := by omega
  obtain ⟨_, ta⟩ := tup_in hF.at_
  have tus : TD 6 1 (.tup us) := ta _ (List.mem_of_getElem? gc)
  obtain ⟨_, tu⟩ := tup_in tus
  obtain ⟨_, tr⟩ := tup_in hF.rt
  have tps : TD 6 5 (.tup ps) := tr _ (List.mem_of_getElem? gq)
  obtain ⟨_, tp⟩ := tup_in tps
  have tes : TD 6 4 (.tup es) := tp _ (List.mem_of_getElem? gk)
  obtain ⟨_, te⟩ := tup_in tes
  obtain ⟨_, tn⟩ := tup_in hF.et
  have putA : ∀ (i : Nat) {x : Va}, TD 12 7 x → TD 12 8 (.tup (ah.set i x)) := fun i x hx => set_td (by omega) (fun u hu => td_up (by omega) (by omega) (ta u hu)) hx
  have putU : ∀ (i : Nat) {x : Va}, TD 12 6 x → TD 12 7 (.tup (us.set i x)) := fun i x hx => set_td (by omega) (fun u hu => td_up (by omega) (by omega) (tu u hu)) hx
  have putR : ∀ (i : Nat) {x : Va}, TD 12 7 x → TD 12 8 (.tup (rw_.set i x)) := fun i x hx => set_td (by omega) (fun u hu => td_up (by omega) (by omega) (tr u hu)) hx
  have putP : ∀ (i : Nat) {x : Va}, TD 12 6 x → TD 12 7 (.tup (ps.set i x)) := fun i x hx => set_td (by omega) (fun u hu => td_up (by omega) (by omega) (tp u hu)) hx
  have putE : ∀ (i : Nat) {x : Va}, TD 12 5 x → TD 12 6 (.tup (es.set i x)) := fun i x hx => set_td (by omega) (fun u hu => td_up (by omega) (by omega) (te u hu)) hx
  have putN : ∀ (i : Nat) {x : Va}, TD 12 7 x → TD 12 8 (.tup (en.set i x)) := fun i x hx => set_td (by omega) (fun u hu => td_up (by omega) (by omega) (tn u hu)) hx
  have hkl : ∀ {N : Nat} {M : Sto}, Tk k N M → k < M.length := fun h => by
    obtain ⟨ts, h1, _⟩ := h
    exact at_lt h1
  have withT : ∀ {x : Va}, TD 12 4 x → TD 12 9 (.tup ((bd6 ls ah m rw_ en).set 4 (.tup (rw_.set q (.tup (ps.set kk (.tup (es.set cc x)))))))) := fun hx => hF.put 4 (putR q (putP kk (putE cc (TD.lift (by omega) hx))))
  have tnw : TD 12 2 (.tup nw) := td_up (by omega) (by omega) hnw
  obtain ⟨_, tnx⟩ := tup_in hnw
  unfold suff2
  (repeat (first |(with_reducible first |refine we_c ?_|refine we_b ?_|refine we_a ?_|refine wa_c ?_|refine wa_n ?_|refine we_tup ?_|refine we_lstW ?_|refine we_u ?_|refine ss_c ?_|refine ss_for ?_|refine wi_a ?_|refine wp_si ?_|refine wp_ng ?_|refine wp_lent ?_|refine inW_mk ?_) |(((with_reducible refine we_v (w := ?_) ?_ ?_); rotate_left; · rfl)) |(((with_reducible refine and_le ?_ ?_); · exact Nat.le_of_ble_eq_true rfl))))
  have hk1 := hkl hM
  refine src_W at_last ?_
  refine app_loop hM.push at_last (by omega) (by simp) (by simp) rfl (by decide) (fun z hz' M2 => ?_) fun z14 M4 hM4 _ => ?_
  · (repeat (first |(with_reducible first |refine wa_c ?_|refine wa_n ?_|refine we_call ?_) |(((with_reducible refine we_v (w := ?_) ?_ ?_); rotate_left; · rfl)) |(((with_reducible refine and_len ?_ ?_); · rfl))))
    refine wp_of (with_eq z gq gk hce (by omega) (by omega) (by omega) _) ?_
    exact ⟨rfl, withT (TD.lift (by omega) (twelve_mem tnw hz'))⟩
  have hM4 : Tk k 72 M4 := hM4.le (by simp)
  clear hk1 hM
  (repeat (first |(with_reducible first |refine wa_c ?_|refine wa_n ?_|refine we_call ?_|refine ss_c ?_|refine ss_for ?_|refine wi_a ?_) |(((with_reducible refine we_v (w := ?_) ?_ ?_); rotate_left; · rfl)) |(((with_reducible refine and_len ?_ ?_); · rfl))))
  refine sizes_M hnw (by omega) fun zs hzl hz => ?_
  have hk1 := hkl hM4
  refine src_W at_last ?_
  refine app_loop hM4.push at_last (by omega) (by omega) (by intro h; rw [h] at hzl; cases hzl) rfl (by decide) (fun z hz' M2 => ?_) fun z M5 hM5 _ => ?_
  · (repeat (first |(with_reducible first |refine we_c ?_|refine wa_c ?_|refine wa_n ?_|refine we_call ?_|refine we_tup ?_) |(((with_reducible refine we_v (w := ?_) ?_ ?_); rotate_left; · rfl)) |(((with_reducible refine and_len ?_ ?_); · rfl)) |(((with_reducible refine and_le ?_ ?_); · exact Nat.le_of_ble_eq_true rfl))))
    refine wp_of (with_eq _ gq gk hce (by omega) (by omega) (by omega) _) ?_
    exact ⟨rfl, withT (td2 td_int (TD.lift (by omega) (hz z hz')))⟩
  have hM5 : Tk k 76 M5 := hM5.le (by omega)
  clear hk1 hM4 hz hzl
  refine ss_cut (fun fm s => Hd (∃ c M x12 x14, fm = FQ e.d ls ah m rw_ en (.ref (e.p L + k)) cc kk q x11 x12 (some (.tup nw)) x14 none none ∧ s = W e c L M ∧ Tk k 125 M)) ?_ ?_
  · (repeat (first |(with_reducible first |refine we_c ?_|refine wb_b ?_|refine ss_if ?_|refine wp_gt ?_|refine ex_bl ?_) |(((with_reducible refine we_v (w := ?_) ?_ ?_); rotate_left; · rfl))))
    refine If.d (fun hm => ?_) (fun hm => ?_)
    · have hm : 0 < m := by omega
      have hn0 : 0 < nw.length := by omega
      obtain ⟨us, hus0⟩ := hnt _ (List.getElem_mem hn0)
      have g0 : nw[0]? = some (.tup us) := by rw [List.getElem?_eq_getElem hn0, hus0]
      have tus0 : TD 6 1 (.tup us) := tnx _ (List.mem_of_getElem? g0)
      (repeat (first |(with_reducible first |refine we_c ?_|refine we_b ?_|refine wa_c ?_|refine we_call ?_|refine ss_c ?_|refine ss_for ?_|refine wi_a ?_) |(((with_reducible refine we_v (w := ?_) ?_ ?_); rotate_left; · rfl))))
      refine wp_ixt (w := .tup us) (by rw [show (0 : Int) = ((0 : Nat) : Int) from rfl, atI_n, g0]) ?_
      (repeat (first |(with_reducible first |refine wa_c ?_|refine wa_n ?_) |(((with_reducible refine we_v (w := ?_) ?_ ?_); rotate_left; · rfl)) |(((with_reducible refine and_len ?_ ?_); · rfl))))
      refine rows_M tus0 fun k2 G zs hG hzl hz => ?_
      have hM6 : Tk k 76 (M5 ++ G) := hM5.push
      have hs6 : (M5 ++ G)[M5.length + k2]? = some (.lst zs) := by rw [List.getElem?_append_right (Nat.le_add_right _ _), Nat.add_sub_cancel_left]; exact hG
      have hk5 := hkl hM5
      have hne : M5.length + k2 ≠ k := by omega
      generalize M5 ++ G = M6 at hM6 hs6 ⊢
      generalize M5.length + k2 = l6 at hs6 hne ⊢
      refine src_W hs6 ?_
      refine wl_inv (fun j fm s => Hd (∃ M' x12, fm = FQ e.d ls ah m rw_ en (.ref (e.p L + k)) cc kk q x11 x12 (some (.tup nw)) (some z14) none none ∧ s = W e c L M' ∧ Tk k (76 + 2 * j) M' ∧ ∀ j o, j ≠ k → M6[j]? = some o → M'[j]? = some o))
        (fun j fm s hI => by obtain ⟨M', x12, _, rfl, _, hold⟩ := hI; exact (W_get _).trans (hold _ _ hne hs6)) (hd ⟨_, _, rfl, rfl, hM6, fun _ _ _ h => h⟩) ?_ ?_
      · rintro j z hz' fm s ⟨M', x12, rfl, rfl, hT, hold⟩
        have hj : j < zs.length := (List.getElem?_eq_some_iff.mp hz').1
        have tz := hz z (List.mem_of_getElem? hz')
        refine ⟨_, rfl, ?_⟩
        (repeat (first |(with_reducible first |refine we_mt ?_|refine ss_c ?_|refine ss_ex ?_) |(((with_reducible refine we_v (w := ?_) ?_ ?_); rotate_left; · rfl))))
        refine and_T hT ?_
        (repeat (first |(with_reducible first |refine we_c ?_|refine we_b ?_|refine wa_c ?_|refine wa_n ?_|refine we_call ?_|refine we_tup ?_|refine we_cut ?_|refine wo_n ?_|refine wo_s ?_|refine wp_cutT ?_|refine ex_int ?_) |(((with_reducible refine we_v (w := ?_) ?_ ?_); rotate_left; · rfl)) |(((with_reducible refine and_le ?_ ?_); · exact Nat.le_of_ble_eq_true rfl))))
        have hcl := cutL_len nw (some (1 : Int)) none
        have tz1 : TD 12 3 (.tup ([z] ++ cutL nw (some 1) none)) := td_tup (by simp; omega) fun u hu => by
          rcases List.mem_append.mp hu with h | h
          · rw [List.mem_singleton.mp h]; exact tz
          · exact td_up (by omega) (by omega) (tnx u (cutL_mem h))
        refine wp_at (by simp; omega) ?_
        (repeat (first |(with_reducible refine wa_n ?_) |(((with_reducible refine and_len ?_ ?_); · rfl)) |(((with_reducible refine and_le ?_ ?_); · exact Nat.le_of_ble_eq_true rfl))))
        refine wp_of (with_eq _ gq gk hce (by omega) (by omega) (by omega) _) ?_
        (repeat (with_reducible refine wa_n ?_))
        refine wp_appT hT (by omega) (withT (td2 td_int tz1)) fun M7 hT7 hold7 => ?_
        (repeat (first |(with_reducible first |refine we_mt ?_|refine ss_c ?_|refine ss_ex ?_) |(((with_reducible refine we_v (w := ?_) ?_ ?_); rotate_left; · rfl))))
        refine and_T hT7 ?_
        (repeat (first |(with_reducible first |refine we_c ?_|refine we_b ?_|refine wa_c ?_|refine wa_n ?_|refine we_call ?_|refine we_tup ?_|refine wp_si ?_) |(((with_reducible refine we_v (w := ?_) ?_ ?_); rotate_left; · rfl)) |(((with_reducible refine and_le ?_ ?_); · exact Nat.le_of_ble_eq_true rfl))))
        obtain ⟨us2, hg2, tus2⟩ : ∃ us2, gMul (.tup [.tup []]) (.int ((m : Int) - 1)) (W e c L M7) = some (.tup us2, W e c L M7) ∧ TD 12 3 (.tup ([z] ++ us2)) ∧ us2.length ≤ 1 := by
          rcases (show m = 1 ∨ m = 2 by omega) with rfl | rfl
          · refine ⟨[], ?_, td_l (by simp) fun u hu => ?_, by simp⟩
            · simp only [gMul]
              rw [if_neg (by decide), if_neg (by omega), if_pos (by decide)]
            · rw [List.append_nil] at hu
              rw [List.mem_singleton.mp hu]; exact tz
          · refine ⟨[.tup []], ?_, td_l (Nat.le_of_ble_eq_true rfl) fun u hu => ?_, by simp⟩
            · simp only [gMul]
              rw [if_pos (by decide)]
            · simp only [List.mem_append, List.mem_cons, List.not_mem_nil, or_false] at hu
              rcases hu with rfl | rfl
              · exact tz
              · exact td_0
        refine wp_of hg2 ?_
        skip
        refine wp_at (by simp; omega) ?_
        (repeat (first |(with_reducible refine wa_n ?_) |(((with_reducible refine and_len ?_ ?_); · rfl)) |(((with_reducible refine and_le ?_ ?_); · exact Nat.le_of_ble_eq_true rfl))))
        refine wp_of (with_eq _ gq gk hce (by omega) (by omega) (by omega) _) ?_
        (repeat (with_reducible refine wa_n ?_))
        refine wp_appT hT7 (by omega) (withT (td2 td_int tus2.1)) fun M8 hT8 hold8 => ?_
        (repeat (with_reducible refine ss_n ?_))
        exact hd ⟨_, _, rfl, rfl, hT8.le (by omega), fun j o hj ho => hold8 j o hj (hold7 j o hj (hold j o hj ho))⟩
      · rintro fm s ⟨M', x12, rfl, rfl, hT, _⟩
        have hT : Tk k (76 + 2 * zs.length) M' := hT
        (repeat (first |(with_reducible first |refine we_mt ?_|refine ss_c ?_|refine ss_ex ?_) |(((with_reducible refine we_v (w := ?_) ?_ ?_); rotate_left; · rfl))))
        refine and_T hT ?_
        (repeat (first |(with_reducible first |refine we_c ?_|refine we_b ?_|refine wa_c ?_|refine wa_n ?_|refine we_call ?_|refine we_tup ?_) |(((with_reducible refine we_v (w := ?_) ?_ ?_); rotate_left; · rfl)) |(((with_reducible refine and_le ?_ ?_); · exact Nat.le_of_ble_eq_true rfl))))
        obtain ⟨us2, hg2, tus2⟩ : ∃ us2, gMul (.tup [.tup [.int 0]]) (.int (m : Nat)) (W e c L M') = some (.tup us2, W e c L M') ∧ TD 12 3 (.tup us2) := by
          rcases (show m = 1 ∨ m = 2 by omega) with rfl | rfl
          · refine ⟨[.tup [.int 0]], ?_, td1 (td1 td_int)⟩
            simp only [gMul]
            rw [if_pos (by decide)]
          · refine ⟨[.tup [.int 0], .tup [.int 0]], ?_, td2 (td1 td_int) (td1 td_int)⟩
            simp only [gMul]
            rw [if_neg (by decide), if_pos (by decide)]
            rfl
        refine wp_of hg2 ?_
        (repeat (first |(with_reducible refine wa_n ?_) |(((with_reducible refine and_len ?_ ?_); · rfl)) |(((with_reducible refine and_le ?_ ?_); · exact Nat.le_of_ble_eq_true rfl))))
        refine wp_of (with_eq _ gq gk hce (by omega) (by omega) (by omega) _) ?_
        (repeat (with_reducible refine wa_n ?_))
        refine wp_appT hT (by omega) (withT (td2 td_int tus2)) fun M8 hT8 hold8 => ?_
        (repeat (with_reducible refine ss_n ?_))
        exact hd ⟨_, _, _, _, rfl, rfl, hT8.le (by omega)⟩
    · (repeat (with_reducible refine ss_n ?_))
      exact hd ⟨_, _, _, _, rfl, rfl, hM5.le (by omega)⟩
  rintro fm s ⟨c, M, x12, x14, rfl, rfl, hM6⟩
  (repeat (first |(with_reducible first |refine wa_c ?_|refine wa_n ?_|refine we_call ?_|refine we_tup ?_|refine ss_c ?_|refine ss_for ?_|refine wi_a ?_) |(((with_reducible refine we_v (w := ?_) ?_ ?_); rotate_left; · rfl)) |(((with_reducible refine and_len ?_ ?_); · rfl)) |(((with_reducible refine and_le ?_ ?_); · exact Nat.le_of_ble_eq_true rfl))))
  refine rows_M (ws := []) (td_tup (Nat.zero_le _) fun _ h => (List.not_mem_nil h).elim) fun k2 G zs hG hzl hz => ?_
  have hk6 := hkl hM6
  have hM7 : Tk k 125 (M ++ G) := hM6.push
  have hs6 : (M ++ G)[M.length + k2]? = some (.lst zs) := by rw [List.getElem?_append_right (Nat.le_add_right _ _), Nat.add_sub_cancel_left]; exact hG
  have hne : M.length + k2 ≠ k := by omega
  generalize M ++ G = M7 at hM7 hs6 ⊢
  generalize M.length + k2 = l6 at hs6 hne ⊢
  refine src_W hs6 ?_
  refine app_loop hM7 hs6 hne (by omega) (by intro h; rw [h] at hzl; simp at hzl) rfl (by decide) (fun z hz' M2 => ?_) fun z M8 hM8 _ => ?_
  · (repeat (first |(with_reducible first |refine we_c ?_|refine wa_c ?_|refine wa_n ?_|refine we_call ?_) |(((with_reducible refine we_v (w := ?_) ?_ ?_); rotate_left; · rfl)) |(((with_reducible refine and_len ?_ ?_); · rfl))))
    refine wp_of (put_eq z hq2 (by omega) _) ?_
    (repeat (first |(with_reducible refine wa_n ?_) |(((with_reducible refine and_len ?_ ?_); · rfl))))
    refine wp_of (put6 5 (by decide) _ _) ?_
    exact ⟨rfl, hF.put 5 (putN q (TD.lift (by omega) (hz z hz')))⟩
  (repeat (first |(with_reducible first |refine ss_c ?_|refine ss_ret ?_) |(((with_reducible refine we_v (w := ?_) ?_ ?_); rotate_left; · rfl))))
  exact hR _ _ (hM8.le (by omega))
end L_k14
set_option maxHeartbeats 16000000
namespace L_k14
open PySem PySem.Spec PyProof.Rows L2 T3
/-- from the goals on -/
noncomputable abbrev suff1 : Sm := (sCons (sFor (iA (eLst (aC (eA gLen (aC (eV 3) aN)) (aC (eU gNeg (eC (.int 1))) (aC (eC (.bl true)) (aC (eC (.str [48])) (aC (eC .non) (aC (eB gSub (eA gLen (aC (eV 3) aN)) (eC (.int 1))) aN)))))))) (gN 11) (sCons (sEx (eMt "list" gApp (eV 7) (aC (eCall 3 c_put (aC (eV 1) (aC (eC (.int 2)) (aC (eCall 3 c_put (aC (eV 3) (aC (eV 8) (aC (eCall 3 c_put (aC (eB gIx (eV 3) (eV 8)) (aC (eV 9) (aC (eV 11) aN)))) aN)))) aN)))) aN)))
  sNil))
  (sCons (sFor (iA (eB gAdd (eCall 1 c_sizes (aC (eB gIx (eV 3) (eV 8)) aN)) (eLst (aC (eC (.int 0)) (aC (eTup aN) aN))))) (gN 12) (sCons (sEx (eMt "list" gApp (eV 7) (aC (eCall 3 c_put (aC (eV 1) (aC (eC (.int 2)) (aC (eCall 3 c_put (aC (eV 3) (aC (eV 8) (aC (eV 12) aN)))) aN)))) aN)))
  sNil))
  (sCons (sFor (iA (eB gAdd (eCall 1 c_sizes (aC (eV 3) aN)) (eLst (aC (eTup aN) aN)))) (gN 12) (sCons (sEx (eMt "list" gApp (eV 7) (aC (eCall 3 c_put (aC (eV 1) (aC (eC (.int 2)) (aC (eV 12) aN)))) aN)))
  sNil))
  (sCons (sFor (iA (eB gAdd (eCall 1 c_sizes (aC (eV 5) aN)) (eLst (aC (eTup aN) aN)))) (gN 12) (sCons (sEx (eMt "list" gApp (eV 7) (aC (eCall 3 c_put (aC (eV 1) (aC (eC (.int 4)) (aC (eV 12) aN)))) aN)))
  sNil))
  (sCons (sFor (iA (eB gAdd (eCall 1 c_sizes (aC (eV 6) aN)) (eLst (aC (eTup aN) aN)))) (gN 12) (sCons (sEx (eMt "list" gApp (eV 7) (aC (eCall 3 c_put (aC (eV 1) (aC (eC (.int 5)) (aC (eV 12) aN)))) aN)))
  sNil))
  (sCons (sFor (iA (eCall 1 c_sizes (aC (eB gIx (eV 5) (eV 10)) aN))) (gN 12) (sCons (sEx (eMt "list" gApp (eV 7) (aC (eCall 3 c_put (aC (eV 1) (aC (eC (.int 4)) (aC (eCall 3 c_put (aC (eV 5) (aC (eV 10) (aC (eV 12) aN)))) aN)))) aN)))
  sNil))
  (sCons (sFor (iA (eCall 1 c_sizes (aC (eB gIx (eB gIx (eV 5) (eV 10)) (eV 9)) aN))) (gN 12) (sCons (sEx (eMt "list" gApp (eV 7) (aC (eCall 3 c_put (aC (eV 1) (aC (eC (.int 4)) (aC (eCall 3 c_put (aC (eV 5) (aC (eV 10) (aC (eCall 3 c_put (aC (eB gIx (eV 5) (eV 10)) (aC (eV 9) (aC (eV 12) aN)))) aN)))) aN)))) aN)))
  sNil))
  (sCons (sSet 13 (eCall 2 cA_news (aC (eV 0) (aC (eV 4) aN))))
  (sCons (sFor (iA (eLst (aC (eC .non) (aC (eTup aN) (aC (eTup (aC (eC (.int 0)) aN)) (aC (eTup (aC (eC (.int 0)) (aC (eV 13) (aC (eC (.int 0)) aN)))) (aC (eTup (aC (eA gLen (aC (eV 6) aN)) (aC (eV 13) aN))) (aC (eTup (aC (eU gNeg (eC (.int 1))) (aC (eV 13) aN))) (aC (eTup (aC (eC (.bl true)) (aC (eV 13) aN))) (aC (eTup (aC (eC (.str [48])) (aC (eV 13) aN))) (aC (eTup (aC (eB gSub (eA gLen (aC (eV 6) aN)) (eC (.int 1))) (aC (eV 13) aN))) (aC (eV 13) (aC (eC (.int 0)) (aC (eTup (aC (eC (.int 0)) (aC (eC .non) aN))) aN)))))))))))))) (gN 14) (sCons (sEx (eMt "list" gApp (eV 7) (aC (eCall 5 m__law_with_entry (aC (eV 1) (aC (eV 10) (aC (eV 9) (aC (eV 8) (aC (eV 14) aN)))))) aN)))
  sNil))
  (sCons (sFor (iA (eCall 1 c_sizes (aC (eV 13) aN))) (gN 12) (sCons (sEx (eMt "list" gApp (eV 7) (aC (eCall 5 m__law_with_entry (aC (eV 1) (aC (eV 10) (aC (eV 9) (aC (eV 8) (aC (eTup (aC (eC (.int 0)) (aC (eV 12) aN))) aN)))))) aN)))
  sNil))
  (sCons (sIf (bB gGt (eV 4) (eC (.int 0))) (sCons (sFor (iA (eCall 2 m__law_rows (aC (eB gIx (eV 13) (eC (.int 0))) (aC (eV 4) aN)))) (gN 12) (sCons (sEx (eMt "list" gApp (eV 7) (aC (eCall 5 m__law_with_entry (aC (eV 1) (aC (eV 10) (aC (eV 9) (aC (eV 8) (aC (eTup (aC (eC (.int 0)) (aC (eB gAdd (eTup (aC (eV 12) aN)) (eCut (eV 13) (pSo (eC (.int 1))) pNo)) aN))) aN)))))) aN)))
  (sCons (sEx (eMt "list" gApp (eV 7) (aC (eCall 5 m__law_with_entry (aC (eV 1) (aC (eV 10) (aC (eV 9) (aC (eV 8) (aC (eTup (aC (eC (.int 0)) (aC (eB gAdd (eTup (aC (eV 12) aN)) (eB gMul (eTup (aC (eTup aN) aN)) (eB gSub (eV 4) (eC (.int 1))))) aN))) aN)))))) aN)))
  sNil)))
  (sCons (sEx (eMt "list" gApp (eV 7) (aC (eCall 5 m__law_with_entry (aC (eV 1) (aC (eV 10) (aC (eV 9) (aC (eV 8) (aC (eTup (aC (eC (.int 0)) (aC (eB gMul (eTup (aC (eTup (aC (eC (.int 0)) aN)) aN)) (eV 4)) aN))) aN)))))) aN)))
  sNil)) sNil)
  (sCons (sFor (iA (eCall 2 m__law_rows (aC (eTup aN) (aC (eV 4) aN)))) (gN 12) (sCons (sEx (eMt "list" gApp (eV 7) (aC (eCall 3 c_put (aC (eV 1) (aC (eC (.int 5)) (aC (eCall 3 c_put (aC (eV 6) (aC (eV 10) (aC (eV 12) aN)))) aN)))) aN)))
  sNil))
  (sCons (sRet (eV 7))
  sNil)))))))))))))
theorem suff1_D {e : Dw} {L : Sto} {ls : List Nat} {ah rw_ en : List Va} {m : Nat} (hF : BF ls ah m rw_ en) {cc kk q k : Nat} (hcc : cc < ah.length) (hkk : kk < ls.length) (hq : q < rw_.length) (c : Nat) (M : Sto) (hM : Tk k 24 M) {N : Fm → Sto → Prop} {R : Va → Sto → Prop} {B C : Fm → Sto → Prop} (hR : ∀ c M, Tk k 300 M → R (.ref (e.p L + k)) (W e c L M)) :
    Ws (suff1 (FQ e.d ls ah m rw_ en (.ref (e.p L + k)) cc kk q none none none none none none) (W e c L M)) N R B C := by
  have hll := hF.lsl
  have hal := hF.al
  have hel := hF.el
  have hrl := hF.rl
  have hm2 := hF.m2
  have hq2 : q < en.length := by omega
  obtain ⟨us, hus, hul⟩ := hF.ag cc _ (List.getElem?_eq_getElem hcc)
  have gc : ah[cc]? = some (.tup us) := by rw [List.getElem?_eq_getElem hcc, hus]
  obtain ⟨ps, hps, hpl, hpe⟩ := hF.rg q _ (List.getElem?_eq_getElem hq)
  have gq : rw_[q]? = some (.tup ps) := by rw [List.getElem?_eq_getElem hq, hps]
  obtain ⟨es, hes, hesl⟩ := hpe kk _ (List.getElem?_eq_getElem (show kk < ps.length by omega))
  have gk : ps[kk]? = some (.tup es) := by rw [List.getElem?_eq_getElem (show kk < ps.length by omega), hes]
  have hce : cc < es.length := by omega
  obtain ⟨_, ta⟩ := tup_in hF.at_
  have tus : TD 6 1 (.tup us) := ta _ (List.mem_of_getElem? gc)
  obtain ⟨_, tu⟩ := tup_in tus
  obtain ⟨_, tr⟩ := tup_in hF.rt
  have tps : TD 6 5 (.tup ps) := tr _ (List.mem_of_getElem? gq)
  obtain ⟨_, tp⟩ := tup_in tps
  have tes : TD 6 4 (.tup es) := tp _ (List.mem_of_getElem? gk)
  obtain ⟨_, te⟩ := tup_in tes
  obtain ⟨_, tn⟩ := tup_in hF.et
  have putA : ∀ (i : Nat) {x : Va}, TD 12 7 x → TD 12 8 (.tup (ah.set i x)) := fun i x hx => set_td (by omega) (fun u hu => td_up (by omega) (by omega) (ta u hu)) hx
  have putU : ∀ (i : Nat) {x : Va}, TD 12 6 x → TD 12 7 (.tup (us.set i x)) := fun i x hx => set_td (by omega) (fun u hu => td_up (by omega) (by omega) (tu u hu)) hx
  have putR : ∀ (i : Nat) {x : Va}, TD 12 7 x → TD 12 8 (.tup (rw_.set i x)) := fun i x hx => set_td (by omega) (fun u hu => td_up (by omega) (by omega) (tr u hu)) hx
  have putP : ∀ (i : Nat) {x : Va}, TD 12 6 x → TD 12 7 (.tup (ps.set i x)) := fun i x hx => set_td (by omega) (fun u hu => td_up (by omega) (by omega) (tp u hu)) hx
  have putE : ∀ (i : Nat) {x : Va}, TD 12 5 x → TD 12 6 (.tup (es.set i x)) := fun i x hx => set_td (by omega) (fun u hu => td_up (by omega) (by omega) (te u hu)) hx
  have putN : ∀ (i : Nat) {x : Va}, TD 12 7 x → TD 12 8 (.tup (en.set i x)) := fun i x hx => set_td (by omega) (fun u hu => td_up (by omega) (by omega) (tn u hu)) hx
  have hkl : ∀ {N : Nat} {M : Sto}, Tk k N M → k < M.length := fun h => by
    obtain ⟨ts, h1, _⟩ := h
    exact at_lt h1
  unfold suff1
  (repeat (first |(with_reducible first |refine we_c ?_|refine we_b ?_|refine we_a ?_|refine wa_c ?_|refine wa_n ?_|refine we_lstW ?_|refine we_u ?_|refine ss_c ?_|refine ss_for ?_|refine wi_a ?_|refine wp_si ?_|refine wp_ng ?_|refine wp_lent ?_|refine inW_mk ?_) |(((with_reducible refine we_v (w := ?_) ?_ ?_); rotate_left; · rfl)) |(((with_reducible refine and_le ?_ ?_); · exact Nat.le_of_ble_eq_true rfl))))
  have hk1 := hkl hM
  refine src_W at_last ?_
  refine app_loop hM.push at_last (by omega) (by simp) (by simp) rfl (by decide) (fun z hz' M2 => ?_) fun z M4 hM4 _ => ?_
  · (repeat (first |(with_reducible first |refine we_c ?_|refine we_b ?_|refine wa_c ?_|refine we_call ?_) |(((with_reducible refine we_v (w := ?_) ?_ ?_); rotate_left; · rfl))))
    refine wp_ixt (w := .tup us) (by rw [atI_n, gc]) ?_
    (repeat (first |(with_reducible first |refine wa_c ?_|refine wa_n ?_) |(((with_reducible refine we_v (w := ?_) ?_ ?_); rotate_left; · rfl)) |(((with_reducible refine and_len ?_ ?_); · rfl))))
    refine wp_of (put_eq z (by omega) (by omega) _) ?_
    (repeat (first |(with_reducible refine wa_n ?_) |(((with_reducible refine and_len ?_ ?_); · rfl))))
    refine wp_of (put_eq _ hcc (by omega) _) ?_
    (repeat (first |(with_reducible refine wa_n ?_) |(((with_reducible refine and_len ?_ ?_); · rfl))))
    refine wp_of (put6 2 (by decide) _ _) ?_
    exact ⟨rfl, hF.put 2 (putA cc (putU kk (TD.lift (by omega) (six_mem hz'))))⟩
  have hM4 : Tk k 30 M4 := hM4.le (by simp)
  clear hk1 hM
  (repeat (first |(with_reducible first |refine we_b ?_|refine wa_c ?_|refine we_call ?_|refine ss_c ?_|refine ss_for ?_|refine wi_a ?_) |(((with_reducible refine we_v (w := ?_) ?_ ?_); rotate_left; · rfl))))
  refine wp_ixt (w := .tup us) (by rw [atI_n, gc]) ?_
  (repeat (first |(with_reducible refine wa_n ?_) |(((with_reducible refine and_len ?_ ?_); · rfl))))
  refine sizes_M tus (by omega) fun zs hzl hz => ?_
  (repeat (first |(with_reducible first |refine we_c ?_|refine wa_c ?_|refine wa_n ?_|refine we_tup ?_|refine we_lstW ?_|refine inW_mk ?_) |(((with_reducible refine and_le ?_ ?_); · exact Nat.le_of_ble_eq_true rfl))))
  refine wp_addL (at_push at_last) at_last (by simp; omega) ?_
  skip
  have hk1 := hkl hM4
  refine src_W at_last ?_
  refine app_loop hM4.push.push.push at_last (by simp; omega) (by simp; omega) (by simp) rfl (by decide) (fun z hz' M2 => ?_) fun z M5 hM5 _ => ?_
  · have tz : TD 12 7 z := by
      rcases List.mem_append.mp hz' with h | h
      · exact TD.lift (by omega) (hz z h)
      · simp only [List.mem_cons, List.not_mem_nil, or_false] at h
        rcases h with rfl | rfl
        · exact td_int
        · exact td_0
    (repeat (first |(with_reducible first |refine we_c ?_|refine wa_c ?_|refine wa_n ?_|refine we_call ?_) |(((with_reducible refine we_v (w := ?_) ?_ ?_); rotate_left; · rfl)) |(((with_reducible refine and_len ?_ ?_); · rfl))))
    refine wp_of (put_eq z hcc (by omega) _) ?_
    (repeat (first |(with_reducible refine wa_n ?_) |(((with_reducible refine and_len ?_ ?_); · rfl))))
    refine wp_of (put6 2 (by decide) _ _) ?_
    exact ⟨rfl, hF.put 2 (putA cc tz)⟩
  have hM5 : Tk k 36 M5 := hM5.le (by simp; omega)
  clear hk1 hM4 hz hzl
  (repeat (first |(with_reducible first |refine we_b ?_|refine wa_c ?_|refine wa_n ?_|refine we_call ?_|refine ss_c ?_|refine ss_for ?_|refine wi_a ?_) |(((with_reducible refine we_v (w := ?_) ?_ ?_); rotate_left; · rfl)) |(((with_reducible refine and_len ?_ ?_); · rfl))))
  skip
  refine sizes_M hF.at_ (by omega) fun zs hzl hz => ?_
  (repeat (first |(with_reducible first |refine wa_c ?_|refine wa_n ?_|refine we_tup ?_|refine we_lstW ?_|refine inW_mk ?_) |(((with_reducible refine and_le ?_ ?_); · exact Nat.le_of_ble_eq_true rfl))))
  refine wp_addL (at_push at_last) at_last (by simp; omega) ?_
  skip
  have hk1 := hkl hM5
  refine src_W at_last ?_
  refine app_loop hM5.push.push.push at_last (by simp; omega) (by simp; omega) (by simp) rfl (by decide) (fun z hz' M2 => ?_) fun z M6 hM6 _ => ?_
  · have tz : TD 12 7 z := by
      rcases List.mem_append.mp hz' with h | h
      · exact TD.lift (by omega) (hz z h)
      · rw [List.mem_singleton.mp h]; exact td_0
    (repeat (first |(with_reducible first |refine we_c ?_|refine wa_c ?_|refine wa_n ?_|refine we_call ?_) |(((with_reducible refine we_v (w := ?_) ?_ ?_); rotate_left; · rfl)) |(((with_reducible refine and_len ?_ ?_); · rfl))))
    refine wp_of (put6 2 (by decide) _ _) ?_
    exact ⟨rfl, hF.put 2 (TD.lift (by omega) tz)⟩
  have hM6 : Tk k 41 M6 := hM6.le (by simp; omega)
  clear hk1 hM5 hz hzl
  (repeat (first |(with_reducible first |refine we_b ?_|refine wa_c ?_|refine wa_n ?_|refine we_call ?_|refine ss_c ?_|refine ss_for ?_|refine wi_a ?_) |(((with_reducible refine we_v (w := ?_) ?_ ?_); rotate_left; · rfl)) |(((with_reducible refine and_len ?_ ?_); · rfl))))
  refine sizes_M hF.rt (by omega) fun zs hzl hz => ?_
  (repeat (first |(with_reducible first |refine wa_c ?_|refine wa_n ?_|refine we_tup ?_|refine we_lstW ?_|refine inW_mk ?_) |(((with_reducible refine and_le ?_ ?_); · exact Nat.le_of_ble_eq_true rfl))))
  refine wp_addL (at_push at_last) at_last (by simp; omega) ?_
  skip
  have hk1 := hkl hM6
  refine src_W at_last ?_
  refine app_loop hM6.push.push.push at_last (by simp; omega) (by simp; omega) (by simp) rfl (by decide) (fun z hz' M2 => ?_) fun z M7 hM7 _ => ?_
  · have tz : TD 12 7 z := by
      rcases List.mem_append.mp hz' with h | h
      · exact TD.lift (by omega) (hz z h)
      · rw [List.mem_singleton.mp h]; exact td_0
    (repeat (first |(with_reducible first |refine we_c ?_|refine wa_c ?_|refine wa_n ?_|refine we_call ?_) |(((with_reducible refine we_v (w := ?_) ?_ ?_); rotate_left; · rfl)) |(((with_reducible refine and_len ?_ ?_); · rfl))))
    refine wp_of (put6 4 (by decide) _ _) ?_
    exact ⟨rfl, hF.put 4 (TD.lift (by omega) tz)⟩
  have hM7 : Tk k 46 M7 := hM7.le (by simp; omega)
  clear hk1 hM6 hz hzl
  (repeat (first |(with_reducible first |refine we_b ?_|refine wa_c ?_|refine wa_n ?_|refine we_call ?_|refine ss_c ?_|refine ss_for ?_|refine wi_a ?_) |(((with_reducible refine we_v (w := ?_) ?_ ?_); rotate_left; · rfl)) |(((with_reducible refine and_len ?_ ?_); · rfl))))
  refine sizes_M hF.et (by omega) fun zs hzl hz => ?_
  (repeat (first |(with_reducible first |refine wa_c ?_|refine wa_n ?_|refine we_tup ?_|refine we_lstW ?_|refine inW_mk ?_) |(((with_reducible refine and_le ?_ ?_); · exact Nat.le_of_ble_eq_true rfl))))
  refine wp_addL (at_push at_last) at_last (by simp; omega) ?_
  skip
  have hk1 := hkl hM7
  refine src_W at_last ?_
  refine app_loop hM7.push.push.push at_last (by simp; omega) (by simp; omega) (by simp) rfl (by decide) (fun z hz' M2 => ?_) fun z M8 hM8 _ => ?_
  · have tz : TD 12 7 z := by
      rcases List.mem_append.mp hz' with h | h
      · exact TD.lift (by omega) (hz z h)
      · rw [List.mem_singleton.mp h]; exact td_0
    (repeat (first |(with_reducible first |refine we_c ?_|refine wa_c ?_|refine wa_n ?_|refine we_call ?_) |(((with_reducible refine we_v (w := ?_) ?_ ?_); rotate_left; · rfl)) |(((with_reducible refine and_len ?_ ?_); · rfl))))
    refine wp_of (put6 5 (by decide) _ _) ?_
    exact ⟨rfl, hF.put 5 (TD.lift (by omega) tz)⟩
  have hM8 : Tk k 51 M8 := hM8.le (by simp; omega)
  clear hk1 hM7 hz hzl
  (repeat (first |(with_reducible first |refine we_b ?_|refine wa_c ?_|refine we_call ?_|refine ss_c ?_|refine ss_for ?_|refine wi_a ?_) |(((with_reducible refine we_v (w := ?_) ?_ ?_); rotate_left; · rfl))))
  refine wp_ixt (w := .tup ps) (by rw [atI_n, gq]) ?_
  (repeat (first |(with_reducible refine wa_n ?_) |(((with_reducible refine and_len ?_ ?_); · rfl))))
  refine sizes_M tps (by omega) fun zs hzl hz => ?_
  have hk1 := hkl hM8
  refine src_W at_last ?_
  refine app_loop hM8.push at_last (by omega) (by omega) (by intro h; rw [h] at hzl; cases hzl) rfl (by decide) (fun z hz' M2 => ?_) fun z M9 hM9 _ => ?_
  · have tz := hz z hz'
    (repeat (first |(with_reducible first |refine we_c ?_|refine wa_c ?_|refine wa_n ?_|refine we_call ?_) |(((with_reducible refine we_v (w := ?_) ?_ ?_); rotate_left; · rfl)) |(((with_reducible refine and_len ?_ ?_); · rfl))))
    refine wp_of (put_eq z hq (by omega) _) ?_
    (repeat (first |(with_reducible refine wa_n ?_) |(((with_reducible refine and_len ?_ ?_); · rfl))))
    refine wp_of (put6 4 (by decide) _ _) ?_
    exact ⟨rfl, hF.put 4 (putR q (TD.lift (by omega) tz))⟩
  have hM9 : Tk k 55 M9 := hM9.le (by omega)
  clear hk1 hM8 hz hzl
  (repeat (first |(with_reducible first |refine we_b ?_|refine wa_c ?_|refine we_call ?_|refine ss_c ?_|refine ss_for ?_|refine wi_a ?_) |(((with_reducible refine we_v (w := ?_) ?_ ?_); rotate_left; · rfl))))
  refine wp_ixt (w := .tup ps) (by rw [atI_n, gq]) ?_
  (repeat (((with_reducible refine we_v (w := ?_) ?_ ?_); rotate_left; · rfl)))
  refine wp_ixt (w := .tup es) (by rw [atI_n, gk]) ?_
  (repeat (first |(with_reducible refine wa_n ?_) |(((with_reducible refine and_len ?_ ?_); · rfl))))
  refine sizes_M tes (by omega) fun zs hzl hz => ?_
  have hk1 := hkl hM9
  refine src_W at_last ?_
  refine app_loop hM9.push at_last (by omega) (by omega) (by intro h; rw [h] at hzl; cases hzl) rfl (by decide) (fun z hz' M2 => ?_) fun z M10 hM10 _ => ?_
  · have tz := hz z hz'
    (repeat (first |(with_reducible first |refine we_c ?_|refine we_b ?_|refine wa_c ?_|refine we_call ?_) |(((with_reducible refine we_v (w := ?_) ?_ ?_); rotate_left; · rfl))))
    refine wp_ixt (w := .tup ps) (by rw [atI_n, gq]) ?_
    (repeat (first |(with_reducible first |refine wa_c ?_|refine wa_n ?_) |(((with_reducible refine we_v (w := ?_) ?_ ?_); rotate_left; · rfl)) |(((with_reducible refine and_len ?_ ?_); · rfl))))
    refine wp_of (put_eq z (by omega) (by omega) _) ?_
    (repeat (first |(with_reducible refine wa_n ?_) |(((with_reducible refine and_len ?_ ?_); · rfl))))
    refine wp_of (put_eq _ hq (by omega) _) ?_
    (repeat (first |(with_reducible refine wa_n ?_) |(((with_reducible refine and_len ?_ ?_); · rfl))))
    refine wp_of (put6 4 (by decide) _ _) ?_
    exact ⟨rfl, hF.put 4 (putR q (putP kk (TD.lift (by omega) tz)))⟩
  have hM10 : Tk k 59 M10 := hM10.le (by omega)
  clear hk1 hM9 hz hzl
  refine ss_c (ss_set ?_)
  (repeat (first |(with_reducible first |refine wa_c ?_|refine wa_n ?_|refine we_call ?_) |(((with_reducible refine we_v (w := ?_) ?_ ?_); rotate_left; · rfl)) |(((with_reducible refine and_len ?_ ?_); · rfl))))
  rw [W_in]
  refine (newsA_D e c (L ++ M10) (m := m) (by omega)).imp ?_
  rintro r s ⟨c2, rows, rfl, rfl, hn⟩
  rw [← W_in]
  exact suff2_D hF hcc hkk hq (nw := rows.map rowVa) (by rw [List.length_map]; exact hn.len) (news_td hn (by omega) (by omega)) (fun r hr => by
    obtain ⟨x, _, rfl⟩ := List.mem_map.mp hr
    exact ⟨_, rfl⟩) c2 M10 (hM10.le (by omega)) _ _ hR
end L_k14
set_option maxHeartbeats 16000000
namespace L_k14
open PySem PySem.Spec PyProof.Rows L2 T3
theorem things_D {ls : List Nat} {ah rw_ en : List Va} {m : Nat} (hF : BF ls ah m rw_ en) (e : Dw) (a : Nat) (L : Sto) : Wp (m__law_things [.ref e.d, .tup (bd6 ls ah m rw_ en)] (W e a L [])) fun r s => Hd (∃ c M k, r = .ref (e.p L + k) ∧ s = W e c L M ∧ Tk k 300 M) := by
  have hll := hF.lsl
  have hal := hF.al
  have hel := hF.el
  have hrl := hF.rl
  have hm2 := hF.m2
  have tH' : TD 6 7 (.tup (bd6 ls ah m rw_ en)) := td_tup (by show 6 ≤ 6; decide) fun u hu => by
    simp only [List.mem_cons, List.not_mem_nil, or_false] at hu
    rcases hu with rfl | rfl | rfl | rfl | rfl | rfl
    · exact td_str (by decide) cps_boxes
    · exact td_str (by omega) (cps_abc hF.lsc)
    · exact TD.lift (by omega) hF.at_
    · exact td_int
    · exact hF.rt
    · exact TD.lift (by omega) hF.et
  unfold m__law_things
  rw [show m__law_pick = c_pick from rfl, put_is, sizes_is, news_is]
  refine wp_fn rfl ?_
  (repeat (first |(with_reducible first |refine we_c ?_|refine we_b ?_|refine wa_c ?_|refine wa_n ?_|refine we_call ?_|refine we_tup ?_|refine ss_c ?_|refine ss_set ?_|refine ss_asg ?_) |(((with_reducible refine we_v (w := ?_) ?_ ?_); rotate_left; · rfl)) |(((with_reducible refine wp_ixt (w := ?_) ?_ ?_); rotate_left; · rfl)) |(((with_reducible refine ex_some (y := ?_) ?_ ?_); rotate_left; · rfl)) |(((with_reducible refine and_len ?_ ?_); · rfl)) |(((with_reducible refine and_le ?_ ?_); · exact Nat.le_of_ble_eq_true rfl))))
  refine sizes_M tH' (by omega) fun zs hzl hz => ?_
  skip
  refine lc_lit (zs := [.str [98, 111, 120], .str [104, 101, 97, 100], .int 0, .non]) ?_ (by decide) (fun z hz X => ?_) fun ys hyl hy => ?_
  · (repeat (first |(with_reducible first |refine we_c ?_|refine wa_c ?_|refine wa_n ?_|refine we_lstW ?_|refine wi_a ?_|refine inW_mk ?_) |(((with_reducible refine and_le ?_ ?_); · exact Nat.le_of_ble_eq_true rfl))))
    exact src_W at_last ⟨rfl, rfl⟩
  · (repeat (first |(with_reducible first |refine we_c ?_|refine wa_c ?_|refine wa_n ?_|refine we_call ?_) |(((with_reducible refine we_v (w := ?_) ?_ ?_); rotate_left; · rfl)) |(((with_reducible refine and_len ?_ ?_); · rfl))))
    refine wp_of (put6 0 (by decide) _ _) ?_
    exact ⟨rfl, hF.put 0 (four_mem hz)⟩
  refine wp_addL (at_push (at_push rfl)) at_last (by simp [hzl, hyl]) ?_
  (repeat (first |(with_reducible first |refine we_b ?_|refine ss_c ?_|refine ss_set ?_) |(((with_reducible refine we_v (w := ?_) ?_ ?_); rotate_left; · rfl))))
  have hM : Tk 3 8 ([] ++ [Ob.lst zs] ++ [Ob.lst [Va.str [98, 111, 120], .str [104, 101, 97, 100], .int 0, .non]] ++ [Ob.lst ys] ++ [Ob.lst (zs ++ ys)]) := ⟨zs ++ ys, rfl, by rw [List.length_append, hzl, hyl]; decide, fun t ht => by
    rcases List.mem_append.mp ht with h | h
    · exact TD.lift (by omega) (hz t h)
    · exact hy t h⟩
  generalize [] ++ [Ob.lst zs] ++ [Ob.lst [Va.str [98, 111, 120], .str [104, 101, 97, 100], .int 0, .non]] ++ [Ob.lst ys] ++ [Ob.lst (zs ++ ys)] = M at hM ⊢
  obtain ⟨ts, ht1, ht2, ht3⟩ := hM
  refine lc_lit (zs := [.str [], .str (ls ++ [121]), .str (cutL ls none (some 1)), .str [98, 97], .str [97, 97], .str [97, 66], .int 5, .tup [.str [97], .str [98]], .str [97, 32]]) ?_ (by simp) (fun z hz X => ?_) fun ys hyl hy => ?_
  · (repeat (first |(with_reducible first |refine we_c ?_|refine we_b ?_|refine wa_c ?_|refine we_lstW ?_|refine wi_a ?_) |(((with_reducible refine we_v (w := ?_) ?_ ?_); rotate_left; · rfl))))
    refine wp_as (by simp; omega) ?_
    (repeat (first |(with_reducible first |refine we_c ?_|refine wa_c ?_|refine we_cut ?_|refine wo_n ?_|refine wo_s ?_|refine ex_int ?_) |(((with_reducible refine we_v (w := ?_) ?_ ?_); rotate_left; · rfl))))
    refine wp_cutS (by omega) ?_
    (repeat (first |(with_reducible first |refine we_c ?_|refine wa_c ?_|refine wa_n ?_|refine we_tup ?_|refine inW_mk ?_) |(((with_reducible refine and_le ?_ ?_); · exact Nat.le_of_ble_eq_true rfl))))
    exact src_W at_last ⟨rfl, rfl⟩
  · (repeat (first |(with_reducible first |refine we_c ?_|refine wa_c ?_|refine wa_n ?_|refine we_call ?_) |(((with_reducible refine we_v (w := ?_) ?_ ?_); rotate_left; · rfl)) |(((with_reducible refine and_len ?_ ?_); · rfl))))
    refine wp_of (put6 1 (by decide) _ _) ?_
    exact ⟨rfl, hF.put 1 (nine_mem hll.2 hF.lsc hz)⟩
  have hyl : ys.length = 9 := hyl
  refine wp_addL (k := 3) (at_push (at_push ht1)) at_last (by omega) ?_
  (repeat (first |(with_reducible first |refine we_b ?_|refine ss_c ?_|refine ss_set ?_) |(((with_reducible refine we_v (w := ?_) ?_ ?_); rotate_left; · rfl))))
  have hM : Tk _ 17 _ := ⟨ts ++ ys, at_last (M := M ++ [Ob.lst [.str [], .str (ls ++ [121]), .str (cutL ls none (some 1)), .str [98, 97], .str [97, 97], .str [97, 66], .int 5, .tup [.str [97], .str [98]], .str [97, 32]]] ++ [Ob.lst ys]), by rw [List.length_append]; omega, fun t ht => by
    rcases List.mem_append.mp ht with h | h
    · exact ht3 t h
    · exact hy t h⟩
  generalize M ++ [Ob.lst [.str [], .str (ls ++ [121]), .str (cutL ls none (some 1)), .str [98, 97], .str [97, 97], .str [97, 66], .int 5, .tup [.str [97], .str [98]], .str [97, 32]]] ++ [Ob.lst ys] ++ [Ob.lst (ts ++ ys)] = M2 at hM ⊢
  generalize (M ++ [Ob.lst [.str [], .str (ls ++ [121]), .str (cutL ls none (some 1)), .str [98, 97], .str [97, 97], .str [97, 66], .int 5, .tup [.str [97], .str [98]], .str [97, 32]]] ++ [Ob.lst ys]).length = k at hM ⊢
  clear ht1 ht2 ht3 hyl hy hz hzl
  obtain ⟨ts, ht1, ht2, ht3⟩ := hM
  refine lc_lit (zs := [Va.int ((m : Int) + 1), .int ((m : Int) - 1), .int (-1), .bl true, .bl false, .non, .str [49]]) ?_ (by simp) (fun z hz X => ?_) fun ys hyl hy => ?_
  · (repeat (first |(with_reducible first |refine we_c ?_|refine we_b ?_|refine wa_c ?_|refine wa_n ?_|refine we_lstW ?_|refine we_u ?_|refine wi_a ?_|refine wp_ai ?_|refine wp_si ?_|refine wp_ng ?_|refine inW_mk ?_) |(((with_reducible refine we_v (w := ?_) ?_ ?_); rotate_left; · rfl)) |(((with_reducible refine and_le ?_ ?_); · exact Nat.le_of_ble_eq_true rfl))))
    exact src_W at_last ⟨rfl, rfl⟩
  · (repeat (first |(with_reducible first |refine we_c ?_|refine wa_c ?_|refine wa_n ?_|refine we_call ?_) |(((with_reducible refine we_v (w := ?_) ?_ ?_); rotate_left; · rfl)) |(((with_reducible refine and_len ?_ ?_); · rfl))))
    refine wp_of (put6 3 (by decide) _ _) ?_
    exact ⟨rfl, hF.put 3 (seven_mem hz)⟩
  have hyl : ys.length = 7 := hyl
  refine wp_addL (k := k) (at_push (at_push ht1)) at_last (by omega) ?_
  (repeat (first |(with_reducible first |refine we_a ?_|refine wa_c ?_|refine wa_n ?_|refine we_call ?_|refine ss_c ?_|refine ss_set ?_|refine wp_lent ?_) |(((with_reducible refine we_v (w := ?_) ?_ ?_); rotate_left; · rfl)) |(((with_reducible refine and_len ?_ ?_); · rfl))))
  have hM : Tk _ 24 _ := ⟨ts ++ ys, at_last (M := M2 ++ [Ob.lst [Va.int ((m : Int) + 1), .int ((m : Int) - 1), .int (-1), .bl true, .bl false, .non, .str [49]]] ++ [Ob.lst ys]), by rw [List.length_append]; omega, fun t ht => by
    rcases List.mem_append.mp ht with h | h
    · exact ht3 t h
    · exact hy t h⟩
  generalize M2 ++ [Ob.lst [Va.int ((m : Int) + 1), .int ((m : Int) - 1), .int (-1), .bl true, .bl false, .non, .str [49]]] ++ [Ob.lst ys] ++ [Ob.lst (ts ++ ys)] = M3 at hM ⊢
  generalize (M2 ++ [Ob.lst [Va.int ((m : Int) + 1), .int ((m : Int) - 1), .int (-1), .bl true, .bl false, .non, .str [49]]] ++ [Ob.lst ys]).length = k at hM ⊢
  clear ht1 ht2 ht3 hyl hy
  refine wp_pick (by omega) fun cc c c0 c1 => ?_
  obtain ⟨cc, rfl⟩ : ∃ n : Nat, cc = (n : Int) := ⟨cc.toNat, by omega⟩
  (repeat (first |(with_reducible first |refine we_a ?_|refine wa_c ?_|refine wa_n ?_|refine we_call ?_|refine ss_c ?_|refine ss_set ?_) |(((with_reducible refine we_v (w := ?_) ?_ ?_); rotate_left; · rfl))))
  refine wp_lens (by omega) ?_
  (repeat (first |(with_reducible refine wa_n ?_) |(((with_reducible refine and_len ?_ ?_); · rfl))))
  refine wp_pick (by omega) fun kk c k0 k1 => ?_
  obtain ⟨kk, rfl⟩ : ∃ n : Nat, kk = (n : Int) := ⟨kk.toNat, by omega⟩
  (repeat (first |(with_reducible first |refine we_a ?_|refine wa_c ?_|refine wa_n ?_|refine we_call ?_|refine ss_c ?_|refine ss_set ?_|refine wp_lent ?_) |(((with_reducible refine we_v (w := ?_) ?_ ?_); rotate_left; · rfl)) |(((with_reducible refine and_len ?_ ?_); · rfl))))
  refine wp_pick (by omega) fun q c q0 q1 => ?_
  obtain ⟨q, rfl⟩ : ∃ n : Nat, q = (n : Int) := ⟨q.toNat, by omega⟩
  have hcc : cc < ah.length := by omega
  have hkk : kk < ls.length := by omega
  have hq : q < rw_.length := by omega
  exact suff1_D hF hcc hkk hq c M3 hM fun c M hT => by
    rw [fin_refW]
    exact hd ⟨_, _, _, rfl, rfl, hT⟩
end L_k14
set_option maxHeartbeats 8000000
namespace L_k14
open PySem PySem.Spec PyProof.Rows L2 T3
theorem stream4 : m__law_stream = c_stream 4 := rfl
theorem law_true (ns : List Int) (h : ns.length ≤ 63) : ∃ s', m_law [.ref 0] [.rol (ns.map T3.Va.int)] = some (.bl true, s') := by
  refine law_of ?_
  unfold m_law
  rw [stream4, show m__law_pick = c_pick from rfl, boxes_is]
  refine wp_fn rfl ?_
  (repeat (first |(with_reducible first |refine we_c ?_|refine wa_c ?_|refine wa_n ?_|refine we_call ?_|refine ss_c ?_|refine ss_set ?_) |(((with_reducible refine we_v (w := ?_) ?_ ?_); rotate_left; · rfl)) |(((with_reducible refine and_len ?_ ?_); · rfl))))
  refine stream_W (by decide) (s := 0) (ns := ns) (most := 200) rfl (by decide) fun e => ?_
  (repeat (first |(with_reducible first |refine we_c ?_|refine we_b ?_|refine wa_c ?_|refine wa_n ?_|refine we_call ?_|refine we_lstW ?_|refine ss_c ?_|refine ss_set ?_|refine inW_mk ?_) |(((with_reducible refine we_v (w := ?_) ?_ ?_); rotate_left; · rfl)) |(((with_reducible refine and_len ?_ ?_); · rfl)) |(((with_reducible refine and_le ?_ ?_); · exact Nat.le_of_ble_eq_true rfl))))
  refine wp_pick (by decide) fun x c x0 x1 => ?_
  refine wp_ixZ rfl x0 x1 fun y hy => ?_
  obtain ⟨ls, rfl, hls, hab, hok⟩ : ∃ ls, y = .str ls ∧ (1 ≤ ls.length ∧ ls.length ≤ 2) ∧ (∀ c ∈ ls, c ∈ abc) ∧ lettersOk ls = true := by
    simp only [List.mem_cons, List.not_mem_nil, or_false] at hy
    rcases hy with rfl | rfl | rfl <;> exact ⟨_, rfl, by decide, by decide, by decide⟩
  (repeat (first |(with_reducible first |refine we_c ?_|refine wa_c ?_|refine wa_n ?_) |(((with_reducible refine and_len ?_ ?_); · rfl))))
  rw [W_in]
  refine (boxesA_D e c _ (ls := ls) (most := 2) (boxes := 2) (classes := 2) ⟨hls.1, by omega⟩ (by omega) (by omega) (by omega)).imp ?_
  rintro w s ⟨c2, ahead, many, rows, ends, rfl, rfl, hB, hm1, hm2, hm3⟩
  have hko : boxOk (boxVa ls ahead many rows ends) = true := (box_ok hB).trans hok
  have htd : TD 6 7 (boxVa ls ahead many rows ends) := box_td hB (cps_abc hab) (by omega) (by omega) (by omega) (by omega) (by omega)
  obtain ⟨ah, rw_, en, heq, hF⟩ := bf_of hB hls hab hm1 hm2 hm3
  rw [heq] at hko htd ⊢
  (repeat (first |(with_reducible first |refine we_b ?_|refine wa_c ?_|refine wa_n ?_|refine we_call ?_|refine we_lstW ?_|refine ss_c ?_|refine ss_set ?_|refine inW_mk ?_) |(((with_reducible refine we_v (w := ?_) ?_ ?_); rotate_left; · rfl)) |(((with_reducible refine and_len ?_ ?_); · rfl)) |(((with_reducible refine and_le ?_ ?_); · exact Nat.le_of_ble_eq_true rfl))))
  rw [W_in]
  refine (things_D hF e c2 _).imp ?_
  rintro r s ⟨c3, M, k, rfl, rfl, ts, hM, hl, hts⟩
  skip
  simp only [List.nil_append, List.length_nil]
  rw [p_in, W_cat, Nat.add_assoc]
  refine wp_addL (k := 0) (j := [Ob.lst [Va.tup (bd6 ls ah many rw_ en)]].length + k) (xs := [.tup (bd6 ls ah many rw_ en)]) (ys := ts) rfl (by rw [List.getElem?_append_right (Nat.le_add_right _ _), Nat.add_sub_cancel_left]; exact hM) (by simp; omega) ?_
  have hal : ∀ t ∈ [Va.tup (bd6 ls ah many rw_ en)] ++ ts, TD 12 9 t := fun t ht => by
    rcases List.mem_append.mp ht with h | h
    · rw [List.mem_singleton.mp h]; exact TD.lift (by omega) (TD.wide (by omega) htd)
    · exact hts t h
  have hat : (W e c3 ([Ob.lst [Va.str [97, 98], Va.str [120, 122], Va.str [97]]] ++ ([Ob.lst [Va.tup (bd6 ls ah many rw_ en)]] ++ M ++ [Ob.lst ([Va.tup (bd6 ls ah many rw_ en)] ++ ts)])) [])[e.p [Ob.lst [Va.str [97, 98], Va.str [120, 122], Va.str [97]]] + ([Ob.lst [Va.tup (bd6 ls ah many rw_ en)]] ++ M).length]? = some (.lst ([Va.tup (bd6 ls ah many rw_ en)] ++ ts)) := by rw [← W_in]; exact (W_get _).trans at_last
  rw [W_in]
  generalize [Ob.lst [Va.str [97, 98], Va.str [120, 122], Va.str [97]]] ++ ([Ob.lst [Va.tup (bd6 ls ah many rw_ en)]] ++ M ++ [Ob.lst ([Va.tup (bd6 ls ah many rw_ en)] ++ ts)]) = L2 at hat ⊢
  generalize e.p [Ob.lst [Va.str [97, 98], Va.str [120, 122], Va.str [97]]] + ([Ob.lst [Va.tup (bd6 ls ah many rw_ en)]] ++ M).length = r0 at hat ⊢
  generalize [Va.tup (bd6 ls ah many rw_ en)] ++ ts = al at hat hal
  (repeat (first |(with_reducible first |refine ss_c ?_|refine ss_for ?_|refine wi_a ?_) |(((with_reducible refine we_v (w := ?_) ?_ ?_); rotate_left; · rfl))))
  refine ⟨⟨al, fun st => st[r0]? = some (.lst al)⟩, by simp only [srcOf, hat], ?_⟩
  refine wl_inv (fun i fm s => Hd (∃ x5 x6, fm = [some (.ref 0), some (.ref e.d), some (.tup (bd6 ls ah many rw_ en)), some (.ref r0), x5, x6] ∧ s = W e c3 L2 [])) (fun i fm s hI => by obtain ⟨_, _, _, rfl⟩ := hI; exact hat) (hd ⟨_, _, rfl, rfl⟩) ?_ ?_
  · rintro i t ht fm s ⟨x5, x6, rfl, rfl⟩
    have tt := hal t (List.mem_of_getElem? ht)
    refine ⟨_, rfl, ?_⟩
    (repeat (first |(with_reducible first |refine wa_c ?_|refine wa_n ?_|refine we_call ?_|refine ss_c ?_|refine ss_set ?_) |(((with_reducible refine we_v (w := ?_) ?_ ?_); rotate_left; · rfl)) |(((with_reducible refine and_len ?_ ?_); · rfl))))
    refine (boxes_D tt (by omega) (by omega) (by omega) e c3 L2).imp ?_
    rintro r s ⟨rfl, rfl⟩
    (repeat (first |(with_reducible first |refine we_c ?_|refine we_a ?_|refine wa_c ?_|refine wa_n ?_|refine wb_v ?_|refine wb_or ?_|refine wb_not ?_|refine ss_c ?_|refine ss_if ?_) |(((with_reducible refine we_v (w := ?_) ?_ ?_); rotate_left; · rfl))))
    refine wp_of (x := gIsi _ _) gIsi_b ?_
    (repeat (first |(with_reducible first |refine wa_c ?_|refine wa_n ?_|refine we_call ?_|refine wb_b ?_|refine If.n ?_) |(((with_reducible refine we_v (w := ?_) ?_ ?_); rotate_left; · rfl)) |(((with_reducible refine If_tr ?_ ?_); · rfl)) |(((with_reducible refine ex_some (y := ?_) ?_ ?_); rotate_left; · rfl)) |(((with_reducible refine and_len ?_ ?_); · rfl))))
    refine (law_boxes_D tt (by omega) (by omega) (by omega) e c3 L2).imp ?_
    rintro r s ⟨rfl, rfl⟩
    (repeat (with_reducible first |refine wp_neb ?_|refine If.n ?_|refine ex_bl ?_))
    refine If.d (fun _ => ?_) (fun hc => absurd rfl hc)
    (repeat (with_reducible refine ss_n ?_))
    exact hd ⟨_, _, rfl, rfl⟩
  · rintro fm s ⟨x5, x6, rfl, rfl⟩
    (repeat (first |(with_reducible first |refine wa_c ?_|refine wa_n ?_|refine we_call ?_|refine ss_c ?_|refine ss_ret ?_) |(((with_reducible refine we_v (w := ?_) ?_ ?_); rotate_left; · rfl)) |(((with_reducible refine and_len ?_ ?_); · rfl))))
    refine (law_boxes_D htd (by omega) (by omega) (by omega) e c3 L2).imp ?_
    rintro r s ⟨rfl, rfl⟩
    rw [hko]
    first | rfl | rw [fin_sb] | rw [fin1]
end L_k14
open PySem PySem.W PyProof.Rows
set_option maxHeartbeats 0 in
theorem PySem.Challenge.cw_threescribes_k14_each_condition_of_box_m_holds : PySem.Challenge.rw_threescribes_k14_each_condition_of_box_m.Holds := by
  w_on; o_law; k_head; (case hw => w_witness2)
  k_fill
  refine T3.walk_T (l := PySem.Challenge.rw_threescribes_k14_each_condition_of_box_m) (n := 63) (k := 12) (g := L_k14.m_law) rfl (by decide) rfl ⟨rfl, by decide, by decide⟩ (fun w h Y => PySem.W.kIn_of Y) ?hT ?F (fun ns hl => L_k14.law_true ns hl)
  case hT =>
    intro w
    refine' L_k14.gx_mk ?a0 ?l0 ?h0 ?q0 ?v0 ?n0 ?r0 ?a1 ?l1 ?h1 ?q1 ?v1 ?n1 ?r1 ?a2 ?l2 ?h2 ?q2 ?v2 ?n2 ?r2 ?a3 ?l3 ?h3 ?q3 ?v3 ?n3 ?r3 ?a4 ?l4 ?h4 ?q4 ?v4 ?n4 ?r4 ?a5 ?l5 ?h5 ?q5 ?v5 ?n5 ?r5 ?a6 ?l6 ?h6 ?q6 ?v6 ?n6 ?r6 ?z3 ?z6
    (case a0 => k_is)
    (case l0 => k_is)
    (case h0 => rfl)
    (case q0 => k_is)
    (case v0 => rfl)
    (case n0 => kernel_rfl)
    (case r0 => decide +kernel)
    (case a1 => k_is)
    (case l1 => k_is)
    (case h1 => rfl)
    (case q1 => k_is)
    (case v1 => rfl)
    (case n1 => kernel_rfl)
    (case r1 => decide +kernel)
    (case a2 => k_is)
    (case l2 => k_is)
    (case h2 => rfl)
    (case q2 => k_is)
    (case v2 => rfl)
    (case n2 => kernel_rfl)
    (case r2 => decide +kernel)
    (case a3 => k_is)
    (case l3 => k_is)
    (case h3 => rfl)
    (case q3 => k_is)
    (case v3 => rfl)
    (case n3 => kernel_rfl)
    (case r3 => decide +kernel)
    (case a4 => k_is)
    (case l4 => k_is)
    (case h4 => rfl)
    (case q4 => k_is)
    (case v4 => rfl)
    (case n4 => kernel_rfl)
    (case r4 => decide +kernel)
    (case a5 => k_is)
    (case l5 => k_is)
    (case h5 => rfl)
    (case q5 => k_is)
    (case v5 => rfl)
    (case n5 => kernel_rfl)
    (case r5 => decide +kernel)
    (case a6 => k_is)
    (case l6 => k_is)
    (case h6 => rfl)
    (case q6 => k_is)
    (case v6 => rfl)
    (case n6 => kernel_rfl)
    (case r6 => decide +kernel)
    (case z3 => k_is)
    (case z6 => k_is)
  case F =>
    intro w mg fa h KX G hmg
    refine' L_k14.all_mk KX G hmg ?a0 ?l0 ?c0 ?k0 ?a1 ?l1 ?c1 ?k1 ?a2 ?l2 ?c2 ?k2 ?a3 ?l3 ?c3 ?k3 ?a4 ?l4 ?c4 ?k4 ?a5 ?l5 ?c5 ?k5 ?a6 ?l6 ?c6 ?k6 ?a7 ?l7 ?c7 ?k7 ?a8 ?l8 ?c8 ?k8 ?a9 ?l9 ?c9 ?k9 ?a10 ?l10 ?c10 ?k10 ?a11 ?l11 ?c11 ?k11 ?a12 ?l12 ?c12 ?k12 ?a13 ?l13 ?c13 ?k13 ?a14 ?l14 ?c14 ?k14 ?a15 ?l15 ?c15 ?k15 ?a16 ?l16 ?c16 ?k16 ?a17 ?l17 ?c17 ?k17 ?a18 ?l18 ?c18 ?k18 ?a19 ?l19 ?c19 ?k19 ?a20 ?l20 ?c20 ?k20 ?a21 ?l21 ?c21 ?k21 ?a22 ?l22 ?c22 ?k22 ?a23 ?l23 ?c23 ?k23 ?q23 ?v23 ?n23 ?a24 ?l24 ?c24 ?k24 ?a25 ?l25 ?c25 ?k25 ?a26 ?l26 ?c26 ?k26 ?q26 ?v26 ?n26 ?a27 ?l27 ?c27 ?k27 ?a28 ?l28 ?c28 ?k28 ?a29 ?l29 ?c29 ?k29 ?a30 ?l30 ?c30 ?k30 ?q30 ?v30 ?n30 ?a31 ?l31 ?c31 ?k31 ?q31 ?v31 ?n31 ?a32 ?l32 ?c32 ?k32 ?q32 ?v32 ?n32 ?a33 ?l33 ?c33 ?k33 ?a34 ?l34 ?c34 ?k34 ?q34 ?v34 ?n34 ?a35 ?l35 ?c35 ?k35 ?z0 ?z1 ?z2 ?z3 ?z4 ?z5 ?z6 ?z7 ?z8 ?z9 ?z10 ?z11 ?z12 ?y0
    (case a0 => k_is)
    (case l0 => k_is)
    (case c0 => k_is)
    (case k0 => k_is)
    (case a1 => k_is)
    (case l1 => k_is)
    (case c1 => k_is)
    (case k1 => k_is)
    (case a2 => k_is)
    (case l2 => k_is)
    (case c2 => k_is)
    (case k2 => k_is)
    (case a3 => k_is)
    (case l3 => k_is)
    (case c3 => k_is)
    (case k3 => k_is)
    (case a4 => k_is)
    (case l4 => k_is)
    (case c4 => k_is)
    (case k4 => k_is)
    (case a5 => k_is)
    (case l5 => k_is)
    (case c5 => k_is)
    (case k5 => k_is)
    (case a6 => k_is)
    (case l6 => k_is)
    (case c6 => k_is)
    (case k6 => k_is)
    (case a7 => k_is)
    (case l7 => k_is)
    (case c7 => k_is)
    (case k7 => k_is)
    (case a8 => k_is)
    (case l8 => k_is)
    (case c8 => k_is)
    (case k8 => k_is)
    (case a9 => k_is)
    (case l9 => k_is)
    (case c9 => k_is)
    (case k9 => k_is)
    (case a10 => k_is)
    (case l10 => k_is)
    (case c10 => k_is)
    (case k10 => k_is)
    (case a11 => k_is)
    (case l11 => k_is)
    (case c11 => k_is)
    (case k11 => k_is)
    (case a12 => k_is)
    (case l12 => k_is)
    (case c12 => k_is)
    (case k12 => k_is)
    (case a13 => k_is)
    (case l13 => k_is)
    (case c13 => k_is)
    (case k13 => k_is)
    (case a14 => k_is)
    (case l14 => k_is)
    (case c14 => k_is)
    (case k14 => k_is)
    (case a15 => k_is)
    (case l15 => k_is)
    (case c15 => k_is)
    (case k15 => k_is)
    (case a16 => k_is)
    (case l16 => k_is)
    (case c16 => k_is)
    (case k16 => k_is)
    (case a17 => k_is)
    (case l17 => k_is)
    (case c17 => k_is)
    (case k17 => k_is)
    (case a18 => k_is)
    (case l18 => k_is)
    (case c18 => k_is)
    (case k18 => k_is)
    (case a19 => k_is)
    (case l19 => k_is)
    (case c19 => k_is)
    (case k19 => k_is)
    (case a20 => k_is)
    (case l20 => k_is)
    (case c20 => k_is)
    (case k20 => k_is)
    (case a21 => k_is)
    (case l21 => k_is)
    (case c21 => k_is)
    (case k21 => k_is)
    (case a22 => k_is)
    (case l22 => k_is)
    (case c22 => k_is)
    (case k22 => k_is)
    (case a23 => k_is)
    (case l23 => k_is)
    (case c23 => k_is)
    (case k23 => k_is)
    (case q23 => k_is)
    (case v23 => rfl)
    (case n23 => kernel_rfl)
    (case a24 => k_is)
    (case l24 => k_is)
    (case c24 => k_is)
    (case k24 => k_is)
    (case a25 => k_is)
    (case l25 => k_is)
    (case c25 => k_is)
    (case k25 => k_is)
    (case a26 => k_is)
    (case l26 => k_is)
    (case c26 => k_is)
    (case k26 => k_is)
    (case q26 => k_is)
    (case v26 => rfl)
    (case n26 => kernel_rfl)
    (case a27 => k_is)
    (case l27 => k_is)
    (case c27 => k_is)
    (case k27 => k_is)
    (case a28 => k_is)
    (case l28 => k_is)
    (case c28 => k_is)
    (case k28 => k_is)
    (case a29 => k_is)
    (case l29 => k_is)
    (case c29 => k_is)
    (case k29 => k_is)
    (case a30 => k_is)
    (case l30 => k_is)
    (case c30 => k_is)
    (case k30 => k_is)
    (case q30 => k_is)
    (case v30 => rfl)
    (case n30 => kernel_rfl)
    (case a31 => k_is)
    (case l31 => k_is)
    (case c31 => k_is)
    (case k31 => k_is)
    (case q31 => k_is)
    (case v31 => rfl)
    (case n31 => kernel_rfl)
    (case a32 => k_is)
    (case l32 => k_is)
    (case c32 => k_is)
    (case k32 => k_is)
    (case q32 => k_is)
    (case v32 => rfl)
    (case n32 => kernel_rfl)
    (case a33 => k_is)
    (case l33 => k_is)
    (case c33 => k_is)
    (case k33 => k_is)
    (case a34 => k_is)
    (case l34 => k_is)
    (case c34 => k_is)
    (case k34 => k_is)
    (case q34 => k_is)
    (case v34 => rfl)
    (case n34 => kernel_rfl)
    (case a35 => k_is)
    (case l35 => k_is)
    (case c35 => k_is)
    (case k35 => k_is)
    (case z0 => k_is)
    (case z1 => k_is)
    (case z2 => k_is)
    (case z3 => k_is)
    (case z4 => k_is)
    (case z5 => k_is)
    (case z6 => k_is)
    (case z7 => k_is)
    (case z8 => k_is)
    (case z9 => k_is)
    (case z10 => k_is)
    (case z11 => k_is)
    (case z12 => k_is)
    (case y0 => k_is)
