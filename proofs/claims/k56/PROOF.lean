import PyProof.Rows.All
import Wide.All
import OpenK.AllK
import Wide.FinOn
import HandS.ForMost
import HandS.ForExc
import HandS.CallSlots
import HandS.Wide
import HandS.Style
import HandS.TupAny
import HandS.Deep
import HandS.IsInst
import HandS.TryMany
import HandS.ExcField
import KE.KExcIs
import HandS.ExcInit
import HandS.Replace
import HandS.ReplaceDef
import HandS.ReplaceLit
import PyProof.MeetsStr3
import HandS.ReplaceList
import HandS.Rev
import HandS.ExcIs
import HandS.Dict
import HandS.EndBits
import PySem.Challenge.RW_fourthword_k56_edits_of_triples
set_option Elab.async false
set_option linter.all false
set_option maxRecDepth 100000
set_option maxHeartbeats 4000000
/-! The D layer, part 1: plain data by value over the abstract heap; what stands for what. -/
namespace DL
open PySem L2

abbrev DKey := Sum Int (List Nat)
/-- plain data, by value (lst: a tracked list that nobody changes any more; rol: a list that is only read) -/
inductive D where
  | non
  | bl (b : Bool)
  | int (i : Int)
  | str (s : List Nat)
  | tup (ds : List D)
  | lst (ds : List D)
  | rol (ds : List D)
  | dk (ks : List DKey) (ds : List D)
  | dt (ks : List (List DKey)) (ds : List D)

/-- what a slot holds: data, or the i-th owned object -/
inductive SV where
  | v (d : D)
  | o (i : Nat)
  | x (a : Addr) (dx : Option Addr) (f : Option (Str × D))

/-- owned objects, which may change -/
inductive MO where
  | dead
  | lst (ds : List D)
  | fz (ds : List D)
  | dk (ks : List DKey) (ds : List D)
  | dt (ks : List (List DKey)) (ds : List D)
  | rows (is : List Nat)
  | ins (c : Str) (fs : List Str) (xs : List SV)

abbrev Sto := List MO
abbrev Sl := List (Option SV)

def mkS (s : List Nat) : Str := ⟨s.toArray⟩
theorem mkS_inj {s t : List Nat} (h : mkS s = mkS t) : s = t := by
  have e := congrArg (fun z : Str => z.cps.toList) h
  simpa [mkS] using e
theorem mkS_len (s : List Nat) : (mkS s).length = s.length := by simp [mkS, Str.length]
theorem mkS_cps (s : List Nat) : (mkS s).cps.toList = s := by simp [mkS]
def kS : DKey → Key
  | .inl i => .inl i
  | .inr s => .inr (mkS s)

mutual
def RepD (K : PySem.W.Frag) (P : Hp) : D → V → Prop
  | .non, v => v = .non
  | .bl b, v => v = .bl b
  | .int i, v => v = .int i
  | .str s, v => v = .str (mkS s)
  | .tup ds, v => ∃ a vs, v = .ref a ∧ SqT K P a vs ∧ RepDs K P ds vs
  | .lst ds, v => ∃ a vs, v = .ref a ∧ P a = some (.lst vs) ∧ RepDs K P ds vs
  | .rol ds, v => ∃ a vs, v = .ref a ∧ SqL K P a vs ∧ RepDs K P ds vs
  | .dk ks ds, v => ∃ a kvs, v = .ref a ∧ P a = some (.dK kvs) ∧ kvs.map (·.1) = ks.map kS ∧ RepDs K P ds (kvs.map (·.2))
  | .dt ks ds, v => ∃ a kvs, v = .ref a ∧ P a = some (.dT kvs) ∧ kvs.map (·.1) = ks.map (·.map kS) ∧ RepDs K P ds (kvs.map (·.2))
def RepDs (K : PySem.W.Frag) (P : Hp) : List D → List V → Prop
  | [], vs => vs = []
  | d :: ds, vs => ∃ v r, vs = v :: r ∧ RepD K P d v ∧ RepDs K P ds r
end
def RepV (K : PySem.W.Frag) (P : Hp) (L : List Addr) : SV → V → Prop
  | .v d, x => RepD K P d x
  | .o i, x => ∃ a, x = .ref a ∧ L[i]? = some a
  | .x a dx f, x => x = .ref a ∧ ∀ n d, f = some (n, d) → ∃ aa u, dx = some aa ∧ P aa = some (.xd [(n, u)]) ∧ RepD K P d u
def RepVs (K : PySem.W.Frag) (P : Hp) (L : List Addr) : List SV → List V → Prop
  | [], vs => vs = []
  | d :: ds, vs => ∃ v r, vs = v :: r ∧ RepV K P L d v ∧ RepVs K P L ds r

def LExt (L L' : List Addr) : Prop := ∀ (i : Nat) a, L[i]? = some a → L'[i]? = some a
theorem LExt.refl (L : List Addr) : LExt L L := fun _ _ h => h
theorem LExt.trans {L L1 L2 : List Addr} (a : LExt L L1) (b : LExt L1 L2) : LExt L L2 := fun i x h => b i x (a i x h)
theorem LExt.app (L M : List Addr) : LExt L (L ++ M) := fun i a h => by
  obtain ⟨hi, _⟩ := List.getElem?_eq_some_iff.mp h
  rw [List.getElem?_append_left hi]; exact h
theorem LExt.take_eq {L L' : List Addr} (e : LExt L L') : L'.take L.length = L := by
  apply List.ext_getElem?
  intro i
  by_cases hi : i < L.length
  · rw [List.getElem?_take_of_lt hi]
    have q : L[i]? = some L[i] := by simp [hi]
    rw [q]; exact e i _ q
  · rw [List.getElem?_eq_none (by simp; omega), List.getElem?_eq_none (by omega)]
theorem LExt.le {L L' : List Addr} (e : LExt L L') : L.length ≤ L'.length := by
  have h := congrArg List.length e.take_eq
  simp at h; omega

theorem sqT_mono {K : PySem.W.Frag} {P P' : Hp} {a : Addr} {xs : List V} (e : Same P P') (h : SqT K P a xs) : SqT K P' a xs := by
  rcases h with h | h
  · rcases h with h | ⟨o, h⟩
    · exact .inl (.inl (e _ _ h))
    · exact .inl (.inr ⟨o, e _ _ h⟩)
  · exact .inr h

mutual
theorem RepD.mono {K : PySem.W.Frag} {P P' : Hp} (e : Same P P') : ∀ {d : D} {v : V}, RepD K P d v → RepD K P' d v
  | .non, _, h => by simp only [RepD] at h ⊢; exact h
  | .bl _, _, h => by simp only [RepD] at h ⊢; exact h
  | .int _, _, h => by simp only [RepD] at h ⊢; exact h
  | .str _, _, h => by simp only [RepD] at h ⊢; exact h
  | .tup ds, _, h => by
    simp only [RepD] at h ⊢
    obtain ⟨a, vs, q1, q2, q3⟩ := h
    exact ⟨a, vs, q1, sqT_mono e q2, RepDs.mono e q3⟩
  | .lst ds, _, h => by
    simp only [RepD] at h ⊢
    obtain ⟨a, vs, q1, q2, q3⟩ := h
    exact ⟨a, vs, q1, e _ _ q2, RepDs.mono e q3⟩
  | .rol ds, _, h => by
    simp only [RepD] at h ⊢
    obtain ⟨a, vs, q1, q2, q3⟩ := h
    exact ⟨a, vs, q1, e.seq q2, RepDs.mono e q3⟩
  | .dk ks ds, _, h => by
    simp only [RepD] at h ⊢
    obtain ⟨a, vs, q1, q2, q3, q4⟩ := h
    exact ⟨a, vs, q1, e _ _ q2, q3, RepDs.mono e q4⟩
  | .dt ks ds, _, h => by
    simp only [RepD] at h ⊢
    obtain ⟨a, vs, q1, q2, q3, q4⟩ := h
    exact ⟨a, vs, q1, e _ _ q2, q3, RepDs.mono e q4⟩
theorem RepDs.mono {K : PySem.W.Frag} {P P' : Hp} (e : Same P P') : ∀ {ds : List D} {vs : List V}, RepDs K P ds vs → RepDs K P' ds vs
  | [], _, h => by simp only [RepDs] at h ⊢; exact h
  | d :: ds, _, h => by
    simp only [RepDs] at h ⊢
    obtain ⟨v, r, q1, q2, q3⟩ := h
    exact ⟨v, r, q1, RepD.mono e q2, RepDs.mono e q3⟩
end
theorem RepV.mono {K : PySem.W.Frag} {P P' : Hp} {L L' : List Addr} (e : Same P P') (l : LExt L L') {x : SV} {v : V} (h : RepV K P L x v) : RepV K P' L' x v := by
  cases x with
  | v d => exact RepD.mono e h
  | o i => obtain ⟨a, q1, q2⟩ := h; exact ⟨a, q1, l _ _ q2⟩
  | x a dx f => exact ⟨h.1, fun n d z => by obtain ⟨aa, u, k1, k2, k3⟩ := h.2 n d z; exact ⟨aa, u, k1, e _ _ k2, k3.mono e⟩⟩
theorem RepVs.mono {K : PySem.W.Frag} {P P' : Hp} {L L' : List Addr} (e : Same P P') (l : LExt L L') : ∀ {xs : List SV} {vs : List V}, RepVs K P L xs vs → RepVs K P' L' xs vs
  | [], _, h => h
  | x :: xs, _, h => by
    obtain ⟨v, r, q1, q2, q3⟩ := h
    exact ⟨v, r, q1, q2.mono e l, RepVs.mono e l q3⟩

section
variable {K : PySem.W.Frag} {P : Hp} {L : List Addr}
theorem RepDs.nil : RepDs K P [] [] := by simp only [RepDs]
theorem RepDs.cons {d : D} {ds : List D} {v : V} {vs : List V} (h : RepD K P d v) (t : RepDs K P ds vs) : RepDs K P (d :: ds) (v :: vs) := by
  simp only [RepDs]; exact ⟨v, vs, rfl, h, t⟩
theorem RepDs.len : ∀ {ds : List D} {vs : List V}, RepDs K P ds vs → vs.length = ds.length
  | [], _, h => by simp only [RepDs] at h; subst h; rfl
  | d :: ds, _, h => by
    simp only [RepDs] at h
    obtain ⟨v, r, rfl, _, q⟩ := h
    simp [RepDs.len q]
theorem RepDs.get : ∀ {ds : List D} {vs : List V} {i : Nat} {d : D}, RepDs K P ds vs → ds[i]? = some d → ∃ v, vs[i]? = some v ∧ RepD K P d v
  | [], _, i, _, _, e => by simp at e
  | d :: ds, _, 0, _, h, e => by
    simp only [RepDs] at h
    obtain ⟨v, r, rfl, q, _⟩ := h
    simp at e; subst e
    exact ⟨v, by simp, q⟩
  | d :: ds, _, i + 1, _, h, e => by
    simp only [RepDs] at h
    obtain ⟨v, r, rfl, _, q⟩ := h
    obtain ⟨u, h1, h2⟩ := RepDs.get (i := i) q (by simpa using e)
    exact ⟨u, by simpa using h1, h2⟩
theorem RepDs.get' : ∀ {ds : List D} {vs : List V} {i : Nat} {v : V}, RepDs K P ds vs → vs[i]? = some v → ∃ d, ds[i]? = some d ∧ RepD K P d v := fun {ds vs i v} h e => by
  have hl := h.len
  obtain ⟨hi, he⟩ := List.getElem?_eq_some_iff.mp e
  have hi' : i < ds.length := by omega
  obtain ⟨u, h1, h2⟩ := h.get (i := i) (d := ds[i]) (by simp [hi'])
  rw [e] at h1
  cases h1
  exact ⟨ds[i], by simp [hi'], h2⟩
theorem RepDs.app : ∀ {ds es : List D} {vs us : List V}, RepDs K P ds vs → RepDs K P es us → RepDs K P (ds ++ es) (vs ++ us)
  | [], _, _, _, h, t => by simp only [RepDs] at h; subst h; exact t
  | d :: ds, _, _, _, h, t => by
    simp only [RepDs] at h
    obtain ⟨v, r, rfl, q, q2⟩ := h
    exact RepDs.cons q (RepDs.app q2 t)
theorem RepDs.take : ∀ {ds : List D} {vs : List V} (n : Nat), RepDs K P ds vs → RepDs K P (ds.take n) (vs.take n)
  | _, _, 0, _ => by simp only [List.take_zero]; exact RepDs.nil
  | [], _, n + 1, h => by simp only [RepDs] at h; subst h; exact RepDs.nil
  | d :: ds, _, n + 1, h => by
    simp only [RepDs] at h
    obtain ⟨v, r, rfl, q, q2⟩ := h
    exact RepDs.cons q (RepDs.take n q2)
theorem RepDs.drop : ∀ {ds : List D} {vs : List V} (n : Nat), RepDs K P ds vs → RepDs K P (ds.drop n) (vs.drop n)
  | _, _, 0, h => h
  | [], _, n + 1, h => by simp only [RepDs] at h; subst h; exact RepDs.nil
  | d :: ds, _, n + 1, h => by
    simp only [RepDs] at h
    obtain ⟨v, r, rfl, q, q2⟩ := h
    exact RepDs.drop n q2
theorem RepDs.set : ∀ {ds : List D} {vs : List V} {d : D} {v : V} (i : Nat), RepD K P d v → RepDs K P ds vs → RepDs K P (ds.set i d) (vs.set i v)
  | [], _, _, _, i, _, h => by simp only [RepDs] at h; subst h; exact RepDs.nil
  | _ :: ds, _, _, _, 0, q, h => by
    simp only [RepDs] at h
    obtain ⟨v, r, rfl, _, q2⟩ := h
    exact RepDs.cons q q2
  | _ :: ds, _, _, _, i + 1, q, h => by
    simp only [RepDs] at h
    obtain ⟨v, r, rfl, q1, q2⟩ := h
    exact RepDs.cons q1 (RepDs.set i q q2)
theorem RepDs.rev : ∀ {ds : List D} {vs : List V}, RepDs K P ds vs → RepDs K P ds.reverse vs.reverse
  | [], _, h => by simp only [RepDs] at h; subst h; exact RepDs.nil
  | d :: ds, _, h => by
    simp only [RepDs] at h
    obtain ⟨v, r, rfl, q1, q2⟩ := h
    rw [List.reverse_cons, List.reverse_cons]
    exact RepDs.app (RepDs.rev q2) (RepDs.cons q1 RepDs.nil)
theorem RepDs.ints : ∀ {ns : List Int} {vs : List V}, RepDs K P (ns.map D.int) vs → vs = ns.map V.int
  | [], _, h => by simp only [List.map_nil, RepDs] at h; exact h
  | n :: ns, _, h => by
    simp only [List.map_cons, RepDs] at h
    obtain ⟨v, r, rfl, q1, q2⟩ := h
    simp only [RepD] at q1
    rw [q1, RepDs.ints q2, List.map_cons]
theorem RepDs.of_ints : ∀ {ns : List Int}, RepDs K P (ns.map D.int) (ns.map V.int)
  | [] => RepDs.nil
  | n :: ns => RepDs.cons (by simp only [RepD]) (RepDs.of_ints (ns := ns))
theorem RepDs.strs : ∀ {ns : List (List Nat)} {vs : List V}, RepDs K P (ns.map D.str) vs → vs = (ns.map mkS).map V.str
  | [], _, h => by simp only [List.map_nil, RepDs] at h; exact h
  | n :: ns, _, h => by
    simp only [List.map_cons, RepDs] at h
    obtain ⟨v, r, rfl, q1, q2⟩ := h
    simp only [RepD] at q1
    rw [q1, RepDs.strs q2, List.map_cons, List.map_cons]
theorem RepDs.of_strs : ∀ {ns : List (List Nat)}, RepDs K P (ns.map D.str) ((ns.map mkS).map V.str)
  | [] => RepDs.nil
  | n :: ns => RepDs.cons (by simp only [RepD]) (RepDs.of_strs (ns := ns))
theorem RepDs.bls : ∀ {ns : List Bool} {vs : List V}, RepDs K P (ns.map D.bl) vs → vs = ns.map V.bl
  | [], _, h => by simp only [List.map_nil, RepDs] at h; exact h
  | n :: ns, _, h => by
    simp only [List.map_cons, RepDs] at h
    obtain ⟨v, r, rfl, q1, q2⟩ := h
    simp only [RepD] at q1
    rw [q1, RepDs.bls q2, List.map_cons]
theorem RepVs.len : ∀ {ds : List SV} {vs : List V}, RepVs K P L ds vs → vs.length = ds.length
  | [], _, h => by cases h; rfl
  | d :: ds, _, h => by
    obtain ⟨v, r, rfl, _, q⟩ := h
    simp [RepVs.len q]
theorem RepVs.get : ∀ {ds : List SV} {vs : List V} {i : Nat} {d : SV}, RepVs K P L ds vs → ds[i]? = some d → ∃ v, vs[i]? = some v ∧ RepV K P L d v
  | [], _, i, _, _, e => by simp at e
  | d :: ds, _, 0, _, h, e => by
    obtain ⟨v, r, rfl, q, _⟩ := h
    simp at e; subst e
    exact ⟨v, by simp, q⟩
  | d :: ds, _, i + 1, _, h, e => by
    obtain ⟨v, r, rfl, _, q⟩ := h
    obtain ⟨u, h1, h2⟩ := RepVs.get (i := i) q (by simpa using e)
    exact ⟨u, by simpa using h1, h2⟩
theorem RepVs.set : ∀ {ds : List SV} {vs : List V} {d : SV} {v : V} (i : Nat), RepV K P L d v → RepVs K P L ds vs → RepVs K P L (ds.set i d) (vs.set i v)
  | [], _, _, _, i, _, h => by cases h; exact rfl
  | _ :: ds, _, _, _, 0, q, h => by
    obtain ⟨v, r, rfl, _, q2⟩ := h
    exact ⟨_, _, rfl, q, q2⟩
  | _ :: ds, _, _, _, i + 1, q, h => by
    obtain ⟨v, r, rfl, q1, q2⟩ := h
    exact ⟨_, _, rfl, q1, RepVs.set i q q2⟩
theorem RepVs.app : ∀ {ds es : List SV} {vs us : List V}, RepVs K P L ds vs → RepVs K P L es us → RepVs K P L (ds ++ es) (vs ++ us)
  | [], _, _, _, h, t => by cases h; exact t
  | d :: ds, _, _, _, h, t => by
    obtain ⟨v, r, rfl, q, q2⟩ := h
    exact ⟨_, _, rfl, q, RepVs.app q2 t⟩
end

/-! ### owned objects -/
def RepO (K : PySem.W.Frag) (mg : Str → Option Value) (P : Hp) (L : List Addr) : MO → HO → Prop
  | .dead, _ => True
  | .lst ds, o => ∃ vs, o = .lst vs ∧ RepDs K P ds vs
  | .fz ds, o => ∃ vs, o = .lst vs ∧ RepDs K P ds vs
  | .dk ks ds, o => ∃ kvs, o = .dK kvs ∧ kvs.map (·.1) = ks.map kS ∧ RepDs K P ds (kvs.map (·.2))
  | .dt ks ds, o => ∃ kvs, o = .dT kvs ∧ kvs.map (·.1) = ks.map (·.map kS) ∧ RepDs K P ds (kvs.map (·.2))
  | .rows is, o => ∃ vs, o = .lst vs ∧ RepVs K P L (is.map SV.o) vs
  | .ins c fs xs, o => ∃ C dx vs, mg c = some (.ref C) ∧ o = .ins C dx (fs.zip vs) ∧ fs.length = vs.length ∧ RepVs K P L xs vs
theorem RepO.mono {K : PySem.W.Frag} {mg : Str → Option Value} {P P' : Hp} {L L' : List Addr} (e : Same P P') (l : LExt L L') {o : MO} {h : HO} (r : RepO K mg P L o h) : RepO K mg P' L' o h := by
  cases o with
  | dead => trivial
  | lst ds => obtain ⟨vs, q1, q2⟩ := r; exact ⟨vs, q1, q2.mono e⟩
  | fz ds => obtain ⟨vs, q1, q2⟩ := r; exact ⟨vs, q1, q2.mono e⟩
  | dk ks ds => obtain ⟨vs, q1, q2, q3⟩ := r; exact ⟨vs, q1, q2, q3.mono e⟩
  | dt ks ds => obtain ⟨vs, q1, q2, q3⟩ := r; exact ⟨vs, q1, q2, q3.mono e⟩
  | rows is => obtain ⟨vs, q1, q2⟩ := r; exact ⟨vs, q1, q2.mono e l⟩
  | ins c fs ds => obtain ⟨C, dx, vs, q0, q1, q2, q3⟩ := r; exact ⟨C, dx, vs, q0, q1, q2, q3.mono e l⟩
def MO.live : MO → Bool
  | .dead => false
  | .fz _ => false
  | _ => true

/-- P: what nobody changes any more; L: where the owned objects lie -/
structure RelH (K : PySem.W.Frag) (mg : Str → Option Value) (P : Hp) (L : List Addr) (H : Hp) (S : Sto) : Prop where
  fr : Same P H
  len : L.length = S.length
  nd : L.Nodup
  np : ∀ (i : Nat) o a, S[i]? = some o → L[i]? = some a → o.live = true → P a = none
  ob : ∀ (i : Nat) o a, S[i]? = some o → L[i]? = some a → ∃ ho, H a = some ho ∧ RepO K mg P L o ho
def RelG (K : PySem.W.Frag) (P : Hp) (L : List Addr) (σ : St) (G : Sl) : Prop := σ.length = G.length ∧ ∀ (i : Nat) x, G[i]? = some (some x) → ∃ v, σ[i]? = some (some v) ∧ RepV K P L x v
theorem RelG.mono {K : PySem.W.Frag} {P P' : Hp} {L L' : List Addr} (e : Same P P') (l : LExt L L') {σ : St} {G : Sl} (r : RelG K P L σ G) : RelG K P' L' σ G :=
  ⟨r.1, fun i d h => by obtain ⟨v, q1, q2⟩ := r.2 i d h; exact ⟨v, q1, q2.mono e l⟩⟩

section
variable {K : PySem.W.Frag} {mg : Str → Option Value} {P : Hp} {L : List Addr} {H : Hp} {S : Sto}
theorem RelH.fresh (R : RelH K mg P L H S) {p : Addr} (h : H p = none) : P p = none := by
  cases q : P p with
  | none => rfl
  | some o => rw [R.fr p o q] at h; cases h
theorem RelH.at (R : RelH K mg P L H S) {i : Nat} {o : MO} (h : S[i]? = some o) : ∃ a ho, L[i]? = some a ∧ H a = some ho ∧ RepO K mg P L o ho := by
  have hl := R.len
  obtain ⟨hi, _⟩ := List.getElem?_eq_some_iff.mp h
  have hi' : i < L.length := by omega
  have e : L[i]? = some L[i] := by simp [hi']
  obtain ⟨ho, q1, q2⟩ := R.ob i o _ h e
  exact ⟨L[i], ho, e, q1, q2⟩
theorem RelH.of_at (R : RelH K mg P L H S) {i : Nat} {a : Addr} (h : L[i]? = some a) : ∃ o ho, S[i]? = some o ∧ H a = some ho ∧ RepO K mg P L o ho := by
  have hl := R.len
  obtain ⟨hi, _⟩ := List.getElem?_eq_some_iff.mp h
  have hi' : i < S.length := by omega
  have e : S[i]? = some S[i] := by simp [hi']
  obtain ⟨ho, q1, q2⟩ := R.ob i _ _ e h
  exact ⟨_, ho, e, q1, q2⟩
theorem RelH.known (R : RelH K mg P L H S) {a : Addr} (h : a ∈ L) : ∃ ho, H a = some ho := by
  obtain ⟨i, hi, e⟩ := List.getElem_of_mem h
  obtain ⟨o, ho, _, q, _⟩ := R.of_at (i := i) (a := a) (by simp [hi, e])
  exact ⟨ho, q⟩
theorem same_new {P : Hp} {p : Addr} {o : HO} (h : P p = none) : Same P (upd P p o) := fun b u e => by
  rw [upd_ne (ne_of_none e h)]; exact e
theorem same_upd2 {P H : Hp} (h : Same P H) {p : Addr} {o : HO} : Same (upd P p o) (upd H p o) := fun b u e => by
  by_cases hb : b = p
  · subst hb; rw [upd_same] at e ⊢; exact e
  · rw [upd_ne hb] at e ⊢; exact h b u e
/-- a new object that nobody changes -/
theorem RelH.newF (R : RelH K mg P L H S) {p : Addr} (h : H p = none) (o : HO) : RelH K mg (upd P p o) L (upd H p o) S where
  fr := same_upd2 R.fr
  len := R.len
  nd := R.nd
  np := fun i mo a h1 h2 h3 => by
    obtain ⟨ho, q, _⟩ := R.ob i mo a h1 h2
    rw [upd_ne (ne_of_none q h)]; exact R.np i mo a h1 h2 h3
  ob := fun i mo a h1 h2 => by
    obtain ⟨ho, q1, q2⟩ := R.ob i mo a h1 h2
    exact ⟨ho, by rw [upd_ne (ne_of_none q1 h)]; exact q1, q2.mono (same_new (R.fresh h)) (LExt.refl L)⟩
theorem get_snoc {α : Type} {L : List α} {x : α} {i : Nat} {y : α} (h : (L ++ [x])[i]? = some y) : L[i]? = some y ∨ (i = L.length ∧ y = x) := by
  by_cases hi : i < L.length
  · rw [List.getElem?_append_left hi] at h; exact .inl h
  · rw [List.getElem?_append_right (by omega)] at h
    have e : i - L.length = 0 := by
      obtain ⟨z, _⟩ := List.getElem?_eq_some_iff.mp h
      simp at z; omega
    rw [e] at h
    simp at h
    exact .inr ⟨by omega, h.symm⟩
theorem at_lt {α : Type} {L : List α} {i : Nat} {y : α} (h : L[i]? = some y) : i < L.length := (List.getElem?_eq_some_iff.mp h).1
/-- an object that nobody of ours speaks of is new or changes -/
theorem RelH.other (R : RelH K mg P L H S) {p : Addr} (h : P p = none) (hL : p ∉ L) (o : HO) : RelH K mg P L (upd H p o) S where
  fr := fun b u e => by rw [upd_ne (ne_of_none e h)]; exact R.fr b u e
  len := R.len
  nd := R.nd
  np := R.np
  ob := fun i mo a h1 h2 => by
    obtain ⟨ho, q1, q2⟩ := R.ob i mo a h1 h2
    exact ⟨ho, by rw [upd_ne (fun z => hL (by subst z; exact List.mem_of_getElem? h2))]; exact q1, q2⟩
/-- a new owned object -/
theorem RelH.newO (R : RelH K mg P L H S) {p : Addr} (h : H p = none) {o : MO} {ho : HO} (r : RepO K mg P L o ho) : RelH K mg P (L ++ [p]) (upd H p ho) (S ++ [o]) where
  fr := fun b u e => by rw [upd_ne (ne_of_none (R.fr b u e) h)]; exact R.fr b u e
  len := by simp [R.len]
  nd := by
    rw [List.nodup_append]
    refine ⟨R.nd, by simp, fun a ha b hb e => ?_⟩
    have e' : b = p := by simpa using hb
    subst e'; subst e
    obtain ⟨u, q⟩ := R.known ha
    rw [q] at h; cases h
  np := fun i mo a h1 h2 h3 => by
    have hl := R.len
    rcases get_snoc h2 with y | ⟨y1, y2⟩
    · rcases get_snoc h1 with z | ⟨z1, z2⟩
      · exact R.np i mo a z y h3
      · have := at_lt y; omega
    · subst y2; exact R.fresh h
  ob := fun i mo a h1 h2 => by
    have hl := R.len
    rcases get_snoc h1 with z | ⟨z1, z2⟩
    · rcases get_snoc h2 with y | ⟨y1, y2⟩
      · obtain ⟨u, q1, q2⟩ := R.ob i mo a z y
        exact ⟨u, by rw [upd_ne (ne_of_none q1 h)]; exact q1, q2.mono (Same.refl P) (LExt.app L [p])⟩
      · have := at_lt z; omega
    · rcases get_snoc h2 with y | ⟨y1, y2⟩
      · have := at_lt y; omega
      · subst y2; subst z2
        exact ⟨ho, upd_same, r.mono (Same.refl P) (LExt.app L [_])⟩
theorem nodup_at {α : Type} {L : List α} (h : L.Nodup) {i j : Nat} {a : α} (h1 : L[i]? = some a) (h2 : L[j]? = some a) : i = j := by
  obtain ⟨z1, e1⟩ := List.getElem?_eq_some_iff.mp h1
  obtain ⟨z2, e2⟩ := List.getElem?_eq_some_iff.mp h2
  exact (List.getElem_inj h).mp (e1.trans e2.symm)
/-- an owned object changes -/
theorem RelH.write (R : RelH K mg P L H S) {i : Nat} {a : Addr} (ha : L[i]? = some a) {o₀ : MO} (h₀ : S[i]? = some o₀) (hv : o₀.live = true) {o : MO} {ho : HO} (r : RepO K mg P L o ho) : RelH K mg P L (upd H a ho) (S.set i o) where
  fr := fun b u e => by
    have z : b ≠ a := fun q => by subst q; rw [R.np i o₀ _ h₀ ha hv] at e; cases e
    rw [upd_ne z]; exact R.fr b u e
  len := by simp [R.len]
  nd := R.nd
  np := fun j mo b h1 h2 h3 => by
    by_cases hj : j = i
    · subst hj
      rw [ha] at h2; cases h2
      exact R.np j o₀ _ h₀ ha hv
    · rw [List.getElem?_set_ne (Ne.symm hj)] at h1
      exact R.np j mo b h1 h2 h3
  ob := fun j mo b h1 h2 => by
    by_cases hj : j = i
    · subst hj
      rw [ha] at h2; cases h2
      have hi := at_lt h1
      rw [List.length_set] at hi
      rw [List.getElem?_set_self hi] at h1
      cases h1
      exact ⟨ho, upd_same, r⟩
    · rw [List.getElem?_set_ne (Ne.symm hj)] at h1
      obtain ⟨u, q1, q2⟩ := R.ob j mo b h1 h2
      have z : b ≠ a := fun q => by subst q; exact hj (nodup_at R.nd h2 ha)
      exact ⟨u, by rw [upd_ne z]; exact q1, q2⟩

/-! ### what is owned is given up -/
/-- all owned objects from the n-th on stand still from now on -/
def still (P H : Hp) (L : List Addr) (n : Nat) : Hp := fun a => if a ∈ L.drop n then H a else P a
theorem still_same (R : RelH K mg P L H S) (n : Nat) : Same P (still P H L n) := fun a o e => by
  unfold still
  by_cases h : a ∈ L.drop n
  · rw [if_pos h]; exact R.fr a o e
  · rw [if_neg h]; exact e
theorem still_at {n : Nat} {i : Nat} {a : Addr} (h : L[i]? = some a) (hn : n ≤ i) : still P H L n a = H a := by
  unfold still
  rw [if_pos]
  refine List.mem_of_getElem? (i := i - n) ?_
  rw [List.getElem?_drop, show n + (i - n) = i by omega]
  exact h
mutual
/-- an owned object from the n-th on as it stands, by value -/
def snapO (S : Sto) (n : Nat) : Nat → Nat → Option D
  | 0, _ => none
  | f + 1, i => if i < n then none else match S[i]? with
    | some (.lst ds) => some (.lst ds)
    | some (.fz ds) => some (.lst ds)
    | some (.dk ks ds) => some (.dk ks ds)
    | some (.dt ks ds) => some (.dt ks ds)
    | some (.rows is) => (snapOs S n f is).map D.lst
    | _ => none
def snapOs (S : Sto) (n : Nat) : Nat → List Nat → Option (List D)
  | 0, _ => none
  | _ + 1, [] => some []
  | f + 1, i :: is => match snapO S n f i, snapOs S n f is with
    | some d, some ds => some (d :: ds)
    | _, _ => none
end
def inRange (n : Nat) : SV → Bool
  | .v _ => true
  | .o i => decide (i < n)
  | .x _ _ _ => true
def MO.below (n : Nat) : MO → Bool
  | .rows is => is.all fun i => decide (i < n)
  | .ins _ _ xs => xs.all (inRange n)
  | _ => true
theorem RepV.back {L' : List Addr} {n : Nat} {x : SV} {v : V} (h : RepV K P L x v) (b : inRange n x = true) (e : ∀ i, i < n → L'[i]? = L[i]?) : RepV K P L' x v := by
  cases x with
  | v d => exact h
  | o i =>
    obtain ⟨a, q1, q2⟩ := h
    exact ⟨a, q1, by rw [e i (of_decide_eq_true b)]; exact q2⟩
  | x a dx f => exact h
theorem RepVs.back {L' : List Addr} {n : Nat} (e : ∀ i, i < n → L'[i]? = L[i]?) : ∀ {xs : List SV} {vs : List V}, RepVs K P L xs vs → xs.all (inRange n) = true → RepVs K P L' xs vs
  | [], _, h, _ => h
  | x :: xs, _, h, b => by
    obtain ⟨v, r, q1, q2, q3⟩ := h
    rw [List.all_cons, Bool.and_eq_true] at b
    exact ⟨v, r, q1, q2.back b.1 e, RepVs.back e q3 b.2⟩
theorem RepO.back {L' : List Addr} {n : Nat} {o : MO} {h : HO} (r : RepO K mg P L o h) (b : o.below n = true) (e : ∀ i, i < n → L'[i]? = L[i]?) : RepO K mg P L' o h := by
  cases o with
  | dead => trivial
  | lst ds => exact r
  | fz ds => exact r
  | dk ks ds => exact r
  | dt ks ds => exact r
  | rows is =>
    obtain ⟨vs, q1, q2⟩ := r
    refine ⟨vs, q1, RepVs.back e q2 ?_⟩
    have b' : is.all (fun i => decide (i < n)) = true := b
    rw [List.all_map]
    exact b'
  | ins c fs xs => obtain ⟨C, dx, vs, q0, q1, q2, q3⟩ := r; exact ⟨C, dx, vs, q0, q1, q2, RepVs.back e q3 b⟩
theorem RelH.cut (R : RelH K mg P L H S) (n : Nat) (hb : (S.take n).all (MO.below n) = true) : RelH K mg (still P H L n) (L.take n) H (S.take n) where
  fr := fun a o e => by
    unfold still at e
    by_cases h : a ∈ L.drop n
    · rw [if_pos h] at e; exact e
    · rw [if_neg h] at e; exact R.fr a o e
  len := by simp [R.len]
  nd := R.nd.sublist (List.take_sublist _ _)
  np := fun i mo a h1 h2 h3 => by
    have hi : i < n := by have := at_lt h1; simp at this; omega
    rw [List.getElem?_take_of_lt hi] at h1 h2
    have hno : a ∉ L.drop n := fun hm => by
      obtain ⟨j, hj⟩ := List.getElem?_of_mem hm
      rw [List.getElem?_drop] at hj
      have := nodup_at R.nd h2 hj
      omega
    unfold still
    rw [if_neg hno]
    exact R.np i mo a h1 h2 h3
  ob := fun i mo a h1 h2 => by
    have hi : i < n := by have := at_lt h1; simp at this; omega
    have hb' : mo.below n = true := List.all_eq_true.mp hb mo (List.mem_of_getElem? h1)
    rw [List.getElem?_take_of_lt hi] at h1 h2
    obtain ⟨ho, q1, q2⟩ := R.ob i mo a h1 h2
    exact ⟨ho, q1, (q2.mono (still_same R n) (LExt.refl L)).back hb' fun j hj => List.getElem?_take_of_lt hj⟩
mutual
theorem snapO_rep (R : RelH K mg P L H S) (n : Nat) : ∀ (f i : Nat) {d : D} {a : Addr}, snapO S n f i = some d → L[i]? = some a → RepD K (still P H L n) d (.ref a)
  | 0, i, d, a, h, _ => by simp [snapO] at h
  | f + 1, i, d, a, h, ha => by
    have hs := still_same R n
    obtain ⟨o, ho, h1, h2, h3⟩ := R.of_at ha
    simp only [snapO, h1] at h
    by_cases hi : i < n
    · rw [if_pos hi] at h; cases h
    rw [if_neg hi] at h
    have st := still_at (P := P) (H := H) ha (Nat.le_of_not_lt hi)
    cases o with
    | dead => simp at h
    | lst ds =>
      obtain ⟨vs, rfl, q⟩ := h3
      simp only [Option.some.injEq] at h; subst h
      simp only [RepD]
      exact ⟨a, vs, rfl, by rw [st]; exact h2, q.mono hs⟩
    | fz ds =>
      obtain ⟨vs, rfl, q⟩ := h3
      simp only [Option.some.injEq] at h; subst h
      simp only [RepD]
      exact ⟨a, vs, rfl, by rw [st]; exact h2, q.mono hs⟩
    | dk ks ds =>
      obtain ⟨vs, rfl, q0, q⟩ := h3
      simp only [Option.some.injEq] at h; subst h
      simp only [RepD]
      exact ⟨a, vs, rfl, by rw [st]; exact h2, q0, q.mono hs⟩
    | dt ks ds =>
      obtain ⟨vs, rfl, q0, q⟩ := h3
      simp only [Option.some.injEq] at h; subst h
      simp only [RepD]
      exact ⟨a, vs, rfl, by rw [st]; exact h2, q0, q.mono hs⟩
    | rows is =>
      obtain ⟨vs, rfl, q⟩ := h3
      obtain ⟨ds, e1, e2⟩ := Option.map_eq_some_iff.mp h
      subst e2
      simp only [RepD]
      exact ⟨a, vs, rfl, by rw [st]; exact h2, snapOs_rep R n f is e1 q⟩
    | ins c fs xs => simp at h
theorem snapOs_rep (R : RelH K mg P L H S) (n : Nat) : ∀ (f : Nat) (is : List Nat) {ds : List D} {vs : List V}, snapOs S n f is = some ds → RepVs K P L (is.map SV.o) vs → RepDs K (still P H L n) ds vs
  | 0, is, ds, vs, h, _ => by simp [snapOs] at h
  | f + 1, [], ds, vs, h, q => by
    simp only [snapOs, Option.some.injEq] at h
    subst h
    cases q
    exact RepDs.nil
  | f + 1, i :: is, ds, vs, h, q => by
    obtain ⟨v, r, rfl, ⟨a, rfl, ha⟩, q3⟩ := q
    simp only [snapOs] at h
    cases e1 : snapO S n f i with
    | none => simp [e1] at h
    | some d =>
      cases e2 : snapOs S n f is with
      | none => simp [e1, e2] at h
      | some ds' =>
        simp only [e1, e2, Option.some.injEq] at h
        subst h
        exact RepDs.cons (snapO_rep R n f i e1 ha) (snapOs_rep R n f is e2 q3)
end
/-- what a slot holds, from the n-th owned object on by value -/
def thaw (S : Sto) (n : Nat) : SV → Option SV
  | .v d => some (.v d)
  | .o i => if i < n then some (.o i) else (snapO S n 4 i).map SV.v
  | .x a dx f => some (.x a dx f)
theorem thaw_rep (R : RelH K mg P L H S) {n : Nat} {x y : SV} {v : V} (h : thaw S n x = some y) (r : RepV K P L x v) : RepV K (still P H L n) (L.take n) y v := by
  cases x with
  | v d =>
    simp only [thaw, Option.some.injEq] at h; subst h
    exact RepD.mono (still_same R n) r
  | o i =>
    obtain ⟨a, rfl, ha⟩ := r
    simp only [thaw] at h
    by_cases hi : i < n
    · rw [if_pos hi] at h
      cases h
      exact ⟨a, rfl, by rw [List.getElem?_take_of_lt hi]; exact ha⟩
    · rw [if_neg hi] at h
      obtain ⟨d, e1, e2⟩ := Option.map_eq_some_iff.mp h
      subst e2
      exact snapO_rep R n 4 i e1 ha
  | x a dx f =>
    simp only [thaw, Option.some.injEq] at h; subst h
    have e := still_same R n
    exact ⟨r.1, fun n d z => by obtain ⟨aa, u, k1, k2, k3⟩ := r.2 n d z; exact ⟨aa, u, k1, e _ _ k2, k3.mono e⟩⟩
/-- what cannot be told so is forgotten -/
def thawG (S : Sto) (n : Nat) (G : Sl) : Sl := G.map fun x => x.bind (thaw S n)
theorem thawG_rep (R : RelH K mg P L H S) {n : Nat} {G : Sl} {σ : St} (r : RelG K P L σ G) : RelG K (still P H L n) (L.take n) σ (thawG S n G) := by
  refine ⟨by unfold thawG; rw [List.length_map]; exact r.1, fun i y e => ?_⟩
  unfold thawG at e
  rw [List.getElem?_map] at e
  cases e1 : G[i]? with
  | none => rw [e1] at e; cases e
  | some x =>
    rw [e1] at e
    cases x with
    | none => cases e
    | some x =>
      have e2 : thaw S n x = some y := by simpa using e
      obtain ⟨v, q3, q4⟩ := r.2 i x e1
      exact ⟨v, q3, thaw_rep R e2 q4⟩
/-- what is owned may be given up alone, where it stands -/
theorem RelH.kill (R : RelH K mg P L H S) {i : Nat} {a : Addr} {vs : List V} {ds : List D} (ha : L[i]? = some a) (hh : H a = some (.lst vs)) (hv : RepDs K P ds vs) : RelH K mg (fun b => if b = a then some (HO.lst vs) else P b) L H (S.set i (.fz ds)) ∧ Same P (fun b => if b = a then some (HO.lst vs) else P b) := by
  have e : Same P (fun b => if b = a then some (HO.lst vs) else P b) := fun b o h => by
    show (if b = a then some (HO.lst vs) else P b) = some o
    by_cases hb : b = a
    · rw [if_pos hb]
      subst hb
      have := R.fr b o h
      rw [hh] at this; exact this
    · rw [if_neg hb]; exact h
  refine ⟨⟨fun b o h => ?_, by simp [R.len], R.nd, fun j mo b h1 h2 h3 => ?_, fun j mo b h1 h2 => ?_⟩, e⟩
  · have h' : (if b = a then some (HO.lst vs) else P b) = some o := h
    by_cases hb : b = a
    · rw [if_pos hb] at h'
      subst hb
      rw [hh]; exact h'
    · rw [if_neg hb] at h'; exact R.fr b o h'
  · show (if b = a then some (HO.lst vs) else P b) = none
    by_cases hj : j = i
    · subst hj
      have hi := at_lt h1
      rw [List.length_set] at hi
      rw [List.getElem?_set_self hi] at h1
      cases h1
      cases h3
    · rw [List.getElem?_set_ne (Ne.symm hj)] at h1
      have z : b ≠ a := fun q => by subst q; exact hj (nodup_at R.nd h2 ha)
      rw [if_neg z]
      exact R.np j mo b h1 h2 h3
  · by_cases hj : j = i
    · subst hj
      rw [ha] at h2; cases h2
      have hi := at_lt h1
      rw [List.length_set] at hi
      rw [List.getElem?_set_self hi] at h1
      cases h1
      exact ⟨_, hh, vs, rfl, hv.mono e⟩
    · rw [List.getElem?_set_ne (Ne.symm hj)] at h1
      obtain ⟨u, q1, q2⟩ := R.ob j mo b h1 h2
      exact ⟨u, q1, q2.mono e (LExt.refl L)⟩
end
end DL

/-! The D layer, part 2: what a piece of code is denoted by. -/
namespace DL
open PySem L2

inductive Rs (α : Type) where
  | ok (a : α) (S : Sto)
  | er (c : Str) (f : Option (Str × D)) (S : Sto)
abbrev Mm (α : Type) := Sl → Sto → Option (Rs α)
def Mm.ret {α : Type} (a : α) : Mm α := fun _ S => some (.ok a S)
def Mm.bind {α β : Type} (m : Mm α) (k : α → Mm β) : Mm β := fun G S => match m G S with
  | some (.ok a S') => k a G S'
  | some (.er c f S') => some (.er c f S')
  | none => none
def Mm.lift {α : Type} (o : Option α) : Mm α := fun _ S => o.map fun a => .ok a S

def ExcR (K : PySem.W.Frag) (mg : Str → Option Value) (P : Hp) (c : Str) (f : Option (Str × D)) (H : Hp) (C : Addr) (dx : Option Addr) : Prop :=
  mg c = some (.ref C) ∧ match f with
    | none => dx = none
    | some (n, d) => ∃ a v, dx = some a ∧ P a = some (.xd [(n, v)]) ∧ RepD K P d v

/-- what is wanted behind -/
def PostR {α β : Type} (K : PySem.W.Frag) (mg : Str → Option Value) (rep : Hp → List Addr → α → β → Prop) (W : WX) (P : Hp) (L : List Addr) (σ : St) (r : Rs α) (Q : β → Hp → Prop) : Prop :=
  match r with
  | .ok a S' => ∀ P' L' H' b, Same P P' → LExt L L' → RelH K mg P' L' H' S' → rep P' L' a b → Q b H'
  | .er c f S' => ∀ P' L' H' C dx, Same P P' → LExt L L' → RelH K mg P' L' H' S' → ExcR K mg P' c f H' C dx → W (.ref C) dx σ H'
def At {α β : Type} (K : PySem.W.Frag) (mg : Str → Option Value) (rep : Hp → List Addr → α → β → Prop) (W : WX) (P : Hp) (L : List Addr) (σ : St) (H : Hp) (t : St → Hp → (β → Hp → Prop) → Prop) (o : Option (Rs α)) : Prop :=
  ∀ r, o = some r → ∀ Q, PostR K mg rep W P L σ r Q → t σ H Q
def EvR {α β : Type} (K : PySem.W.Frag) (mg : Str → Option Value) (rep : Hp → List Addr → α → β → Prop) (W : WX) (t : St → Hp → (β → Hp → Prop) → Prop) (f : Mm α) : Prop :=
  ∀ P L σ H G S, RelH K mg P L H S → RelG K P L σ G → At K mg rep W P L σ H t (f G S)

section
variable {K : PySem.W.Frag} {mg : Str → Option Value} {W : WX}
theorem PostR.mono {α β : Type} {rep : Hp → List Addr → α → β → Prop} {P P1 : Hp} {L L1 : List Addr} {σ : St} {r : Rs α} {Q : β → Hp → Prop} (e : Same P P1) (l : LExt L L1) (h : PostR K mg rep W P L σ r Q) : PostR K mg rep W P1 L1 σ r Q := by
  cases r with
  | ok a S => exact fun P' L' H' b e1 l1 => h P' L' H' b (e.trans e1) (l.trans l1)
  | er c f S => exact fun P' L' H' C dx e1 l1 => h P' L' H' C dx (e.trans e1) (l.trans l1)
theorem At.bind {α β γ δ : Type} {rep : Hp → List Addr → α → β → Prop} {rep2 : Hp → List Addr → γ → δ → Prop} {P : Hp} {L : List Addr} {σ : St} {H : Hp} {G : Sl} {S : Sto} {t : St → Hp → (β → Hp → Prop) → Prop} {f : Mm α}
    {k : β → St → Hp → (δ → Hp → Prop) → Prop} {g : α → Mm γ} (RG : RelG K P L σ G) (ha : At K mg rep W P L σ H t (f G S))
    (hk : ∀ P1 L1 H1 S1 a b, Same P P1 → LExt L L1 → RelH K mg P1 L1 H1 S1 → RelG K P1 L1 σ G → rep P1 L1 a b → At K mg rep2 W P1 L1 σ H1 (k b) (g a G S1)) :
    At K mg rep2 W P L σ H (fun σ H Q => t σ H fun b H1 => k b σ H1 Q) (Mm.bind f g G S) := by
  intro r h Q q
  unfold Mm.bind at h
  cases e : f G S with
  | none => rw [e] at h; cases h
  | some r1 =>
    rw [e] at h
    cases r1 with
    | ok a S' => exact ha _ e _ fun P' L' H' b e1 l1 R1 ra => hk P' L' H' S' a b e1 l1 R1 (RG.mono e1 l1) ra r h Q (q.mono e1 l1)
    | er c f S' =>
      have h' : Rs.er c f S' = r := Option.some.inj h
      subst h'
      exact ha _ e _ q
theorem At.ret {α β : Type} {rep : Hp → List Addr → α → β → Prop} {P : Hp} {L : List Addr} {σ : St} {H : Hp} {S : Sto} {a : α} {b : β} (R : RelH K mg P L H S) (r : rep P L a b) : At K mg rep W P L σ H (fun _ H Q => Q b H) (some (.ok a S)) := by
  intro r1 h Q q
  cases h
  exact q P L H b (Same.refl P) (LExt.refl L) R r
end

/-! ### the judgements -/
def rV (K : PySem.W.Frag) : Hp → List Addr → SV → V → Prop := fun P L x v => RepV K P L x v
def rVs (K : PySem.W.Frag) : Hp → List Addr → List SV → List V → Prop := fun P L x v => RepVs K P L x v
def rB : Hp → List Addr → Bool → Bool → Prop := fun _ _ a b => a = b
def rOI : Hp → List Addr → Option Int → Option Int → Prop := fun _ _ a b => a = b

def SE (X : Cx) (W : WX) (e : Expr) (f : Mm SV) : Prop := ∃ t, PE X e t ∧ EvR X.K X.mg (rV X.K) W t f
def STe (X : Cx) (W : WX) (e : Expr) (f : Mm Bool) : Prop := ∃ t, PT X e t ∧ EvR X.K X.mg rB W t f
def SWe (X : Cx) (W : WX) (e : Expr) (f : Mm Bool) : Prop := ∃ t, PW X e t ∧ EvR X.K X.mg rB W t f
def SA (X : Cx) (W : WX) (es : List Expr) (f : Mm (List SV)) : Prop := ∃ t, PA X es t ∧ EvR X.K X.mg (rVs X.K) W t f
def SO (X : Cx) (W : WX) (e : Option Expr) (f : Mm (Option Int)) : Prop := ∃ t, PO X e t ∧ EvR X.K X.mg rOI W t f

/-! ### reading what a slot holds -/
def rd (S : Sto) : SV → Option D
  | .v d => some d
  | .o i => match S[i]? with
    | some (.lst ds) => some (.lst ds)
    | some (.fz ds) => some (.lst ds)
    | some (.dk ks ds) => some (.dk ks ds)
    | some (.dt ks ds) => some (.dt ks ds)
    | _ => none
  | .x _ _ _ => none
/-- data whose outermost object stands in H now -/
def RepS (K : PySem.W.Frag) (P H : Hp) : D → V → Prop
  | .lst ds, v => ∃ a vs, v = .ref a ∧ H a = some (.lst vs) ∧ RepDs K P ds vs
  | .dk ks ds, v => ∃ a kvs, v = .ref a ∧ H a = some (.dK kvs) ∧ kvs.map (·.1) = ks.map kS ∧ RepDs K P ds (kvs.map (·.2))
  | .dt ks ds, v => ∃ a kvs, v = .ref a ∧ H a = some (.dT kvs) ∧ kvs.map (·.1) = ks.map (·.map kS) ∧ RepDs K P ds (kvs.map (·.2))
  | d, v => RepD K P d v
theorem RepS.of {K : PySem.W.Frag} {P H : Hp} (e : Same P H) {d : D} {v : V} (h : RepD K P d v) : RepS K P H d v := by
  cases d with
  | lst ds => simp only [RepD] at h; obtain ⟨a, vs, q1, q2, q3⟩ := h; exact ⟨a, vs, q1, e _ _ q2, q3⟩
  | dk ks ds => simp only [RepD] at h; obtain ⟨a, vs, q1, q2, q3⟩ := h; exact ⟨a, vs, q1, e _ _ q2, q3⟩
  | dt ks ds => simp only [RepD] at h; obtain ⟨a, vs, q1, q2, q3⟩ := h; exact ⟨a, vs, q1, e _ _ q2, q3⟩
  | non => exact h
  | bl _ => exact h
  | int _ => exact h
  | str _ => exact h
  | tup _ => exact h
  | rol _ => exact h
theorem rd_rep {K : PySem.W.Frag} {mg : Str → Option Value} {P : Hp} {L : List Addr} {H : Hp} {S : Sto} (R : RelH K mg P L H S) {x : SV} {v : V} {d : D} (r : RepV K P L x v) (h : rd S x = some d) : RepS K P H d v := by
  cases x with
  | v d' =>
    simp only [rd, Option.some.injEq] at h
    subst h
    exact RepS.of R.fr r
  | x _ _ _ => cases h
  | o i =>
    obtain ⟨a, rfl, ha⟩ := r
    obtain ⟨o, ho, h1, h2, h3⟩ := R.of_at ha
    simp only [rd, h1] at h
    cases o with
    | lst ds =>
      obtain ⟨vs, rfl, q⟩ := h3
      cases h
      exact ⟨a, vs, rfl, h2, q⟩
    | fz ds =>
      obtain ⟨vs, rfl, q⟩ := h3
      cases h
      exact ⟨a, vs, rfl, h2, q⟩
    | dk ks ds =>
      obtain ⟨vs, rfl, q⟩ := h3
      cases h
      exact ⟨a, vs, rfl, h2, q⟩
    | dt ks ds =>
      obtain ⟨vs, rfl, q⟩ := h3
      cases h
      exact ⟨a, vs, rfl, h2, q⟩
    | dead => cases h
    | rows is => cases h
    | ins c fs xs => cases h
/-- how two values are read by the rules -/
def IsS (K : PySem.W.Frag) (H : Hp) (vs : List V) (v : V) : Prop := ∃ a, v = .ref a ∧ (SqL K H a vs ∨ SqT K H a vs)
/-- a list or a tuple -/
def seqOf : D → Option (List D)
  | .tup ds => some ds
  | .lst ds => some ds
  | .rol ds => some ds
  | _ => none
theorem seq_rep {K : PySem.W.Frag} {P H : Hp} (e : Same P H) {d : D} {ds : List D} {v : V} (h : RepS K P H d v) (hs : seqOf d = some ds) : ∃ a vs, v = .ref a ∧ (SqL K H a vs ∨ SqT K H a vs) ∧ RepDs K P ds vs := by
  cases d with
  | tup es =>
    cases hs
    obtain ⟨a, vs, q1, q2, q3⟩ : RepD K P (.tup _) v := h
    exact ⟨a, vs, q1, .inr (sqT_mono e q2), q3⟩
  | lst es =>
    cases hs
    obtain ⟨a, vs, q1, q2, q3⟩ := h
    exact ⟨a, vs, q1, .inl (SqL.of q2), q3⟩
  | rol es =>
    cases hs
    obtain ⟨a, vs, q1, q2, q3⟩ : RepD K P (.rol _) v := h
    exact ⟨a, vs, q1, .inl (e.seq q2), q3⟩
  | _ => cases hs

/-- nothing, or new objects that nobody changes -/
inductive Grow : Hp → Hp → Hp → Hp → Prop
  | refl {P H : Hp} : Grow P H P H
  | step {P H P' H' : Hp} (p : Addr) (o : HO) : H p = none → Grow (upd P p o) (upd H p o) P' H' → Grow P H P' H'
theorem Grow.one {P H : Hp} {p : Addr} {o : HO} (h : H p = none) : Grow P H (upd P p o) (upd H p o) := .step p o h .refl
theorem Grow.relH {K : PySem.W.Frag} {mg : Str → Option Value} {L : List Addr} {S : Sto} {P H P' H' : Hp} (g : Grow P H P' H') : RelH K mg P L H S → RelH K mg P' L H' S ∧ Same P P' := by
  induction g with
  | refl => exact fun R => ⟨R, Same.refl _⟩
  | step p o h _ ih => exact fun R => ⟨(ih (R.newF h o)).1, (same_new (R.fresh h)).trans (ih (R.newF h o)).2⟩

/-! ### operations by values -/
def OpDR (K : PySem.W.Frag) (r : R2) (g : D → D → Option D) : Prop :=
  ∀ P H x y vx vy d, Same P H → RepS K P H x vx → RepS K P H y vy → g x y = some d → ∀ Q : VK, (∀ P' H' v, Grow P H P' H' → RepD K P' d v → Q v H') → r vx vy H Q
def OpD (X : Cx) (f : Value → Value → Sem Value) (g : D → D → Option D) : Prop := ∃ r, OpR X f r ∧ OpDR X.K r g
def orD {α β : Type} (g1 g2 : α → β → Option D) : α → β → Option D := fun x y => match g1 x y with
  | some d => some d
  | none => g2 x y
theorem OpD.or {X : Cx} {f : Value → Value → Sem Value} {g1 g2 : D → D → Option D} (h1 : OpD X f g1) (h2 : OpD X f g2) : OpD X f (orD g1 g2) := by
  obtain ⟨r1, a1, b1⟩ := h1
  obtain ⟨r2, a2, b2⟩ := h2
  refine ⟨_, a1.or a2, fun P H x y vx vy d e rx ry hd Q q => ?_⟩
  unfold orD at hd
  cases e1 : g1 x y with
  | some d' =>
    rw [e1] at hd
    cases hd
    exact .inl (b1 P H x y vx vy _ e rx ry e1 Q q)
  | none =>
    rw [e1] at hd
    exact .inr (b2 P H x y vx vy d e rx ry hd Q q)
def op2 (g : D → D → Option D) (x y : SV) : Mm SV := fun _ S => match rd S x, rd S y with
  | some a, some b => (g a b).map fun d => .ok (.v d) S
  | _, _ => none
def bin (g : D → D → Option D) (fa fb : Mm SV) : Mm SV := fa.bind fun x => fb.bind fun y => op2 g x y
section
variable {K : PySem.W.Frag} {mg : Str → Option Value} {W : WX}
theorem ev_op {r : R2} {g : D → D → Option D} (hr : OpDR K r g) {ta tb : TE} {fa fb : Mm SV} (ha : EvR K mg (rV K) W ta fa) (hb : EvR K mg (rV K) W tb fb) :
    EvR K mg (rV K) W (tOp r ta tb) (bin g fa fb) := by
  intro P L σ H G S R RG
  refine At.bind (t := ta) RG (ha P L σ H G S R RG) fun P1 L1 H1 S1 x vx e1 l1 R1 RG1 rx => ?_
  refine At.bind (t := tb) RG1 (hb P1 L1 σ H1 G S1 R1 RG1) fun P2 L2 H2 S2 y vy e2 l2 R2 RG2 ry => ?_
  intro r1 h Q q
  have rx2 : RepV K P2 L2 x vx := RepV.mono e2 l2 rx
  unfold op2 at h
  cases ex : rd S2 x with
  | none => rw [ex] at h; cases h
  | some dx =>
    cases ey : rd S2 y with
    | none => rw [ex, ey] at h; cases h
    | some dy =>
      rw [ex, ey] at h
      obtain ⟨d, hd, hr1⟩ := Option.map_eq_some_iff.mp h
      subst hr1
      refine hr P2 H2 dx dy vx vy d R2.fr (rd_rep R2 rx2 ex) (rd_rep R2 ry ey) hd Q fun P' H' v gr rv => ?_
      obtain ⟨R3, e3⟩ := gr.relH R2
      exact q P' L2 H' v e3 (LExt.refl _) R3 rv
end
section
variable {X : Cx} {W : WX} {a b c : Expr} {pos : Pos} {fa fb fc : Mm SV}
theorem se_bin {op : Operator} {g : D → D → Option D} (ho : OpD X (binaryOp op) g) (ha : SE X W a fa) (hb : SE X W b fb) : SE X W (.BinOp a op b pos) (bin g fa fb) := by
  obtain ⟨r, h1, h2⟩ := ho
  obtain ⟨ta, a1, a2⟩ := ha
  obtain ⟨tb, b1, b2⟩ := hb
  exact ⟨_, pe_op h1 a1 b1, ev_op h2 a2 b2⟩
theorem se_cmp {op : CmpOp} {g : D → D → Option D} (ho : OpD X (compareOp op) g) (ha : SE X W a fa) (hb : SE X W b fb) (hm : behindInMarks op b = false := by rfl) : SE X W (.Compare a [op] [b] pos) (bin g fa fb) := by
  obtain ⟨r, h1, h2⟩ := ho
  obtain ⟨ta, a1, a2⟩ := ha
  obtain ⟨tb, b1, b2⟩ := hb
  exact ⟨_, pe_cmpR h1 a1 b1 hm, ev_op h2 a2 b2⟩
/-- a flag, as a test -/
def asB (x : SV) : Mm Bool := fun _ S => match x with
  | .v (.bl b) => some (.ok b S)
  | _ => none
theorem ev_test {t : TE} {f : Mm SV} (h : EvR X.K X.mg (rV X.K) W t f) : EvR X.K X.mg rB W (tTest t) (f.bind asB) := by
  intro P L σ H G S R RG
  refine At.bind (t := t) RG (h P L σ H G S R RG) fun P1 L1 H1 S1 x vx e1 l1 R1 RG1 rx => ?_
  intro r1 h1 Q q
  cases x with
  | o i => cases h1
  | x _ _ _ => cases h1
  | v d =>
    cases d <;> first | (cases h1; done) | skip
    rename_i b
    cases h1
    refine ⟨b, rx, ?_⟩
    exact q P1 L1 H1 b (Same.refl _) (LExt.refl _) R1 rfl
theorem st_cmp {op : CmpOp} {g : D → D → Option D} (ho : OpD X (compareOp op) g) (ha : SE X W a fa) (hb : SE X W b fb) (hm : behindInMarks op b = false := by rfl) : STe X W (.Compare a [op] [b] pos) ((bin g fa fb).bind asB) := by
  obtain ⟨r, h1, h2⟩ := ho
  obtain ⟨ta, a1, a2⟩ := ha
  obtain ⟨tb, b1, b2⟩ := hb
  exact ⟨_, pt_cmpR h1 a1 b1 hm, ev_test (ev_op h2 a2 b2)⟩
theorem st_val {e : Expr} {f : Mm SV} (h : SE X W e f) (he : ∀ whole, isTrue e X.env whole = (do let v ← whole; standAt e.pos; holding [v] (truthy v)) := by intro _; rfl) : STe X W e (f.bind asB) := by
  obtain ⟨t, a1, a2⟩ := h
  exact ⟨_, pt_val a1 he, ev_test a2⟩
end
end DL

/-! The D layer, part 3: operators by values. -/
namespace DL
open PySem L2

/-! ### ints -/
def i2 (g : Int → Int → Option D) : D → D → Option D
  | .int a, .int b => g a b
  | _, _ => none
def pureD : D → Bool
  | .non => true
  | .bl _ => true
  | .int _ => true
  | .str _ => true
  | _ => false
theorem opd_i {K : PySem.W.Frag} {C : Int → Int → Prop} {f : Int → Int → V} {g : Int → Int → Option D} (hg : ∀ i j d, g i j = some d → C i j ∧ ∀ P, RepD K P d (f i j)) : OpDR K (rI C f) (i2 g) := by
  intro P H x y vx vy d e rx ry h Q q
  cases x with
  | int i =>
    cases y with
    | int j =>
      obtain ⟨h1, h2⟩ := hg i j d h
      exact ⟨i, j, rx, ry, h1, q P H _ .refl (h2 P)⟩
    | _ => cases h
  | _ => cases h
theorem opd_i0 {K : PySem.W.Frag} {f : Int → Int → V} {g : Int → Int → Option D} (hg : ∀ i j d, g i j = some d → ∀ P, RepD K P d (f i j)) : OpDR K (rI0 f) (i2 g) := by
  intro P H x y vx vy d e rx ry h Q q
  cases x with
  | int i =>
    cases y with
    | int j => exact ⟨i, j, rx, ry, q P H _ .refl (hg i j d h P)⟩
    | _ => cases h
  | _ => cases h
def addI : D → D → Option D := i2 fun a b => some (.int (a + b))
def subI : D → D → Option D := i2 fun a b => some (.int (a - b))
def mulI : D → D → Option D := i2 fun a b => if a.natAbs.log2 + b.natAbs.log2 < 1000000 then some (.int (a * b)) else none
def divI : D → D → Option D := i2 fun a b => if 0 < b ∧ b.natAbs.log2 < 9000 then some (.int (a / b)) else none
def modI : D → D → Option D := i2 fun a b => if 0 < b then some (.int (a % b)) else none
def powI : D → D → Option D := i2 fun a b => if 0 ≤ b ∧ b ≤ 1000000 ∧ a.natAbs < 2 ^ 64 then some (.int (a ^ b.toNat)) else none
theorem od_addI {X : Cx} : OpD X (binaryOp .Add) addI := ⟨_, op_add, opd_i0 fun i j d h P => by cases h; simp only [RepD]⟩
theorem od_subI {X : Cx} : OpD X (binaryOp .Sub) subI := ⟨_, op_sub, opd_i0 fun i j d h P => by cases h; simp only [RepD]⟩
theorem od_mulI {X : Cx} : OpD X (binaryOp .Mult) mulI := ⟨_, op_mulW, opd_i fun i j d h => by
  by_cases c : i.natAbs.log2 + j.natAbs.log2 < 1000000
  · rw [if_pos c] at h; cases h; exact ⟨c, fun P => by simp only [RepD]⟩
  · rw [if_neg c] at h; cases h⟩
theorem od_divI {X : Cx} : OpD X (binaryOp .FloorDiv) divI := ⟨_, op_fdivW, opd_i fun i j d h => by
  by_cases c : 0 < j ∧ j.natAbs.log2 < 9000
  · rw [if_pos c] at h; cases h; exact ⟨c, fun P => by simp only [RepD]⟩
  · rw [if_neg c] at h; cases h⟩
theorem od_modI {X : Cx} : OpD X (binaryOp .Mod) modI := ⟨_, op_mod, opd_i fun i j d h => by
  by_cases c : 0 < j
  · rw [if_pos c] at h; cases h; exact ⟨c, fun P => by simp only [RepD]⟩
  · rw [if_neg c] at h; cases h⟩
theorem od_powI {X : Cx} : OpD X (binaryOp .Pow) powI := ⟨_, op_pow, opd_i fun i j d h => by
  by_cases c : 0 ≤ j ∧ j ≤ 1000000 ∧ i.natAbs < 2 ^ 64
  · rw [if_pos c] at h; cases h; exact ⟨c, fun P => by simp only [RepD]⟩
  · rw [if_neg c] at h; cases h⟩
def cmpI (p : Int → Int → Bool) : D → D → Option D := i2 fun a b => some (.bl (p a b))
def ltI : D → D → Option D := cmpI fun a b => decide (a < b)
def leI : D → D → Option D := cmpI fun a b => decide (a ≤ b)
def gtI : D → D → Option D := cmpI fun a b => decide (b < a)
def geI : D → D → Option D := cmpI fun a b => decide (b ≤ a)
theorem od_ltI {X : Cx} : OpD X (compareOp .Lt) ltI := ⟨_, op_lt, opd_i0 fun i j d h P => by cases h; simp only [RepD]⟩
theorem od_leI {X : Cx} : OpD X (compareOp .LtE) leI := ⟨_, op_le, opd_i0 fun i j d h P => by cases h; simp only [RepD]⟩
theorem od_gtI {X : Cx} : OpD X (compareOp .Gt) gtI := ⟨_, op_gt, opd_i0 fun i j d h P => by cases h; simp only [RepD]⟩
theorem od_geI {X : Cx} : OpD X (compareOp .GtE) geI := ⟨_, op_ge, opd_i0 fun i j d h P => by cases h; simp only [RepD]⟩

/-! ### texts -/
def s2 (g : List Nat → List Nat → Option D) : D → D → Option D
  | .str a, .str b => g a b
  | _, _ => none
theorem mkS_app (a b : List Nat) : mkS a ++ mkS b = mkS (a ++ b) := by
  show Str.append (mkS a) (mkS b) = mkS (a ++ b)
  simp [Str.append, mkS]
def lineN : Nat := 16777216
def addS : D → D → Option D := s2 fun a b => if a.length + b.length ≤ lineN then some (.str (a ++ b)) else none
theorem od_addS {X : Cx} : OpD X (binaryOp .Add) addS := ⟨_, op_add_str, fun P H x y vx vy d e rx ry h Q q => by
  cases x with
  | str a =>
    cases y with
    | str b =>
      have h' : (if a.length + b.length ≤ lineN then some (D.str (a ++ b)) else none) = some d := h
      by_cases c : a.length + b.length ≤ lineN
      · rw [if_pos c] at h'
        cases h'
        exact ⟨mkS a, mkS b, rx, ry, by rw [mkS_len, mkS_len, sizeLine_eq]; exact c, q P H _ .refl (by rw [mkS_app]; exact rfl)⟩
      · rw [if_neg c] at h'; cases h'
    | _ => cases h
  | _ => cases h⟩
def ltS : D → D → Option D := s2 fun a b => some (.bl (decide (a < b)))
theorem od_ltS {X : Cx} : OpD X (compareOp .Lt) ltS := ⟨_, op_lt_str, fun P H x y vx vy d e rx ry h Q q => by
  cases x with
  | str a =>
    cases y with
    | str b =>
      cases h
      refine ⟨mkS a, mkS b, rx, ry, q P H _ .refl ?_⟩
      simp only [RepD, mkS_cps]
    | _ => cases h
  | _ => cases h⟩

/-! ### lists and tuples joined -/
def catL : D → D → Option D
  | .lst a, .lst b => if a.length + b.length ≤ lineN then some (.lst (a ++ b)) else none
  | _, _ => none
theorem od_catL {X : Cx} : OpD X (binaryOp .Add) catL := ⟨_, op_cat, fun P H x y vx vy d e rx ry h Q q => by
  cases x with
  | lst a =>
    cases y with
    | lst b =>
      have h' : (if a.length + b.length ≤ lineN then some (D.lst (a ++ b)) else none) = some d := h
      by_cases c : a.length + b.length ≤ lineN
      · rw [if_pos c] at h'
        cases h'
        obtain ⟨p1, vs, rfl, g1, g2⟩ := rx
        obtain ⟨p2, us, rfl, k1, k2⟩ := ry
        refine ⟨p1, p2, vs, us, rfl, rfl, g1, k1, by rw [g2.len, k2.len, sizeLine_eq]; exact c, fun p hp => q _ _ _ (Grow.one (o := .lst (vs ++ us)) hp) ?_⟩
        have hP : P p = none := by
          cases z : P p with
          | none => rfl
          | some o => rw [e p o z] at hp; cases hp
        simp only [RepD]
        exact ⟨p, _, rfl, upd_same, (g2.app k2).mono (same_new hP)⟩
      · rw [if_neg c] at h'; cases h'
    | _ => cases h
  | _ => cases h⟩
def catT : D → D → Option D
  | .tup a, .tup b => if a.length + b.length ≤ lineN then some (.tup (a ++ b)) else none
  | _, _ => none
theorem fresh_of {P H : Hp} (e : Same P H) {p : Addr} (hp : H p = none) : P p = none := by
  cases z : P p with
  | none => rfl
  | some o => rw [e p o z] at hp; cases hp
theorem od_catT {X : Cx} : OpD X (binaryOp .Add) catT := ⟨_, op_catA, fun P H x y vx vy d e rx ry h Q q => by
  cases x with
  | tup a =>
    cases y with
    | tup b =>
      have h' : (if a.length + b.length ≤ lineN then some (D.tup (a ++ b)) else none) = some d := h
      by_cases c : a.length + b.length ≤ lineN
      · rw [if_pos c] at h'
        cases h'
        have rx' : RepD X.K P (.tup a) vx := rx
        have ry' : RepD X.K P (.tup b) vy := ry
        simp only [RepD] at rx' ry'
        obtain ⟨p1, vs, rfl, g1, g2⟩ := rx'
        obtain ⟨p2, us, rfl, k1, k2⟩ := ry'
        refine ⟨p1, p2, vs, us, rfl, rfl, sqT_mono e g1, sqT_mono e k1, by rw [g2.len, k2.len, sizeLine_eq]; exact c, fun z => ?_, fun z1 z2 => ?_, fun z1 z2 p hp => ?_⟩
        · subst z
          have ea : a = [] := by have := g2.len; cases a with | nil => rfl | cons _ _ => simp at this
          subst ea
          refine q _ _ _ .refl ?_
          simp only [RepD, List.nil_append]
          exact ⟨p2, us, rfl, k1, k2⟩
        · subst z2
          have eb : b = [] := by have := k2.len; cases b with | nil => rfl | cons _ _ => simp at this
          subst eb
          refine q _ _ _ .refl ?_
          simp only [RepD, List.append_nil]
          exact ⟨p1, vs, rfl, g1, g2⟩
        · refine q _ _ _ (Grow.one (o := .tup (vs ++ us)) hp) ?_
          simp only [RepD]
          exact ⟨p, _, rfl, SqT.of upd_same, (g2.app k2).mono (same_new (fresh_of e hp))⟩
      · rw [if_neg c] at h'; cases h'
    | _ => cases h
  | _ => cases h⟩
def addD : D → D → Option D := orD addI (orD addS (orD catL catT))
theorem od_add {X : Cx} : OpD X (binaryOp .Add) addD := od_addI.or (od_addS.or (od_catL.or od_catT))
/-- a list times a number -/
def repL : D → D → Option D
  | .lst a, .int k => if a.length * k.toNat ≤ lineN ∧ -(2 ^ 63) ≤ k ∧ k < 2 ^ 63 then some (.lst (List.replicate k.toNat a).flatten) else none
  | _, _ => none
theorem RepDs.rep {K : PySem.W.Frag} {P : Hp} {ds : List D} {vs : List V} (h : RepDs K P ds vs) : ∀ n : Nat, RepDs K P (List.replicate n ds).flatten (List.replicate n vs).flatten
  | 0 => RepDs.nil
  | n + 1 => by
    rw [List.replicate_succ, List.replicate_succ, List.flatten_cons, List.flatten_cons]
    exact h.app (RepDs.rep h n)
theorem od_repL {X : Cx} : OpD X (binaryOp .Mult) repL := ⟨_, op_rep, fun P H x y vx vy d e rx ry h Q q => by
  cases x with
  | lst a =>
    cases y with
    | int k =>
      have h' : (if a.length * k.toNat ≤ lineN ∧ -(2 ^ 63) ≤ k ∧ k < 2 ^ 63 then some (D.lst (List.replicate k.toNat a).flatten) else none) = some d := h
      by_cases c : a.length * k.toNat ≤ lineN ∧ -(2 ^ 63) ≤ k ∧ k < 2 ^ 63
      · rw [if_pos c] at h'
        cases h'
        obtain ⟨p1, vs, rfl, g1, g2⟩ := rx
        refine ⟨p1, k, vs, rfl, ry, g1, c.2.1, c.2.2, by rw [g2.len, sizeLine_eq]; exact c.1, fun p hp => q _ _ _ (Grow.one (o := .lst _) hp) ?_⟩
        simp only [RepD]
        exact ⟨p, _, rfl, upd_same, (g2.rep _).mono (same_new (fresh_of e hp))⟩
      · rw [if_neg c] at h'; cases h'
    | _ => cases h
  | _ => cases h⟩

/-! ### == and != of data -/
mutual
def toPy : D → Option PyData
  | .non => some .none
  | .bl b => some (.bool b)
  | .int i => some (.int i)
  | .str s => some (.str (mkS s))
  | .tup ds => (toPys ds).map .tuple
  | .lst ds => (toPys ds).map .list
  | .rol ds => (toPys ds).map .list
  | .dk _ _ => none
  | .dt _ _ => none
def toPys : List D → Option (List PyData)
  | [] => some []
  | d :: ds => match toPy d, toPys ds with
    | some p, some ps => some (p :: ps)
    | _, _ => none
end
mutual
theorem toPy_rep {K : PySem.W.Frag} {P H : Hp} (e : Same P H) : ∀ {d : D} {p : PyData} {v : V}, toPy d = some p → RepD K P d v → Dp K H v p
  | .non, p, v, h, r => by simp only [toPy, Option.some.injEq] at h; simp only [RepD] at r; subst h; subst r; exact .non
  | .bl b, p, v, h, r => by simp only [toPy, Option.some.injEq] at h; simp only [RepD] at r; subst h; subst r; exact .bl b
  | .int b, p, v, h, r => by simp only [toPy, Option.some.injEq] at h; simp only [RepD] at r; subst h; subst r; exact .int b
  | .str b, p, v, h, r => by simp only [toPy, Option.some.injEq] at h; simp only [RepD] at r; subst h; subst r; exact .str _
  | .tup ds, p, v, h, r => by
    simp only [toPy] at h; simp only [RepD] at r
    obtain ⟨ps, h1, h2⟩ := Option.map_eq_some_iff.mp h
    obtain ⟨a, vs, rfl, q1, q2⟩ := r
    subst h2
    exact .tup (sqT_mono e q1) (toPys_rep e h1 q2)
  | .lst ds, p, v, h, r => by
    simp only [toPy] at h; simp only [RepD] at r
    obtain ⟨ps, h1, h2⟩ := Option.map_eq_some_iff.mp h
    obtain ⟨a, vs, rfl, q1, q2⟩ := r
    subst h2
    exact .lst (SqL.of (e _ _ q1)) (toPys_rep e h1 q2)
  | .rol ds, p, v, h, r => by
    simp only [toPy] at h; simp only [RepD] at r
    obtain ⟨ps, h1, h2⟩ := Option.map_eq_some_iff.mp h
    obtain ⟨a, vs, rfl, q1, q2⟩ := r
    subst h2
    exact .lst (e.seq q1) (toPys_rep e h1 q2)
  | .dk _ _, p, v, h, r => by simp only [toPy] at h; cases h
  | .dt _ _, p, v, h, r => by simp only [toPy] at h; cases h
theorem toPys_rep {K : PySem.W.Frag} {P H : Hp} (e : Same P H) : ∀ {ds : List D} {ps : List PyData} {vs : List V}, toPys ds = some ps → RepDs K P ds vs → DpAll K H vs ps
  | [], ps, vs, h, r => by simp only [toPys, Option.some.injEq] at h; simp only [RepDs] at r; subst h; subst r; exact .nil
  | d :: ds, ps, vs, h, r => by
    simp only [toPys] at h
    simp only [RepDs] at r
    obtain ⟨v, r', rfl, q1, q2⟩ := r
    cases e1 : toPy d with
    | none => rw [e1] at h; cases h
    | some p =>
      cases e2 : toPys ds with
      | none => rw [e1, e2] at h; cases h
      | some ps' =>
        rw [e1, e2] at h
        cases h
        exact .cons (toPy_rep e e1 q1) (toPys_rep e e2 q2)
end
theorem toPyS_rep {K : PySem.W.Frag} {P H : Hp} (e : Same P H) {d : D} {p : PyData} {v : V} (h : toPy d = some p) (r : RepS K P H d v) : Dp K H v p := by
  cases d with
  | lst ds =>
    simp only [toPy] at h
    obtain ⟨ps, h1, h2⟩ := Option.map_eq_some_iff.mp h
    obtain ⟨a, vs, rfl, q1, q2⟩ := r
    subst h2
    exact .lst (SqL.of q1) (toPys_rep e h1 q2)
  | dk _ _ => simp only [toPy] at h; cases h
  | dt _ _ => simp only [toPy] at h; cases h
  | non => exact toPy_rep e h r
  | bl b => exact toPy_rep e h r
  | int b => exact toPy_rep e h r
  | str b => exact toPy_rep e h r
  | tup b => exact toPy_rep e h r
  | rol b => exact toPy_rep e h r
/-- signs that are signs -/
def vcB (s : List Nat) : Bool := s.all (· < 0x110000)
mutual
/-- data that == takes: no dicts, signs that are signs, at most f deep -/
def okD : Nat → D → Bool
  | _, .non => true
  | _, .bl _ => true
  | _, .int _ => true
  | _, .str s => vcB s
  | 0, .tup _ => false
  | 0, .lst _ => false
  | 0, .rol _ => false
  | f + 1, .tup ds => okDs f ds
  | f + 1, .lst ds => okDs f ds
  | f + 1, .rol ds => okDs f ds
  | _, .dk _ _ => false
  | _, .dt _ _ => false
def okDs : Nat → List D → Bool
  | _, [] => true
  | f, d :: ds => okD f d && okDs f ds
end
mutual
def eqd : D → D → Bool
  | .non, .non => true
  | .bl a, .bl b => a == b
  | .bl a, .int j => (if a then 1 else 0) == j
  | .int i, .bl b => i == (if b then 1 else 0)
  | .int i, .int j => i == j
  | .str x, .str y => x == y
  | .tup xs, .tup ys => eqds xs ys
  | .lst xs, .lst ys => eqds xs ys
  | .lst xs, .rol ys => eqds xs ys
  | .rol xs, .lst ys => eqds xs ys
  | .rol xs, .rol ys => eqds xs ys
  | _, _ => false
def eqds : List D → List D → Bool
  | [], [] => true
  | x :: xs, y :: ys => eqd x y && eqds xs ys
  | _, _ => false
end
mutual
theorem okD_py : ∀ (f : Nat) (d : D), okD f d = true → ∃ p, toPy d = some p ∧ p.canLay0 = true ∧ p.depth ≤ f
  | f, .non, _ => ⟨.none, by simp only [toPy], by simp only [PyData.canLay0], by simp only [PyData.depth]; omega⟩
  | f, .bl b, _ => ⟨.bool b, by simp only [toPy], by simp only [PyData.canLay0], by simp only [PyData.depth]; omega⟩
  | f, .int i, _ => ⟨.int i, by simp only [toPy], by simp only [PyData.canLay0], by simp only [PyData.depth]; omega⟩
  | f, .str s, h => ⟨.str (mkS s), by simp only [toPy], by
      simp only [okD, vcB] at h
      simp only [PyData.canLay0, PyData.strOk, mkS]
      simpa using h, by simp only [PyData.depth]; omega⟩
  | 0, .tup ds, h => by simp only [okD] at h; cases h
  | 0, .lst ds, h => by simp only [okD] at h; cases h
  | 0, .rol ds, h => by simp only [okD] at h; cases h
  | f + 1, .tup ds, h => by
    simp only [okD] at h
    obtain ⟨ps, h1, h2, h3⟩ := okDs_py f ds h
    exact ⟨.tuple ps, by simp only [toPy, h1, Option.map_some], by simp only [PyData.canLay0]; exact h2, by simp only [PyData.depth]; omega⟩
  | f + 1, .lst ds, h => by
    simp only [okD] at h
    obtain ⟨ps, h1, h2, h3⟩ := okDs_py f ds h
    exact ⟨.list ps, by simp only [toPy, h1, Option.map_some], by simp only [PyData.canLay0]; exact h2, by simp only [PyData.depth]; omega⟩
  | f + 1, .rol ds, h => by
    simp only [okD] at h
    obtain ⟨ps, h1, h2, h3⟩ := okDs_py f ds h
    exact ⟨.list ps, by simp only [toPy, h1, Option.map_some], by simp only [PyData.canLay0]; exact h2, by simp only [PyData.depth]; omega⟩
  | f, .dk _ _, h => by simp only [okD] at h; cases h
  | f, .dt _ _, h => by simp only [okD] at h; cases h
theorem okDs_py : ∀ (f : Nat) (ds : List D), okDs f ds = true → ∃ ps, toPys ds = some ps ∧ PyData.canLayAll0 ps = true ∧ PyData.depthAll ps ≤ f
  | f, [], _ => ⟨[], by simp only [toPys], by simp only [PyData.canLayAll0], by simp only [PyData.depthAll]; omega⟩
  | f, d :: ds, h => by
    simp only [okDs, Bool.and_eq_true] at h
    obtain ⟨p, a1, a2, a3⟩ := okD_py f d h.1
    obtain ⟨ps, b1, b2, b3⟩ := okDs_py f ds h.2
    exact ⟨p :: ps, by simp only [toPys, a1, b1], by simp only [PyData.canLayAll0, a2, b2, Bool.and_self], by simp only [PyData.depthAll]; omega⟩
end
theorem mkS_beq (x y : List Nat) : (mkS x == mkS y) = (x == y) := by
  rw [Bool.eq_iff_iff]
  simp only [beq_iff_eq]
  exact ⟨mkS_inj, fun h => by rw [h]⟩
mutual
theorem eqd_py : ∀ (x y : D) {p q : PyData}, toPy x = some p → toPy y = some q → PyData.eqv p q = eqd x y
  | .non, y, p, q, h, k => by
    simp only [toPy, Option.some.injEq] at h; subst h
    cases y <;> simp only [toPy, Option.some.injEq, Option.map_eq_some_iff] at k <;> first | (subst k; simp only [PyData.eqv, eqd]; done) | (obtain ⟨_, _, rfl⟩ := k; simp only [PyData.eqv, eqd]; done) | (cases k; done)
  | .bl b, y, p, q, h, k => by
    simp only [toPy, Option.some.injEq] at h; subst h
    cases y <;> simp only [toPy, Option.some.injEq, Option.map_eq_some_iff] at k <;> first | (subst k; simp only [PyData.eqv, eqd]; done) | (obtain ⟨_, _, rfl⟩ := k; simp only [PyData.eqv, eqd]; done) | (cases k; done)
  | .int b, y, p, q, h, k => by
    simp only [toPy, Option.some.injEq] at h; subst h
    cases y <;> simp only [toPy, Option.some.injEq, Option.map_eq_some_iff] at k <;> first | (subst k; simp only [PyData.eqv, eqd]; done) | (obtain ⟨_, _, rfl⟩ := k; simp only [PyData.eqv, eqd]; done) | (cases k; done)
  | .str b, y, p, q, h, k => by
    simp only [toPy, Option.some.injEq] at h; subst h
    cases y <;> simp only [toPy, Option.some.injEq, Option.map_eq_some_iff] at k <;> first | (subst k; simp only [PyData.eqv, eqd, mkS_beq]; done) | (obtain ⟨_, _, rfl⟩ := k; simp only [PyData.eqv, eqd]; done) | (cases k; done)
  | .tup xs, y, p, q, h, k => by
    simp only [toPy] at h
    obtain ⟨ps, h1, rfl⟩ := Option.map_eq_some_iff.mp h
    cases y <;> simp only [toPy, Option.some.injEq, Option.map_eq_some_iff] at k <;> first | (subst k; simp only [PyData.eqv, eqd]; done) | (obtain ⟨_, k1, rfl⟩ := k; simp only [PyData.eqv, eqd]; first | exact eqds_py _ _ h1 k1 | done) | (cases k; done)
  | .lst xs, y, p, q, h, k => by
    simp only [toPy] at h
    obtain ⟨ps, h1, rfl⟩ := Option.map_eq_some_iff.mp h
    cases y <;> simp only [toPy, Option.some.injEq, Option.map_eq_some_iff] at k <;> first | (subst k; simp only [PyData.eqv, eqd]; done) | (obtain ⟨_, k1, rfl⟩ := k; simp only [PyData.eqv, eqd]; first | exact eqds_py _ _ h1 k1 | done) | (cases k; done)
  | .rol xs, y, p, q, h, k => by
    simp only [toPy] at h
    obtain ⟨ps, h1, rfl⟩ := Option.map_eq_some_iff.mp h
    cases y <;> simp only [toPy, Option.some.injEq, Option.map_eq_some_iff] at k <;> first | (subst k; simp only [PyData.eqv, eqd]; done) | (obtain ⟨_, k1, rfl⟩ := k; simp only [PyData.eqv, eqd]; first | exact eqds_py _ _ h1 k1 | done) | (cases k; done)
  | .dk _ _, y, p, q, h, k => by simp only [toPy] at h; cases h
  | .dt _ _, y, p, q, h, k => by simp only [toPy] at h; cases h
theorem eqds_py : ∀ (xs ys : List D) {ps qs : List PyData}, toPys xs = some ps → toPys ys = some qs → PyData.eqvAll ps qs = eqds xs ys
  | [], ys, ps, qs, h, k => by
    simp only [toPys, Option.some.injEq] at h; subst h
    cases ys with
    | nil => simp only [toPys, Option.some.injEq] at k; subst k; simp only [PyData.eqvAll, eqds]
    | cons y ys =>
      simp only [toPys] at k
      cases e1 : toPy y with
      | none => rw [e1] at k; cases k
      | some p =>
        cases e2 : toPys ys with
        | none => rw [e1, e2] at k; cases k
        | some ps' => rw [e1, e2] at k; cases k; simp only [PyData.eqvAll, eqds]
  | x :: xs, ys, ps, qs, h, k => by
    simp only [toPys] at h
    cases e1 : toPy x with
    | none => rw [e1] at h; cases h
    | some p =>
      cases e2 : toPys xs with
      | none => rw [e1, e2] at h; cases h
      | some ps' =>
        rw [e1, e2] at h
        cases h
        cases ys with
        | nil => simp only [toPys, Option.some.injEq] at k; subst k; simp only [PyData.eqvAll, eqds]
        | cons y ys =>
          simp only [toPys] at k
          cases e3 : toPy y with
          | none => rw [e3] at k; cases k
          | some q =>
            cases e4 : toPys ys with
            | none => rw [e3, e4] at k; cases k
            | some qs' =>
              rw [e3, e4] at k
              cases k
              simp only [PyData.eqvAll, eqds]
              rw [eqd_py x y e1 e3, eqds_py xs ys e2 e4]
end
theorem shaped_ok {d : D} (h : okD 8 d = true) : ∃ p, toPy d = some p ∧ SeqAt.shaped p = true := by
  obtain ⟨p, h1, h2, h3⟩ := okD_py 8 d h
  refine ⟨p, h1, ?_⟩
  unfold SeqAt.shaped
  rw [h2, Bool.true_and]
  exact decide_eq_true (by omega)
def eqD : D → D → Option D := fun x y => if okD 8 x = true ∧ okD 8 y = true then some (.bl (eqd x y)) else none
def neD : D → D → Option D := fun x y => if okD 8 x = true ∧ okD 8 y = true then some (.bl (!eqd x y)) else none
theorem od_eq {X : Cx} (hu : X.A.units + 64 < cLine) : OpD X (compareOp .Eq) eqD := ⟨_, op_eqD hu, fun P H x y vx vy d e rx ry h Q q => by
  unfold eqD at h
  by_cases c : okD 8 x = true ∧ okD 8 y = true
  · rw [if_pos c] at h
    cases h
    obtain ⟨p1, a1, a2⟩ := shaped_ok c.1
    obtain ⟨p2, b1, b2⟩ := shaped_ok c.2
    refine ⟨p1, p2, toPyS_rep e a1 rx, toPyS_rep e b1 ry, a2, b2, ?_⟩
    rw [eqd_py x y a1 b1]
    exact q P H _ .refl (by simp only [RepD])
  · rw [if_neg c] at h; cases h⟩
theorem od_ne {X : Cx} (hu : X.A.units + 64 < cLine) : OpD X (compareOp .NotEq) neD := ⟨_, op_neD hu, fun P H x y vx vy d e rx ry h Q q => by
  unfold neD at h
  by_cases c : okD 8 x = true ∧ okD 8 y = true
  · rw [if_pos c] at h
    cases h
    obtain ⟨p1, a1, a2⟩ := shaped_ok c.1
    obtain ⟨p2, b1, b2⟩ := shaped_ok c.2
    refine ⟨p1, p2, toPyS_rep e a1 rx, toPyS_rep e b1 ry, a2, b2, ?_⟩
    rw [eqd_py x y a1 b1]
    exact q P H _ .refl (by simp only [RepD])
  · rw [if_neg c] at h; cases h⟩
end DL

/-! The D layer, part 4: expressions. -/
namespace DL
open PySem L2

/-! ### names and constants -/
def mVar (i : Nat) : Mm SV := fun G S => match G[i]? with
  | some (some x) => some (.ok x S)
  | _ => none
section
variable {X : Cx} {W : WX} {pos : Pos}
theorem se_var (i : Nat) {x : Str} (hN : X.N[i]? = some x) (hv : Vis X.env.scope x) (hd : (x == ("__debug__" : Str)) = false := by decide) (hcd : (x == ("__classdict__" : Str)) = false := by decide) : SE X W (.Name x pos) (mVar i) := by
  refine ⟨_, pe_var hN hv hd hcd, fun P L σ H G S R RG r h Q q => ?_⟩
  unfold mVar at h
  cases e : G[i]? with
  | none => rw [e] at h; cases h
  | some o =>
    cases o with
    | none => rw [e] at h; cases h
    | some y =>
      rw [e] at h
      cases h
      obtain ⟨v, h1, h2⟩ := RG.2 i y e
      exact ⟨v, h1, q P L H v (Same.refl P) (LExt.refl L) R h2⟩
theorem ev_c {K : PySem.W.Frag} {mg : Str → Option Value} {d : D} {v : V} (h : ∀ P, RepD K P d v) : EvR K mg (rV K) W (tC v) (Mm.ret (.v d)) := fun P L σ H G S R RG r e Q q => by
  cases e
  exact q P L H v (Same.refl P) (LExt.refl L) R (h P)
theorem se_int {i j} : SE X W (.Constant (.int i) j pos) (Mm.ret (.v (.int i))) := ⟨_, pe_int, ev_c fun P => by simp only [RepD]⟩
theorem se_bl {i j} : SE X W (.Constant (.bool i) j pos) (Mm.ret (.v (.bl i))) := ⟨_, pe_bl, ev_c fun P => by simp only [RepD]⟩
theorem se_non {j} : SE X W (.Constant .none j pos) (Mm.ret (.v .non)) := ⟨_, pe_non, ev_c fun P => by simp only [RepD]⟩
/-- the signs of a written text -/
def lit (x : Str) : List Nat := x.cps.toList
theorem mkS_lit (x : Str) : mkS (lit x) = x := by simp [mkS, lit]
theorem se_str {x j} : SE X W (.Constant (.str x) j pos) (Mm.ret (.v (.str (lit x)))) := ⟨_, pe_str, ev_c fun P => by simp only [RepD, mkS_lit]⟩
/-- a module's constant -/
theorem se_glob {x : Str} {u : Value} {v : V} {d : D} (hg : Gl X x) (hm : X.mg x = some u) (r : RelV v u) (h : ∀ P, RepD X.K P d v) (hd : (x == ("__debug__" : Str)) = false := by decide) : SE X W (.Name x pos) (Mm.ret (.v d)) := ⟨_, pe_glob hg hm r hd, ev_c h⟩
end

/-! ### and, or, not, if -/
def mAnd (f g : Mm Bool) : Mm Bool := f.bind fun b => if b then g else Mm.ret false
def mOr (f g : Mm Bool) : Mm Bool := f.bind fun b => if b then Mm.ret true else g
def mNot (f : Mm Bool) : Mm Bool := f.bind fun b => Mm.ret (!b)
def mIf {α : Type} (c : Mm Bool) (f g : Mm α) : Mm α := c.bind fun b => if b then f else g
def ofB (f : Mm Bool) : Mm SV := f.bind fun b => Mm.ret (.v (.bl b))
section
variable {X : Cx} {W : WX} {a b c e : Expr} {pos : Pos} {rest : List Expr} {f g h : Mm Bool} {fa fb : Mm SV}
theorem sw_and1 (ha : STe X W a f) : SWe X W (.BoolOp .And [a] pos) f := by
  obtain ⟨t, h1, h2⟩ := ha
  exact ⟨t, pw_and1 h1, h2⟩
theorem sw_or1 (ha : STe X W a f) : SWe X W (.BoolOp .Or [a] pos) f := by
  obtain ⟨t, h1, h2⟩ := ha
  exact ⟨t, pw_or1 h1, h2⟩
theorem ev_and {K : PySem.W.Frag} {mg : Str → Option Value} {t u : TT} (h1 : EvR K mg rB W t f) (h2 : EvR K mg rB W u g) : EvR K mg rB W (tAnd t u) (mAnd f g) := by
  intro P L σ H G S R RG
  refine At.bind (t := t) (k := fun c σ H1 Q => if c = true then u σ H1 Q else Q false H1) RG (h1 P L σ H G S R RG) fun P1 L1 H1 S1 x y e1 l1 R1 RG1 rx => ?_
  have rx' : x = y := rx
  subst rx'
  cases x with
  | true =>
    show At K mg rB W P1 L1 σ H1 (fun σ H Q => if true = true then u σ H Q else Q false H) ((if true = true then g else Mm.ret false) G S1)
    rw [if_pos rfl]
    intro r h Q q
    rw [if_pos rfl]
    exact h2 P1 L1 σ H1 G S1 R1 RG1 r h Q q
  | false =>
    intro r h Q q
    rw [if_neg Bool.false_ne_true]
    rw [if_neg Bool.false_ne_true] at h
    cases h
    exact q P1 L1 H1 false (Same.refl _) (LExt.refl _) R1 rfl
theorem ev_or {K : PySem.W.Frag} {mg : Str → Option Value} {t u : TT} (h1 : EvR K mg rB W t f) (h2 : EvR K mg rB W u g) : EvR K mg rB W (tOr t u) (mOr f g) := by
  intro P L σ H G S R RG
  refine At.bind (t := t) (k := fun c σ H1 Q => if c = true then Q true H1 else u σ H1 Q) RG (h1 P L σ H G S R RG) fun P1 L1 H1 S1 x y e1 l1 R1 RG1 rx => ?_
  have rx' : x = y := rx
  subst rx'
  cases x with
  | false =>
    intro r h Q q
    rw [if_neg Bool.false_ne_true]
    rw [if_neg Bool.false_ne_true] at h
    exact h2 P1 L1 σ H1 G S1 R1 RG1 r h Q q
  | true =>
    intro r h Q q
    rw [if_pos rfl]
    rw [if_pos rfl] at h
    cases h
    exact q P1 L1 H1 true (Same.refl _) (LExt.refl _) R1 rfl
theorem sw_and (ha : STe X W a f) (hb : SWe X W (.BoolOp .And (b :: rest) pos) g) : SWe X W (.BoolOp .And (a :: b :: rest) pos) (mAnd f g) := by
  obtain ⟨t, h1, h2⟩ := ha
  obtain ⟨u, k1, k2⟩ := hb
  exact ⟨_, pw_and h1 k1, ev_and h2 k2⟩
theorem sw_or (ha : STe X W a f) (hb : SWe X W (.BoolOp .Or (b :: rest) pos) g) : SWe X W (.BoolOp .Or (a :: b :: rest) pos) (mOr f g) := by
  obtain ⟨t, h1, h2⟩ := ha
  obtain ⟨u, k1, k2⟩ := hb
  exact ⟨_, pw_or h1 k1, ev_or h2 k2⟩
theorem st_w (h : SWe X W a f) : STe X W a f := by
  obtain ⟨t, h1, h2⟩ := h
  exact ⟨t, h1.pt, h2⟩
theorem st_not (h : STe X W a f) : STe X W (.UnaryOp .Not a pos) (mNot f) := by
  obtain ⟨t, h1, h2⟩ := h
  refine ⟨_, pt_not h1, fun P L σ H G S R RG => ?_⟩
  refine At.bind (t := t) RG (h2 P L σ H G S R RG) fun P1 L1 H1 S1 x y e1 l1 R1 RG1 rx => ?_
  have rx' : x = y := rx
  subst rx'
  exact At.ret R1 rfl
/-- and, or, not as values: flags -/
def vAnd (f g : Mm SV) : Mm SV := f.bind fun x => (asB x).bind fun b => if b then g else Mm.ret (.v (.bl false))
def vOr (f g : Mm SV) : Mm SV := f.bind fun x => (asB x).bind fun b => if b then Mm.ret (.v (.bl true)) else g
def vNot (f : Mm SV) : Mm SV := f.bind fun x => (asB x).bind fun b => Mm.ret (.v (.bl (!b)))
theorem se_one {op} (ha : SE X W a fa) : SE X W (.BoolOp op [a] pos) fa := by
  obtain ⟨t, h1, h2⟩ := ha
  exact ⟨t, pe_one h1, h2⟩
theorem asB_eq {x : SV} {G : Sl} {S : Sto} {r : Rs Bool} (h : asB x G S = some r) : ∃ b, x = .v (.bl b) ∧ r = .ok b S := by
  cases x with
  | x _ _ _ => cases h
  | o i => cases h
  | v d =>
    cases d <;> first | (cases h; done) | skip
    rename_i b
    cases h
    exact ⟨b, rfl, rfl⟩
theorem se_and (ha : SE X W a fa) (hb : SE X W (.BoolOp .And (b :: rest) pos) fb) : SE X W (.BoolOp .And (a :: b :: rest) pos) (vAnd fa fb) := by
  obtain ⟨t, h1, h2⟩ := ha
  obtain ⟨u, k1, k2⟩ := hb
  refine ⟨_, pe_and h1 k1, fun P L σ H G S R RG => ?_⟩
  refine At.bind (t := t) (k := fun x σ H1 Q => ∃ c, x = V.bl c ∧ if c = true then u σ H1 Q else Q (V.bl false) H1) RG (h2 P L σ H G S R RG) fun P1 L1 H1 S1 x y e1 l1 R1 RG1 rx => ?_
  intro r h Q q
  unfold Mm.bind at h
  cases e2 : asB x G S1 with
  | none => rw [e2] at h; cases h
  | some r2 =>
    obtain ⟨b, rfl, rfl⟩ := asB_eq e2
    rw [e2] at h
    refine ⟨b, rx, ?_⟩
    cases b with
    | true =>
      rw [if_pos rfl]
      exact k2 P1 L1 σ H1 G S1 R1 RG1 r h Q q
    | false =>
      rw [if_neg Bool.false_ne_true]
      cases h
      exact q P1 L1 H1 _ (Same.refl _) (LExt.refl _) R1 (by simp only [rV, RepV, RepD])
theorem se_or (ha : SE X W a fa) (hb : SE X W (.BoolOp .Or (b :: rest) pos) fb) : SE X W (.BoolOp .Or (a :: b :: rest) pos) (vOr fa fb) := by
  obtain ⟨t, h1, h2⟩ := ha
  obtain ⟨u, k1, k2⟩ := hb
  refine ⟨_, pe_or h1 k1, fun P L σ H G S R RG => ?_⟩
  refine At.bind (t := t) (k := fun x σ H1 Q => ∃ c, x = V.bl c ∧ if c = true then Q (V.bl true) H1 else u σ H1 Q) RG (h2 P L σ H G S R RG) fun P1 L1 H1 S1 x y e1 l1 R1 RG1 rx => ?_
  intro r h Q q
  unfold Mm.bind at h
  cases e2 : asB x G S1 with
  | none => rw [e2] at h; cases h
  | some r2 =>
    obtain ⟨b, rfl, rfl⟩ := asB_eq e2
    rw [e2] at h
    refine ⟨b, rx, ?_⟩
    cases b with
    | false =>
      rw [if_neg Bool.false_ne_true]
      exact k2 P1 L1 σ H1 G S1 R1 RG1 r h Q q
    | true =>
      rw [if_pos rfl]
      cases h
      exact q P1 L1 H1 _ (Same.refl _) (LExt.refl _) R1 (by simp only [rV, RepV, RepD])
theorem se_not (ha : SE X W a fa) : SE X W (.UnaryOp .Not a pos) (vNot fa) := by
  obtain ⟨t, h1, h2⟩ := ha
  refine ⟨_, pe_not h1, fun P L σ H G S R RG => ?_⟩
  refine At.bind (t := t) (k := fun x σ H1 Q => ∃ c, x = V.bl c ∧ Q (V.bl (!c)) H1) RG (h2 P L σ H G S R RG) fun P1 L1 H1 S1 x y e1 l1 R1 RG1 rx => ?_
  intro r h Q q
  unfold Mm.bind at h
  cases e2 : asB x G S1 with
  | none => rw [e2] at h; cases h
  | some r2 =>
    obtain ⟨b, rfl, rfl⟩ := asB_eq e2
    rw [e2] at h
    cases h
    refine ⟨b, rx, ?_⟩
    exact q P1 L1 H1 _ (Same.refl _) (LExt.refl _) R1 (by simp only [rV, RepV, RepD])
theorem se_ifExp (hc : STe X W c f) (ha : SE X W a fa) (hb : SE X W b fb) : SE X W (.IfExp c a b pos) (mIf f fa fb) := by
  obtain ⟨t, h1, h2⟩ := hc
  obtain ⟨u, k1, k2⟩ := ha
  obtain ⟨v, m1, m2⟩ := hb
  refine ⟨_, pe_ifExp h1 k1 m1, fun P L σ H G S R RG => ?_⟩
  refine At.bind (t := t) (k := fun c σ H1 Q => if c = true then u σ H1 Q else v σ H1 Q) RG (h2 P L σ H G S R RG) fun P1 L1 H1 S1 x y e1 l1 R1 RG1 rx => ?_
  have rx' : x = y := rx
  subst rx'
  intro r h Q q
  cases x with
  | true => rw [if_pos rfl] at h ⊢; exact k2 P1 L1 σ H1 G S1 R1 RG1 r h Q q
  | false => rw [if_neg Bool.false_ne_true] at h ⊢; exact m2 P1 L1 σ H1 G S1 R1 RG1 r h Q q
/-! truth of what is no flag -/
def truD : D → Option Bool
  | .non => some false
  | .bl b => some b
  | .int i => some (i != 0)
  | .str s => if s.length ≤ lineN then some ((s.length : Int) != 0) else none
  | .tup ds => some (!ds.isEmpty)
  | .lst ds => some (!ds.isEmpty)
  | .rol ds => some (!ds.isEmpty)
  | _ => none
def asT (x : SV) : Mm Bool := fun _ S => match rd S x with
  | some d => (truD d).map fun b => .ok b S
  | none => none
theorem truD_rep {K : PySem.W.Frag} {P H : Hp} (e : Same P H) {d : D} {b : Bool} {v : V} (h : truD d = some b) (r : RepS K P H d v) : TruV K v H b := by
  cases d with
  | non => cases h; cases r; rfl
  | bl c => cases h; cases r; rfl
  | int i => cases h; cases r; rfl
  | str s =>
    have h' : (if s.length ≤ lineN then some ((s.length : Int) != 0) else none) = some b := h
    by_cases c : s.length ≤ lineN
    · rw [if_pos c] at h'
      cases h'
      cases r
      refine ⟨?_, ?_⟩
      · rw [mkS_len, sizeLine_eq]; exact c
      · rw [mkS_len]
    · rw [if_neg c] at h'; cases h'
  | tup ds =>
    cases h
    have r' : RepD K P (.tup ds) v := r
    simp only [RepD] at r'
    obtain ⟨a, vs, rfl, q1, q2⟩ := r'
    refine .inr (.inl ⟨vs, sqT_mono e q1, ?_⟩)
    have := q2.len
    cases ds <;> cases vs <;> simp at this ⊢
  | lst ds =>
    cases h
    obtain ⟨a, vs, rfl, q1, q2⟩ := r
    refine .inl ⟨vs, SqL.of q1, ?_⟩
    have := q2.len
    cases ds <;> cases vs <;> simp at this ⊢
  | rol ds =>
    cases h
    have r' : RepD K P (.rol ds) v := r
    simp only [RepD] at r'
    obtain ⟨a, vs, rfl, q1, q2⟩ := r'
    refine .inl ⟨vs, e.seq q1, ?_⟩
    have := q2.len
    cases ds <;> cases vs <;> simp at this ⊢
  | dk _ _ => cases h
  | dt _ _ => cases h
theorem st_truth (ha : SE X W a fa) (he : ∀ whole, isTrue a X.env whole = (do let v ← whole; standAt a.pos; holding [v] (truthy v)) := by intro _; rfl) : STe X W a (fa.bind asT) := by
  obtain ⟨t, h1, h2⟩ := ha
  refine ⟨_, pt_truth h1 he, fun P L σ H G S R RG => ?_⟩
  refine At.bind (t := t) (k := fun x σ H' Q => ∃ k, TruV X.K x H' k ∧ Q k H') RG (h2 P L σ H G S R RG) fun P1 L1 H1 S1 x y e1 l1 R1 RG1 rx => ?_
  intro r h Q q
  unfold asT at h
  cases e2 : rd S1 x with
  | none => rw [e2] at h; cases h
  | some d =>
    rw [e2] at h
    obtain ⟨b, h3, h4⟩ := Option.map_eq_some_iff.mp h
    subst h4
    exact ⟨b, truD_rep R1.fr h3 (rd_rep R1 rx e2), q P1 L1 H1 b (Same.refl _) (LExt.refl _) R1 rfl⟩
end

/-! ### argument lists, displays -/
def mNil : Mm (List SV) := Mm.ret []
def mCons (f : Mm SV) (g : Mm (List SV)) : Mm (List SV) := f.bind fun x => g.bind fun xs => Mm.ret (x :: xs)
section
variable {X : Cx} {W : WX} {e : Expr} {es : List Expr} {f : Mm SV} {g : Mm (List SV)} {pos : Pos}
theorem sa_nil : SA X W [] mNil := ⟨_, pa_nil, fun P L σ H G S R RG r h Q q => by cases h; exact q P L H [] (Same.refl _) (LExt.refl _) R rfl⟩
theorem sa_cons (ha : SE X W e f) (hr : SA X W es g) (hs : starEach (e :: es) X.env = (false, eval e X.env) :: starEach es X.env := by rfl) : SA X W (e :: es) (mCons f g) := by
  obtain ⟨t, h1, h2⟩ := ha
  obtain ⟨u, k1, k2⟩ := hr
  refine ⟨_, pa_cons h1 k1 hs, fun P L σ H G S R RG => ?_⟩
  refine At.bind (t := t) RG (h2 P L σ H G S R RG) fun P1 L1 H1 S1 x y e1 l1 R1 RG1 rx => ?_
  refine At.bind (t := u) RG1 (k2 P1 L1 σ H1 G S1 R1 RG1) fun P2 L2 H2 S2 xs ys e2 l2 R2 RG2 rxs => ?_
  exact At.ret R2 ⟨y, ys, rfl, RepV.mono e2 l2 rx, rxs⟩
/-- all of them data -/
def datas : List SV → Option (List D)
  | [] => some []
  | .v d :: xs => (datas xs).map (d :: ·)
  | .o _ :: _ => none
  | .x _ _ _ :: _ => none
theorem datas_rep {K : PySem.W.Frag} {P : Hp} {L : List Addr} : ∀ {xs : List SV} {ds : List D} {vs : List V}, datas xs = some ds → RepVs K P L xs vs → RepDs K P ds vs
  | [], ds, vs, h, r => by cases h; cases r; exact RepDs.nil
  | .v d :: xs, ds, vs, h, r => by
    obtain ⟨v, r', rfl, q1, q2⟩ := r
    obtain ⟨ds', h1, h2⟩ := Option.map_eq_some_iff.mp h
    subst h2
    exact RepDs.cons q1 (datas_rep h1 q2)
  | .o i :: xs, ds, vs, h, r => by cases h
  | .x _ _ _ :: xs, ds, vs, h, r => by cases h
/-- a display of data: a tuple, a list that is not changed (mTup, mLst); an owned list (mOwn) -/
def mTup (g : Mm (List SV)) : Mm SV := g.bind fun xs => fun _ S => match datas xs with
  | some ds => if ds.length ≤ lineN then some (.ok (.v (.tup ds)) S) else none
  | none => none
def mLst (g : Mm (List SV)) : Mm SV := g.bind fun xs => fun _ S => match datas xs with
  | some ds => if ds.length ≤ lineN then some (.ok (.v (.lst ds)) S) else none
  | none => none
def mOwn (g : Mm (List SV)) : Mm SV := g.bind fun xs => fun _ S => match datas xs with
  | some ds => if ds.length ≤ lineN then some (.ok (.o S.length) (S ++ [.lst ds])) else none
  | none => none
theorem se_tup {k} (h : SA X W es g) : SE X W (.Tuple es k pos) (mTup g) := by
  obtain ⟨t, h1, h2⟩ := h
  refine ⟨_, pe_tup h1, fun P L σ H G S R RG => ?_⟩
  refine At.bind (t := t) (k := fun xs σ H1 Q => xs.length ≤ sizeLine ∧ ∀ p, H1 p = none → Q (V.ref p) (upd H1 p (.tup xs))) RG (h2 P L σ H G S R RG) fun P1 L1 H1 S1 x y e1 l1 R1 RG1 rx => ?_
  intro r h Q q
  cases e2 : datas x with
  | none => simp only [e2] at h; cases h
  | some ds =>
    simp only [e2] at h
    by_cases c : ds.length ≤ lineN
    · rw [if_pos c] at h
      cases h
      have rd' := datas_rep e2 rx
      refine ⟨by rw [rd'.len, sizeLine_eq]; exact c, fun p hp => ?_⟩
      have R2 := R1.newF hp (.tup y)
      have e3 := same_new (o := .tup y) (R1.fresh hp)
      refine q _ L1 _ _ e3 (LExt.refl _) R2 ?_
      simp only [rV, RepV, RepD]
      exact ⟨p, y, rfl, SqT.of upd_same, rd'.mono e3⟩
    · rw [if_neg c] at h; cases h
theorem se_lst (h : SA X W es g) : SE X W (.List es pos) (mLst g) := by
  obtain ⟨t, h1, h2⟩ := h
  refine ⟨_, pe_lst h1, fun P L σ H G S R RG => ?_⟩
  refine At.bind (t := t) (k := fun xs σ H1 Q => xs.length ≤ sizeLine ∧ ∀ p, H1 p = none → Q (V.ref p) (upd H1 p (.lst xs))) RG (h2 P L σ H G S R RG) fun P1 L1 H1 S1 x y e1 l1 R1 RG1 rx => ?_
  intro r h Q q
  cases e2 : datas x with
  | none => simp only [e2] at h; cases h
  | some ds =>
    simp only [e2] at h
    by_cases c : ds.length ≤ lineN
    · rw [if_pos c] at h
      cases h
      have rd' := datas_rep e2 rx
      refine ⟨by rw [rd'.len, sizeLine_eq]; exact c, fun p hp => ?_⟩
      have R2 := R1.newF hp (.lst y)
      have e3 := same_new (o := .lst y) (R1.fresh hp)
      refine q _ L1 _ _ e3 (LExt.refl _) R2 ?_
      simp only [rV, RepV, RepD]
      exact ⟨p, y, rfl, upd_same, rd'.mono e3⟩
    · rw [if_neg c] at h; cases h
theorem se_own (h : SA X W es g) : SE X W (.List es pos) (mOwn g) := by
  obtain ⟨t, h1, h2⟩ := h
  refine ⟨_, pe_lst h1, fun P L σ H G S R RG => ?_⟩
  refine At.bind (t := t) (k := fun xs σ H1 Q => xs.length ≤ sizeLine ∧ ∀ p, H1 p = none → Q (V.ref p) (upd H1 p (.lst xs))) RG (h2 P L σ H G S R RG) fun P1 L1 H1 S1 x y e1 l1 R1 RG1 rx => ?_
  intro r h Q q
  cases e2 : datas x with
  | none => simp only [e2] at h; cases h
  | some ds =>
    simp only [e2] at h
    by_cases c : ds.length ≤ lineN
    · rw [if_pos c] at h
      cases h
      have rd' := datas_rep e2 rx
      refine ⟨by rw [rd'.len, sizeLine_eq]; exact c, fun p hp => ?_⟩
      have R2 := R1.newO hp (o := .lst ds) (ho := .lst y) ⟨y, rfl, rd'⟩
      refine q P1 (L1 ++ [p]) _ _ (Same.refl _) (LExt.app _ _) R2 ?_
      refine ⟨p, rfl, ?_⟩
      rw [← R1.len]
      simp
    · rw [if_neg c] at h; cases h
end

/-! ### items, slices -/
def ixDR (K : PySem.W.Frag) (r : R2) (g : D → D → Option D) : Prop := OpDR K r g
def IxD (X : Cx) (g : D → D → Option D) : Prop := ∃ r, IxR X r ∧ OpDR X.K r g
theorem IxD.or {X : Cx} {g1 g2 : D → D → Option D} (h1 : IxD X g1) (h2 : IxD X g2) : IxD X (orD g1 g2) := by
  obtain ⟨r1, a1, b1⟩ := h1
  obtain ⟨r2, a2, b2⟩ := h2
  refine ⟨_, a1.or a2, fun P H x y vx vy d e rx ry hd Q q => ?_⟩
  unfold orD at hd
  cases e1 : g1 x y with
  | some d' =>
    rw [e1] at hd
    cases hd
    exact .inl (b1 P H x y vx vy _ e rx ry e1 Q q)
  | none =>
    rw [e1] at hd
    exact .inr (b2 P H x y vx vy d e rx ry hd Q q)
def atD : D → D → Option D
  | .tup ds, .int i => atI ds i
  | .lst ds, .int i => atI ds i
  | .rol ds, .int i => atI ds i
  | .str s, .int i => if s.length ≤ lineN then (atI s i).map fun c => .str [c] else none
  | _, _ => none
theorem RepDs.atI {K : PySem.W.Frag} {P : Hp} {ds : List D} {vs : List V} {i : Int} {d : D} (h : RepDs K P ds vs) (e : L2.atI ds i = some d) : ∃ v, L2.atI vs i = some v ∧ RepD K P d v := by
  unfold L2.atI at e ⊢
  rw [h.len]
  cases q : ixN ds.length i with
  | none => rw [q] at e; cases e
  | some j =>
    rw [q] at e
    exact h.get e
theorem ixd_seq {X : Cx} : IxD X atD := by
  refine ⟨_, ix_seq, fun P H x y vx vy d e rx ry h Q q => ?_⟩
  cases y with
  | int i =>
    cases ry
    cases x with
    | tup ds =>
      have rx' : RepD X.K P (.tup ds) vx := rx
      simp only [RepD] at rx'
      obtain ⟨a, vs, rfl, q1, q2⟩ := rx'
      obtain ⟨v, k1, k2⟩ := q2.atI h
      exact .inr (.inl ⟨a, vs, i, v, rfl, rfl, sqT_mono e q1, k1, q P H v .refl k2⟩)
    | lst ds =>
      obtain ⟨a, vs, rfl, q1, q2⟩ := rx
      obtain ⟨v, k1, k2⟩ := q2.atI h
      exact .inl ⟨a, vs, i, v, rfl, rfl, SqL.of q1, k1, q P H v .refl k2⟩
    | rol ds =>
      have rx' : RepD X.K P (.rol ds) vx := rx
      simp only [RepD] at rx'
      obtain ⟨a, vs, rfl, q1, q2⟩ := rx'
      obtain ⟨v, k1, k2⟩ := q2.atI h
      exact .inl ⟨a, vs, i, v, rfl, rfl, e.seq q1, k1, q P H v .refl k2⟩
    | str s =>
      have h' : (if s.length ≤ lineN then (L2.atI s i).map fun c => D.str [c] else none) = some d := h
      by_cases c : s.length ≤ lineN
      · rw [if_pos c] at h'
        obtain ⟨k, h1, h2⟩ := Option.map_eq_some_iff.mp h'
        subst h2
        cases rx
        refine .inr (.inr ⟨mkS s, i, k, rfl, rfl, by rw [mkS_len, sizeLine_eq]; exact c, by rw [mkS_cps]; exact h1, q P H _ .refl rfl⟩)
      · rw [if_neg c] at h'; cases h'
    | non => cases h
    | bl _ => cases h
    | int _ => cases h
    | dk _ _ => cases h
    | dt _ _ => cases h
  | _ => cases x <;> cases h
section
variable {X : Cx} {W : WX} {a b : Expr} {fa fb : Mm SV} {pos p2 : Pos} {lo hi : Option Expr} {fl fh : Mm (Option Int)}
theorem se_ix {g : D → D → Option D} (hi : IxD X g) (ha : SE X W a fa) (hb : SE X W b fb) (hs : PlainIx b := by exact fun _ _ => rfl) : SE X W (.Subscript a b pos) (bin g fa fb) := by
  obtain ⟨r, h1, h2⟩ := hi
  obtain ⟨ta, a1, a2⟩ := ha
  obtain ⟨tb, b1, b2⟩ := hb
  exact ⟨_, pe_ix h1 a1 b1 hs, ev_op h2 a2 b2⟩
def mNoPart : Mm (Option Int) := Mm.ret none
def asI (x : SV) : Mm (Option Int) := fun _ S => match x with
  | .v (.int i) => some (.ok (some i) S)
  | _ => none
theorem so_none : SO X W none mNoPart := ⟨_, po_none, fun P L σ H G S R RG r h Q q => by cases h; exact q P L H none (Same.refl _) (LExt.refl _) R rfl⟩
theorem so_some (h : SE X W a fa) : SO X W (some a) (fa.bind asI) := by
  obtain ⟨t, h1, h2⟩ := h
  refine ⟨_, po_some h1, fun P L σ H G S R RG => ?_⟩
  refine At.bind (t := t) (k := fun x σ H1 Q => ∃ i, x = V.int i ∧ Q (some i) H1) RG (h2 P L σ H G S R RG) fun P1 L1 H1 S1 x y e1 l1 R1 RG1 rx => ?_
  intro r h Q q
  cases x with
  | x _ _ _ => cases h
  | o i => cases h
  | v d =>
    cases d <;> first | (cases h; done) | skip
    rename_i i
    cases h
    exact ⟨i, rx, q P1 L1 H1 _ (Same.refl _) (LExt.refl _) R1 rfl⟩
/-- the part from lo to hi -/
def cutD {α : Type} (xs : List α) (lo hi : Option Int) : List α := (xs.drop (HT.sIx xs.length 0 lo)).take (HT.sIx xs.length xs.length hi - HT.sIx xs.length 0 lo)
def slD (lo hi : Option Int) : D → Option D
  | .tup ds => some (.tup (cutD ds lo hi))
  | .lst ds => some (.lst (cutD ds lo hi))
  | .rol ds => some (.lst (cutD ds lo hi))
  | .str s => if s.length ≤ lineN then some (.str (cutD s lo hi)) else none
  | _ => none
theorem RepDs.cut {K : PySem.W.Frag} {P : Hp} {ds : List D} {vs : List V} (h : RepDs K P ds vs) (lo hi : Option Int) : RepDs K P (cutD ds lo hi) (cutV vs lo hi) := by
  unfold cutD cutV
  rw [h.len]
  exact (h.drop _).take _
theorem cutD_whole {α : Type} {xs : List α} {lo hi : Option Int} (h : HT.sIx xs.length 0 lo = 0 ∧ HT.sIx xs.length xs.length hi = xs.length) : cutD xs lo hi = xs := by
  unfold cutD
  rw [h.1, h.2]
  simp
theorem cutS_mk (s : List Nat) (lo hi : Option Int) : cutS (mkS s) lo hi = mkS (cutD s lo hi) := by
  unfold cutS cutD
  simp only [mkS_cps, mkS_len]
  rfl
def mSl (f : Mm SV) (fl fh : Mm (Option Int)) : Mm SV := f.bind fun x => fl.bind fun lo => fh.bind fun hi => fun _ S => match rd S x with
  | some d => (slD lo hi d).map fun d => .ok (.v d) S
  | none => none
theorem se_slice (ha : SE X W a fa) (hl : SO X W lo fl) (hh : SO X W hi fh) : SE X W (.Subscript a (.Slice lo hi none p2) pos) (mSl fa fl fh) := by
  obtain ⟨t, h1, h2⟩ := ha
  obtain ⟨u, k1, k2⟩ := hl
  obtain ⟨v, m1, m2⟩ := hh
  refine ⟨_, pe_slice (sl_list.or (sl_tupA.or sl_str)) h1 k1 m1, fun P L σ H G S R RG => ?_⟩
  refine At.bind (t := t) RG (h2 P L σ H G S R RG) fun P1 L1 H1 S1 x vx e1 l1 R1 RG1 rx => ?_
  refine At.bind (t := u) RG1 (k2 P1 L1 σ H1 G S1 R1 RG1) fun P2 L2 H2 S2 o1 o1' e2 l2 R2 RG2 q1 => ?_
  have q1' : o1 = o1' := q1
  subst q1'
  refine At.bind (t := v) RG2 (m2 P2 L2 σ H2 G S2 R2 RG2) fun P3 L3 H3 S3 o2 o2' e3 l3 R3 RG3 q2 => ?_
  have q2' : o2 = o2' := q2
  subst q2'
  intro r h Q q
  have rx3 : RepV X.K P3 L3 x vx := RepV.mono (e2.trans e3) (l2.trans l3) rx
  cases e4 : rd S3 x with
  | none => simp only [e4] at h; cases h
  | some d =>
    simp only [e4] at h
    obtain ⟨d', h3, h4⟩ := Option.map_eq_some_iff.mp h
    subst h4
    have rs := rd_rep R3 rx3 e4
    cases d with
    | tup ds =>
      cases h3
      have rs' : RepD X.K P3 (.tup ds) vx := rs
      simp only [RepD] at rs'
      obtain ⟨p, vs, rfl, g1, g2⟩ := rs'
      refine .inr (.inl ⟨p, vs, rfl, sqT_mono R3.fr g1, fun w => ?_, fun w p' hp => ?_⟩)
      · refine q P3 L3 H3 _ (Same.refl _) (LExt.refl _) R3 ?_
        rw [g2.len] at w
        simp only [rV, RepV, RepD]
        rw [cutD_whole w]
        exact ⟨p, vs, rfl, g1, g2⟩
      · have R4 := R3.newF hp (.tup (cutV vs o1 o2))
        have e5 := same_new (o := .tup (cutV vs o1 o2)) (R3.fresh hp)
        refine q _ L3 _ _ e5 (LExt.refl _) R4 ?_
        simp only [rV, RepV, RepD]
        exact ⟨p', _, rfl, SqT.of upd_same, (g2.cut o1 o2).mono e5⟩
    | lst ds =>
      cases h3
      obtain ⟨p, vs, rfl, g1, g2⟩ := rs
      refine .inl ⟨p, vs, rfl, SqL.of g1, fun p' hp => ?_⟩
      have R4 := R3.newF hp (.lst (cutV vs o1 o2))
      have e5 := same_new (o := .lst (cutV vs o1 o2)) (R3.fresh hp)
      refine q _ L3 _ _ e5 (LExt.refl _) R4 ?_
      simp only [rV, RepV, RepD]
      exact ⟨p', _, rfl, upd_same, (g2.cut o1 o2).mono e5⟩
    | rol ds =>
      cases h3
      have rs' : RepD X.K P3 (.rol ds) vx := rs
      simp only [RepD] at rs'
      obtain ⟨p, vs, rfl, g1, g2⟩ := rs'
      refine .inl ⟨p, vs, rfl, R3.fr.seq g1, fun p' hp => ?_⟩
      have R4 := R3.newF hp (.lst (cutV vs o1 o2))
      have e5 := same_new (o := .lst (cutV vs o1 o2)) (R3.fresh hp)
      refine q _ L3 _ _ e5 (LExt.refl _) R4 ?_
      simp only [rV, RepV, RepD]
      exact ⟨p', _, rfl, upd_same, (g2.cut o1 o2).mono e5⟩
    | str s =>
      have h3' : (if s.length ≤ lineN then some (D.str (cutD s o1 o2)) else none) = some d' := h3
      by_cases c : s.length ≤ lineN
      · rw [if_pos c] at h3'
        cases h3'
        have rs' : vx = .str (mkS s) := rs
        subst rs'
        refine .inr (.inr ⟨mkS s, rfl, by rw [mkS_len, sizeLine_eq]; exact c, q P3 L3 H3 _ (Same.refl _) (LExt.refl _) R3 ?_⟩)
        simp only [rV, RepV, RepD, cutS_mk]
      · rw [if_neg c] at h3'; cases h3'
    | non => cases h3
    | bl _ => cases h3
    | int _ => cases h3
    | dk _ _ => cases h3
    | dt _ _ => cases h3
end

/-! ### calls of built-ins by values, methods -/
def RepSs (K : PySem.W.Frag) (P H : Hp) : List D → List V → Prop
  | [], vs => vs = []
  | d :: ds, vs => ∃ v r, vs = v :: r ∧ RepS K P H d v ∧ RepSs K P H ds r
def rds (S : Sto) : List SV → Option (List D)
  | [] => some []
  | x :: xs => match rd S x, rds S xs with
    | some d, some ds => some (d :: ds)
    | _, _ => none
theorem rds_rep {K : PySem.W.Frag} {mg : Str → Option Value} {P : Hp} {L : List Addr} {H : Hp} {S : Sto} (R : RelH K mg P L H S) : ∀ {xs : List SV} {ds : List D} {vs : List V}, RepVs K P L xs vs → rds S xs = some ds → RepSs K P H ds vs
  | [], ds, vs, r, h => by cases h; cases r; rfl
  | x :: xs, ds, vs, r, h => by
    obtain ⟨v, r', rfl, q1, q2⟩ := r
    simp only [rds] at h
    cases e1 : rd S x with
    | none => rw [e1] at h; cases h
    | some d =>
      cases e2 : rds S xs with
      | none => rw [e1, e2] at h; cases h
      | some ds' =>
        rw [e1, e2] at h
        cases h
        exact ⟨v, r', rfl, rd_rep R q1 e1, rds_rep R q2 e2⟩
def CallDR (K : PySem.W.Frag) (r : List V → Hp → VK → Prop) (g : List D → Option D) : Prop :=
  ∀ P H xs vs d, Same P H → RepSs K P H xs vs → g xs = some d → ∀ Q : VK, (∀ P' H' v, Grow P H P' H' → RepD K P' d v → Q v H') → r vs H Q
def CallD (X : Cx) (f : Value) (g : List D → Option D) : Prop := ∃ r, CallR X f r ∧ CallDR X.K r g
def orL (g1 g2 : List D → Option D) : List D → Option D := fun x => match g1 x with
  | some d => some d
  | none => g2 x
theorem CallD.or {X : Cx} {f : Value} {g1 g2 : List D → Option D} (h1 : CallD X f g1) (h2 : CallD X f g2) : CallD X f (orL g1 g2) := by
  obtain ⟨r1, a1, b1⟩ := h1
  obtain ⟨r2, a2, b2⟩ := h2
  refine ⟨_, a1.or a2, fun P H xs vs d e rx hd Q q => ?_⟩
  unfold orL at hd
  cases e1 : g1 xs with
  | some d' =>
    rw [e1] at hd
    cases hd
    exact .inl (b1 P H xs vs _ e rx e1 Q q)
  | none =>
    rw [e1] at hd
    exact .inr (b2 P H xs vs d e rx hd Q q)
def mCB (g : List D → Option D) (f : Mm (List SV)) : Mm SV := f.bind fun xs => fun _ S => match rds S xs with
  | some ds => (g ds).map fun d => .ok (.v d) S
  | none => none
theorem ev_call {K : PySem.W.Frag} {mg : Str → Option Value} {W : WX} {r : List V → Hp → VK → Prop} {g : List D → Option D} (hr : CallDR K r g) {t : TA} {f : Mm (List SV)} (ha : EvR K mg (rVs K) W t f) : EvR K mg (rV K) W (tCB r t) (mCB g f) := by
  intro P L σ H G S R RG
  refine At.bind (t := t) (k := fun vs σ H1 Q => r vs H1 Q) RG (ha P L σ H G S R RG) fun P1 L1 H1 S1 xs vs e1 l1 R1 RG1 rx => ?_
  intro r1 h Q q
  cases e2 : rds S1 xs with
  | none => simp only [e2] at h; cases h
  | some ds =>
    simp only [e2] at h
    obtain ⟨d, h3, h4⟩ := Option.map_eq_some_iff.mp h
    subst h4
    refine hr P1 H1 ds vs d R1.fr (rds_rep R1 rx e2) h3 Q fun P' H' v gr rv => ?_
    obtain ⟨R2, e3⟩ := gr.relH R1
    exact q P' L1 H' v e3 (LExt.refl _) R2 rv
section
variable {X : Cx} {W : WX} {x : Str} {e : Expr} {es : List Expr} {f : Mm (List SV)} {p pos : Pos}
theorem se_callB {id : String} {g : List D → Option D} (hc : CallD X (.builtin id) g) (hg : Gl X x) (hm : X.mg x = none) (hv : bootBuiltins x = some (.builtin id)) (ha : SA X W (e :: es) f) (hn : x ≠ "__name__" := by decide) (hdb : (x == ("__debug__" : Str)) = false := by decide)
    (he : starEach (e :: es) X.env = (false, eval e X.env) :: starEach es X.env := by rfl) (hpl : (backTo pos (starEach es X.env)).any (·.1) = false := by rfl) : SE X W (.Call (.Name x p) (e :: es) [] pos) (mCB g f) := by
  obtain ⟨r, h1, h2⟩ := hc
  obtain ⟨t, a1, a2⟩ := ha
  exact ⟨_, pe_callB h1 hg hm hv a1 hn hdb he hpl, ev_call h2 a2⟩
theorem se_callTy {id : String} {g : List D → Option D} (hc : CallD X (.type id) g) (hg : Gl X x) (hm : X.mg x = none) (hv : bootBuiltins x = some (.type id)) (ha : SA X W (e :: es) f) (hn : x ≠ "__name__" := by decide) (hdb : (x == ("__debug__" : Str)) = false := by decide)
    (he : starEach (e :: es) X.env = (false, eval e X.env) :: starEach es X.env := by rfl) (hpl : (backTo pos (starEach es X.env)).any (·.1) = false := by rfl) : SE X W (.Call (.Name x p) (e :: es) [] pos) (mCB g f) := by
  obtain ⟨r, h1, h2⟩ := hc
  obtain ⟨t, a1, a2⟩ := ha
  exact ⟨_, pe_callTy h1 hg hm hv a1 hn hdb he hpl, ev_call h2 a2⟩
end
end DL

/-! The D layer, part 5: statements, loops, comprehensions. -/
namespace DL
open PySem L2

/-! ### the widest reading of a denotation -/
def tOf {α β : Type} (K : PySem.W.Frag) (mg : Str → Option Value) (rep : Hp → List Addr → α → β → Prop) (W : WX) (f : Mm α) : St → Hp → (β → Hp → Prop) → Prop := fun σ H Q =>
  ∃ P L G S r, RelH K mg P L H S ∧ RelG K P L σ G ∧ f G S = some r ∧ PostR K mg rep W P L σ r Q
theorem tOf_ev {α β : Type} {K : PySem.W.Frag} {mg : Str → Option Value} {rep : Hp → List Addr → α → β → Prop} {W : WX} {f : Mm α} : EvR K mg rep W (tOf K mg rep W f) f := fun P L σ H G S R RG r h Q q => ⟨P, L, G, S, r, R, RG, h, q⟩
theorem tOf_to {α β : Type} {K : PySem.W.Frag} {mg : Str → Option Value} {rep : Hp → List Addr → α → β → Prop} {W : WX} {f : Mm α} {t : St → Hp → (β → Hp → Prop) → Prop} (h : EvR K mg rep W t f) {σ : St} {H : Hp} {Q : β → Hp → Prop} (z : tOf K mg rep W f σ H Q) : t σ H Q := by
  obtain ⟨P, L, G, S, r, R, RG, e, q⟩ := z
  exact h P L σ H G S R RG r e Q q
theorem SE.pe {X : Cx} {W : WX} {e : Expr} {f : Mm SV} (h : SE X W e f) : PE X e (tOf X.K X.mg (rV X.K) W f) := by
  obtain ⟨t, h1, h2⟩ := h
  exact ⟨fun pins s σ H Q I z => h1.run pins s σ H Q I (tOf_to h2 z)⟩
theorem STe.pt {X : Cx} {W : WX} {e : Expr} {f : Mm Bool} (h : STe X W e f) : PT X e (tOf X.K X.mg rB W f) := by
  obtain ⟨t, h1, h2⟩ := h
  exact ⟨fun pins s σ H Q I z => h1.run pins s σ H Q I (tOf_to h2 z)⟩

/-! ### statements -/
inductive Out where
  | nx (G : Sl) (S : Sto)
  | rt (x : SV) (S : Sto)
  | bk (G : Sl) (S : Sto)
  | ct (G : Sl) (S : Sto)
  | er (c : Str) (f : Option (Str × D)) (G : Sl) (S : Sto)
abbrev Ms := Sl → Sto → Option Out
def PostS (K : PySem.W.Frag) (mg : Str → Option Value) (W : WX) (P : Hp) (L : List Addr) (o : Out) (Dn : Ends) : Prop :=
  match o with
  | .nx G S => ∀ P' L' σ' H', Same P P' → LExt L L' → RelH K mg P' L' H' S → RelG K P' L' σ' G → Dn.nx σ' H'
  | .bk G S => ∀ P' L' σ' H', Same P P' → LExt L L' → RelH K mg P' L' H' S → RelG K P' L' σ' G → Dn.bk σ' H'
  | .ct G S => ∀ P' L' σ' H', Same P P' → LExt L L' → RelH K mg P' L' H' S → RelG K P' L' σ' G → Dn.ct σ' H'
  | .rt x S => ∀ P' L' H' v, Same P P' → LExt L L' → RelH K mg P' L' H' S → RepV K P' L' x v → Dn.rt v H'
  | .er c f G S => ∀ P' L' σ' H' C dx, Same P P' → LExt L L' → RelH K mg P' L' H' S → RelG K P' L' σ' G → ExcR K mg P' c f H' C dx → W (.ref C) dx σ' H'
theorem PostS.mono {K : PySem.W.Frag} {mg : Str → Option Value} {W : WX} {P P1 : Hp} {L L1 : List Addr} {o : Out} {Dn : Ends} (e : Same P P1) (l : LExt L L1) (h : PostS K mg W P L o Dn) : PostS K mg W P1 L1 o Dn := by
  cases o with
  | nx G S => exact fun P' L' σ' H' e1 l1 => h P' L' σ' H' (e.trans e1) (l.trans l1)
  | bk G S => exact fun P' L' σ' H' e1 l1 => h P' L' σ' H' (e.trans e1) (l.trans l1)
  | ct G S => exact fun P' L' σ' H' e1 l1 => h P' L' σ' H' (e.trans e1) (l.trans l1)
  | rt x S => exact fun P' L' H' v e1 l1 => h P' L' H' v (e.trans e1) (l.trans l1)
  | er c f G S => exact fun P' L' σ' H' C dx e1 l1 => h P' L' σ' H' C dx (e.trans e1) (l.trans l1)
def EvS (K : PySem.W.Frag) (mg : Str → Option Value) (W : WX) (t : TS) (g : Ms) : Prop :=
  ∀ P L σ H G S, RelH K mg P L H S → RelG K P L σ G → ∀ o, g G S = some o → ∀ Dn, PostS K mg W P L o Dn → t Dn σ H
def SS (X : Cx) (W : WX) (st : Stmt) (g : Ms) : Prop := ∃ t, PS X st t ∧ EvS X.K X.mg W t g
def SSs (X : Cx) (W : WX) (st : List Stmt) (g : Ms) : Prop := ∃ t, PSs X st t ∧ EvS X.K X.mg W t g
def tsOf (K : PySem.W.Frag) (mg : Str → Option Value) (W : WX) (g : Ms) : TS := fun Dn σ H => ∃ P L G S o, RelH K mg P L H S ∧ RelG K P L σ G ∧ g G S = some o ∧ PostS K mg W P L o Dn
theorem SSs.pss {X : Cx} {W : WX} {st : List Stmt} {g : Ms} (h : SSs X W st g) : PSs X st (tsOf X.K X.mg W g) := by
  obtain ⟨t, h1, h2⟩ := h
  refine ⟨fun pins s σ H Dn I z => h1.run pins s σ H Dn I ?_⟩
  obtain ⟨P, L, G, S, o, R, RG, e, q⟩ := z
  exact h2 P L σ H G S R RG o e Dn q
theorem tsOf_ev {K : PySem.W.Frag} {mg : Str → Option Value} {W : WX} {g : Ms} : EvS K mg W (tsOf K mg W g) g := fun P L σ H G S R RG o h Dn q => ⟨P, L, G, S, o, R, RG, h, q⟩

def sNext : Ms := fun G S => some (.nx G S)
def sSeq (g h : Ms) : Ms := fun G S => match g G S with
  | some (.nx G' S') => h G' S'
  | o => o
/-- an expression, then what its value leads to -/
def sE {α : Type} (f : Mm α) (k : α → Ms) : Ms := fun G S => match f G S with
  | some (.ok a S') => k a G S'
  | some (.er c d S') => some (.er c d G S')
  | none => none
section
variable {X : Cx} {W : WX} {st : Stmt} {rest : List Stmt} {g h : Ms} {e : Expr} {f : Mm SV} {pos : Pos}
theorem ev_sE {α β : Type} {K : PySem.W.Frag} {mg : Str → Option Value} {rep : Hp → List Addr → α → β → Prop} {t : St → Hp → (β → Hp → Prop) → Prop} {f : Mm α} {k : α → Ms} {kt : β → TS} (h : EvR K mg rep W t f)
    (hk : ∀ P L σ H G S a b, RelH K mg P L H S → RelG K P L σ G → rep P L a b → ∀ o, k a G S = some o → ∀ Dn, PostS K mg W P L o Dn → kt b Dn σ H) : EvS K mg W (fun Dn σ H => t σ H fun b H1 => kt b Dn σ H1) (sE f k) := by
  intro P L σ H G S R RG o e Dn q
  unfold sE at e
  cases e1 : f G S with
  | none => rw [e1] at e; cases e
  | some r =>
    rw [e1] at e
    cases r with
    | ok a S' => exact h P L σ H G S R RG _ e1 _ fun P' L' H' b e2 l2 R2 rb => hk P' L' σ H' G S' a b R2 (RG.mono e2 l2) rb o e Dn (q.mono e2 l2)
    | er c d S' =>
      have e' : Out.er c d G S' = o := Option.some.inj e
      subst e'
      exact h P L σ H G S R RG _ e1 _ fun P' L' H' C dx e2 l2 R2 rb => q P' L' σ H' C dx e2 l2 R2 (RG.mono e2 l2) rb
theorem sss_nil : SSs X W [] sNext := ⟨_, pss_nil, fun P L σ H G S R RG o e Dn q => by
  cases e
  exact q P L σ H (Same.refl _) (LExt.refl _) R RG⟩
theorem ev_seq {K : PySem.W.Frag} {mg : Str → Option Value} {t u : TS} (h1 : EvS K mg W t g) (h2 : EvS K mg W u h) : EvS K mg W (tSeq t u) (sSeq g h) := by
  intro P L σ H G S R RG o e Dn q
  unfold sSeq at e
  cases e1 : g G S with
  | none => rw [e1] at e; cases e
  | some o1 =>
    rw [e1] at e
    refine h1 P L σ H G S R RG o1 e1 { Dn with nx := u Dn } ?_
    cases o1 with
    | nx G' S' => exact fun P' L' σ' H' e2 l2 R2 RG2 => h2 P' L' σ' H' G' S' R2 RG2 o e Dn (q.mono e2 l2)
    | bk G' S' => cases e; exact q
    | ct G' S' => cases e; exact q
    | rt x S' => cases e; exact q
    | er c f G' S' => cases e; exact q
theorem sss_cons (h1 : SS X W st g) (h2 : SSs X W rest h) : SSs X W (st :: rest) (sSeq g h) := by
  obtain ⟨t, a1, a2⟩ := h1
  obtain ⟨u, b1, b2⟩ := h2
  exact ⟨_, pss_cons a1 b1, ev_seq a2 b2⟩
theorem sss_one (h1 : SS X W st g) : SSs X W [st] g := by
  obtain ⟨t, a1, a2⟩ := h1
  exact ⟨_, pss_one a1, a2⟩
theorem ss_pass : SS X W (.Pass pos) sNext := ⟨_, ps_pass, fun P L σ H G S R RG o e Dn q => by
  cases e
  exact q P L σ H (Same.refl _) (LExt.refl _) R RG⟩
def sBreak : Ms := fun G S => some (.bk G S)
def sCont : Ms := fun G S => some (.ct G S)
theorem ss_break : SS X W (.Break pos) sBreak := ⟨_, ps_break, fun P L σ H G S R RG o e Dn q => by
  cases e
  exact q P L σ H (Same.refl _) (LExt.refl _) R RG⟩
theorem ss_continue : SS X W (.Continue pos) sCont := ⟨_, ps_continue, fun P L σ H G S R RG o e Dn q => by
  cases e
  exact q P L σ H (Same.refl _) (LExt.refl _) R RG⟩
def sRet (f : Mm SV) : Ms := sE f fun x => fun _ S => some (.rt x S)
theorem ss_ret (he : SE X W e f) : SS X W (.Return (some e) pos) (sRet f) := by
  obtain ⟨t, h1, h2⟩ := he
  refine ⟨_, ps_ret h1, ev_sE (kt := fun b Dn _ H1 => Dn.rt b H1) h2 fun P L σ H G S a b R RG rb o e Dn q => ?_⟩
  cases e
  exact q P L H b (Same.refl _) (LExt.refl _) R rb
def sRetN : Ms := fun _ S => some (.rt (.v .non) S)
theorem ss_retN : SS X W (.Return none pos) sRetN := ⟨_, ps_retN, fun P L σ H G S R RG o e Dn q => by
  cases e
  exact q P L H .non (Same.refl _) (LExt.refl _) R (by simp only [RepV, RepD])⟩
def sDrop (f : Mm SV) : Ms := sE f fun _ => sNext
theorem ss_expr (he : SE X W e f) (hs : swapsWith e none pos.line X.env = pure false := by rfl) : SS X W (.Expr e pos) (sDrop f) := by
  obtain ⟨t, h1, h2⟩ := he
  refine ⟨_, ps_expr h1 hs, ev_sE (kt := fun _ Dn σ H1 => Dn.nx σ H1) h2 fun P L σ H G S a b R RG rb o e Dn q => ?_⟩
  cases e
  exact q P L σ H (Same.refl _) (LExt.refl _) R RG
def sIf (c : Mm Bool) (g h : Ms) : Ms := sE c fun b => if b then g else h
theorem ss_if {c : Expr} {a b : List Stmt} {fc : Mm Bool} (hc : STe X W c fc) (ha : SSs X W a g) (hb : SSs X W b h) : SS X W (.If c a b pos) (sIf fc g h) := by
  obtain ⟨t, h1, h2⟩ := hc
  obtain ⟨ta, a1, a2⟩ := ha
  obtain ⟨tb, b1, b2⟩ := hb
  refine ⟨_, ps_if h1 a1 b1, ev_sE (kt := fun b Dn σ H1 => if b = true then ta Dn σ H1 else tb Dn σ H1) h2 fun P L σ H G S x y R RG rb o e Dn q => ?_⟩
  have r' : x = y := rb
  subst r'
  cases x with
  | true => rw [if_pos rfl] at e ⊢; exact a2 P L σ H G S R RG o e Dn q
  | false => rw [if_neg Bool.false_ne_true] at e ⊢; exact b2 P L σ H G S R RG o e Dn q
end

/-! ### targets -/
abbrev Mg := SV → Sl → Sto → Option (Sl × Sto)
def EvG (K : PySem.W.Frag) (mg : Str → Option Value) (t : TG) (g : Mg) : Prop :=
  ∀ P L σ H G S x v, RelH K mg P L H S → RelG K P L σ G → RepV K P L x v → ∀ G' S', g x G S = some (G', S') → ∀ Q, (∀ P' L' σ' H', Same P P' → LExt L L' → RelH K mg P' L' H' S' → RelG K P' L' σ' G' → Q σ' H') → t v σ H Q
def SG (X : Cx) (tg : Expr) (g : Mg) : Prop := ∃ t, PG X tg t ∧ EvG X.K X.mg t g
def tgOf (K : PySem.W.Frag) (mg : Str → Option Value) (g : Mg) : TG := fun v σ H Q => ∃ P L G S x G' S', RelH K mg P L H S ∧ RelG K P L σ G ∧ RepV K P L x v ∧ g x G S = some (G', S') ∧ ∀ P' L' σ' H', Same P P' → LExt L L' → RelH K mg P' L' H' S' → RelG K P' L' σ' G' → Q σ' H'
theorem SG.pg {X : Cx} {tg : Expr} {g : Mg} (h : SG X tg g) : PG X tg (tgOf X.K X.mg g) := by
  obtain ⟨t, h1, h2⟩ := h
  refine ⟨fun pins s σ H v u Q I r z => h1.run pins s σ H v u Q I r ?_⟩
  obtain ⟨P, L, G, S, x, G', S', R, RG, rx, e, q⟩ := z
  exact h2 P L σ H G S x v R RG rx G' S' e Q q
theorem tgOf_ev {K : PySem.W.Frag} {mg : Str → Option Value} {g : Mg} : EvG K mg (tgOf K mg g) g := fun P L σ H G S x v R RG rx G' S' e Q q => ⟨P, L, G, S, x, G', S', R, RG, rx, e, q⟩
theorem RelG.set {K : PySem.W.Frag} {P : Hp} {L : List Addr} {σ : St} {G : Sl} (r : RelG K P L σ G) {i : Nat} (hi : i < G.length) {x : SV} {v : V} (h : RepV K P L x v) : RelG K P L (σ.set i (some v)) (G.set i (some x)) := by
  refine ⟨by simp [r.1], fun j y e => ?_⟩
  by_cases hj : j = i
  · subst hj
    rw [List.getElem?_set_self hi] at e
    cases e
    exact ⟨v, by rw [List.getElem?_set_self (by rw [r.1]; exact hi)], h⟩
  · rw [List.getElem?_set_ne (Ne.symm hj)] at e
    obtain ⟨u, h1, h2⟩ := r.2 j y e
    exact ⟨u, by rw [List.getElem?_set_ne (Ne.symm hj)]; exact h1, h2⟩
def gSet (i : Nat) : Mg := fun x G S => if i < G.length then some (G.set i (some x), S) else none
section
variable {X : Cx} {W : WX} {pos : Pos} {tg e : Expr} {f : Mm SV} {g : Mg}
theorem ev_gName {K : PySem.W.Frag} {mg : Str → Option Value} {i : Nat} : EvG K mg (gName i) (gSet i) := by
  intro P L σ H G S x v R RG rx G' S' e Q q
  unfold gSet at e
  by_cases hi : i < G.length
  · rw [if_pos hi] at e
    cases e
    exact q P L _ H (Same.refl _) (LExt.refl _) R (RG.set hi rx)
  · rw [if_neg hi] at e; cases e
theorem sg_name (i : Nat) {x : Str} (hN : X.N.Nodup) (hi : X.N[i]? = some x) (hx : Loc X.env.scope x) (hf : X.fn x = true ∨ X.env.scope.names.lookup x = some .local := by first | exact .inl rfl | exact .inr rfl | assumption) : SG X (.Name x pos) (gSet i) := ⟨_, pg_name hN hi hx hf, ev_gName⟩
/-- several targets, one after another, of data -/
abbrev Mgs := List D → Sl → Sto → Option (Sl × Sto)
def EvGs (K : PySem.W.Frag) (mg : Str → Option Value) (t : TGs) (g : Mgs) : Prop :=
  ∀ P L σ H G S ds vs, RelH K mg P L H S → RelG K P L σ G → RepDs K P ds vs → ∀ G' S', g ds G S = some (G', S') → ∀ Q, (∀ P' L' σ' H', Same P P' → LExt L L' → RelH K mg P' L' H' S' → RelG K P' L' σ' G' → Q σ' H') → t vs σ H Q
def SGs (X : Cx) (ts : List Expr) (n : Nat) (g : Mgs) : Prop := ∃ t, PGs X ts t ∧ EvGs X.K X.mg t g ∧ ∀ ds G S r, g ds G S = some r → ds.length = n
def gsNil : Mgs := fun ds G S => match ds with
  | [] => some (G, S)
  | _ => none
def gsCons (g : Mg) (gs : Mgs) : Mgs := fun ds G S => match ds with
  | [] => none
  | d :: ds => match g (.v d) G S with
    | some (G', S') => gs ds G' S'
    | none => none
theorem sgs_nil : SGs X [] 0 gsNil := by
  refine ⟨_, pgs_nil, fun P L σ H G S ds vs R RG rx G' S' e Q q => ?_, fun ds G S r e => ?_⟩
  · cases ds with
    | nil =>
      cases e
      simp only [RepDs] at rx
      exact ⟨rx, q P L σ H (Same.refl _) (LExt.refl _) R RG⟩
    | cons _ _ => cases e
  · cases ds with
    | nil => rfl
    | cons _ _ => cases e
theorem sgs_cons {es : List Expr} {n : Nat} {gs : Mgs} (h1 : SG X e g) (h2 : SGs X es n gs) (hs : (assignEach (e :: es) X.env).map (·.2) = assign e X.env :: (assignEach es X.env).map (·.2) := by rfl) : SGs X (e :: es) (n + 1) (gsCons g gs) := by
  obtain ⟨t, a1, a2⟩ := h1
  obtain ⟨u, b1, b2, b3⟩ := h2
  refine ⟨_, pgs_cons a1 b1 hs, fun P L σ H G S ds vs R RG rx G' S' e Q q => ?_, fun ds G S r e => ?_⟩
  · cases ds with
    | nil => cases e
    | cons d ds =>
      simp only [RepDs] at rx
      obtain ⟨v, r, rfl, q1, q2⟩ := rx
      simp only [gsCons] at e
      cases e1 : g (.v d) G S with
      | none => rw [e1] at e; cases e
      | some p =>
        obtain ⟨G1, S1⟩ := p
        rw [e1] at e
        refine ⟨v, r, rfl, a2 P L σ H G S (.v d) v R RG q1 G1 S1 e1 _ fun P' L' σ' H' e2 l2 R2 RG2 => ?_⟩
        exact b2 P' L' σ' H' G1 S1 ds r R2 RG2 (q2.mono e2) G' S' e Q fun P'' L'' σ'' H'' e3 l3 => q P'' L'' σ'' H'' (e2.trans e3) (l2.trans l3)
  · cases ds with
    | nil => cases e
    | cons d ds =>
      simp only [gsCons] at e
      cases e1 : g (.v d) G S with
      | none => rw [e1] at e; cases e
      | some p =>
        obtain ⟨G1, S1⟩ := p
        rw [e1] at e
        simp [b3 ds G1 S1 r e]
def gTupD (gs : Mgs) : Mg := fun x G S => match rd S x with
  | some (.tup ds) => gs ds G S
  | _ => none
theorem sg_tup {es : List Expr} {k n : Nat} {gs : Mgs} (hc : X.calm = true) (h : SGs X es n gs) (hn : (assignEach es X.env).length = n := by rfl) (hst : (assignEach es X.env).findIdx? (·.1) = none := by rfl) : SG X (.Tuple es k pos) (gTupD gs) := by
  obtain ⟨t, a1, a2, a3⟩ := h
  refine ⟨_, pg_tup hc a1 hn hst, fun P L σ H G S x v R RG rx G' S' e Q q => ?_⟩
  cases x with
  | x _ _ _ => cases e
  | o i =>
    unfold gTupD at e
    simp only [rd] at e
    cases e1 : S[i]? with
    | none => rw [e1] at e; cases e
    | some mo => rw [e1] at e; cases mo <;> cases e
  | v d =>
    cases d with
    | tup ds =>
      have rx' : RepD X.K P (.tup ds) v := rx
      simp only [RepD] at rx'
      obtain ⟨a, vs, rfl, q1, q2⟩ := rx'
      exact ⟨a, vs, rfl, sqT_mono R.fr q1, by rw [q2.len]; exact a3 ds G S _ e, a2 P L σ H G S ds vs R RG q2 G' S' e Q q⟩
    | _ => cases e
def sAsg (f : Mm SV) (g : Mg) : Ms := sE f fun x => fun G S => match g x G S with
  | some (G', S') => some (.nx G' S')
  | none => none
theorem ev_asg {K : PySem.W.Frag} {mg : Str → Option Value} {t : TE} {u : TG} (h1 : EvR K mg (rV K) W t f) (h2 : EvG K mg u g) : EvS K mg W (tAsg t u) (sAsg f g) := by
  refine ev_sE (kt := fun b Dn σ H1 => u b σ H1 Dn.nx) h1 fun P L σ H G S a b R RG rb o e Dn q => ?_
  cases e1 : g a G S with
  | none => rw [e1] at e; cases e
  | some p =>
    obtain ⟨G', S'⟩ := p
    rw [e1] at e
    cases e
    exact h2 P L σ H G S a b R RG rb G' S' e1 _ q
theorem ss_asg (he : SE X W e f) (hg : SG X tg g) (hs : swapsWithSole [tg] e pos.line X.env = pure false := by rfl) (hw : swappedStores [tg] e X.env = pure none := by rfl)
    (h1 : (assignEach [tg] X.env).map (·.2) = [assign tg X.env] := by rfl) : SS X W (.Assign [tg] e pos) (sAsg f g) := by
  obtain ⟨t, a1, a2⟩ := he
  obtain ⟨u, b1, b2⟩ := hg
  exact ⟨_, ps_asg a1 b1 hs hw h1, ev_asg a2 b2⟩
theorem ss_set (i : Nat) {x : Str} {pos' : Pos} (hN : X.N.Nodup) (hi : X.N[i]? = some x) (hx : Loc X.env.scope x) (he : SE X W e f) (hs : swapsWith e (some (.Name x pos')) pos.line X.env = pure false := by rfl) (hf : X.fn x = true ∨ X.env.scope.names.lookup x = some .local := by first | exact .inl rfl | exact .inr rfl | assumption) :
    SS X W (.Assign [.Name x pos'] e pos) (sAsg f (gSet i)) := by
  obtain ⟨t, a1, a2⟩ := he
  exact ⟨_, ps_set hN hi hx a1 hs hf, ev_asg a2 ev_gName⟩
/-- a, b = e1, e2 -/
def sPar (i j : Nat) (f : Mm (List SV)) : Ms := sE f fun xs => fun G S => match xs with
  | [x, y] => if i < G.length ∧ j < G.length then some (.nx ((G.set i (some x)).set j (some y)) S) else none
  | _ => none
theorem ss_par (i j : Nat) {x y : Str} {a b : Expr} {fa : Mm (List SV)} {px py pt : Pos} {kt k2 pt2} (hc : X.calm = true) (hN : X.N.Nodup) (hi : X.N[i]? = some x) (hj : X.N[j]? = some y) (hij : i ≠ j)
    (hx : X.env.scope.names.lookup x = some .local) (hy : X.env.scope.names.lookup y = some .local) (ha : SA X W [a, b] fa)
    (hw : swappedStores [.Tuple [.Name x px, .Name y py] kt pt] (.Tuple [a, b] k2 pt2) X.env = pure (some [x, y]))
    (hs : swapsWithSole [.Tuple [.Name x px, .Name y py] kt pt] (.Tuple [a, b] k2 pt2) pos.line X.env = pure false := by rfl) :
    SS X W (.Assign [.Tuple [.Name x px, .Name y py] kt pt] (.Tuple [a, b] k2 pt2) pos) (sPar i j fa) := by
  obtain ⟨t, a1, a2⟩ := ha
  refine ⟨_, ps_par hc hN hi hj hij hx hy a1 hw hs, ev_sE (kt := fun vs Dn σ H1 => ∃ v w, vs = [v, w] ∧ Dn.nx ((σ.set i (some v)).set j (some w)) H1) a2 fun P L σ H G S xs vs R RG rb o e Dn q => ?_⟩
  match xs, e with
  | [x1, y1], e =>
    obtain ⟨v, r, rfl, q1, r2⟩ := rb
    obtain ⟨w, r', rfl, q2, r3⟩ := r2
    cases r3
    by_cases c : i < G.length ∧ j < G.length
    · have e' : (if i < G.length ∧ j < G.length then some (Out.nx ((G.set i (some x1)).set j (some y1)) S) else none) = some o := e
      rw [if_pos c] at e'
      cases e'
      exact ⟨v, w, rfl, q P L _ H (Same.refl _) (LExt.refl _) R ((RG.set c.1 q1).set (by simpa using c.2) q2)⟩
    · have e' : (if i < G.length ∧ j < G.length then some (Out.nx ((G.set i (some x1)).set j (some y1)) S) else none) = some o := e
      rw [if_neg c] at e'; cases e'
/-- x op= e of data -/
def IpD (X : Cx) (op : Operator) (g : D → D → Option D) : Prop := ∃ t, PIp X op t ∧ OpDR X.K t g
def sAug (i : Nat) (f : Mm SV) (g : D → D → Option D) : Ms := fun G S => match G[i]? with
  | some (some x) => sE f (fun y => fun G' S' => match op2 g x y G' S' with
    | some (.ok z S'') => if i < G'.length then some (.nx (G'.set i (some z)) S'') else none
    | _ => none) G S
  | _ => none
theorem ss_aug (i : Nat) {x : Str} {op : Operator} {gd : D → D → Option D} {pos' : Pos} (hN : X.N.Nodup) (hi : X.N[i]? = some x) (hx : Loc X.env.scope x) (he : SE X W e f) (ho : IpD X op gd) (hf : X.fn x = true ∨ X.env.scope.names.lookup x = some .local := by first | exact .inl rfl | exact .inr rfl | assumption) :
    SS X W (.AugAssign (.Name x pos') op e pos) (sAug i f gd) := by
  obtain ⟨t, a1, a2⟩ := he
  obtain ⟨u, b1, b2⟩ := ho
  refine ⟨_, ps_aug hN hi hx a1 b1 hf, fun P L σ H G S R RG o e Dn q => ?_⟩
  unfold sAug at e
  cases e1 : G[i]? with
  | none => rw [e1] at e; cases e
  | some ox =>
    cases ox with
    | none => rw [e1] at e; cases e
    | some x1 =>
      rw [e1] at e
      obtain ⟨v, h1, h2⟩ := RG.2 i x1 e1
      refine ⟨v, h1, ?_⟩
      simp only [sE] at e
      cases e2 : f G S with
      | none => rw [e2] at e; cases e
      | some r =>
        rw [e2] at e
        cases r with
        | er c d S' =>
          cases e
          exact a2 P L σ H G S R RG _ e2 _ fun P' L' H' C dx e3 l3 R3 rb => q P' L' σ H' C dx e3 l3 R3 (RG.mono e3 l3) rb
        | ok y S' =>
          refine a2 P L σ H G S R RG _ e2 _ fun P' L' H' w e3 l3 R3 rw => ?_
          simp only [op2] at e
          have h2' := RepV.mono e3 l3 h2
          cases ex : rd S' x1 with
          | none => simp only [ex] at e; cases e
          | some dx =>
            cases ey : rd S' y with
            | none => simp only [ex, ey] at e; cases e
            | some dy =>
              simp only [ex, ey] at e
              cases eg : gd dx dy with
              | none => simp only [eg, Option.map_none] at e; cases e
              | some d =>
                simp only [eg, Option.map_some] at e
                by_cases hl : i < G.length
                · rw [if_pos hl] at e
                  cases e
                  refine b2 P' H' dx dy v w d R3.fr (rd_rep R3 h2' ex) (rd_rep R3 rw ey) eg _ fun P'' H'' z gr rz => ?_
                  obtain ⟨R4, e4⟩ := gr.relH R3
                  exact q P'' L' _ H'' (e3.trans e4) l3 R4 ((RG.mono (e3.trans e4) l3).set hl rz)
                · rw [if_neg hl] at e; cases e
theorem ip_addI {X : Cx} : IpD X .Add addI := ⟨_, ip_add, fun P H x y vx vy d e rx ry h Q q => by
  cases x with
  | int i =>
    cases y with
    | int j => cases h; exact ⟨i, j, rx, ry, q P H _ .refl (by simp only [RepD])⟩
    | _ => cases h
  | _ => cases h⟩
end

/-! ### what is walked -/
structure Walks (K : PySem.W.Frag) (J : It) (P : Hp) (ds : List D) : Prop where
  go : ∀ i H, Same P H → i < ds.length → J.go i H
  stop : ∀ i H, Same P H → i = ds.length → J.stop i H
  yld : ∀ i P1 H x H', Same P P1 → Same P1 H → i < ds.length → J.yld i H x H' → ∃ d P2, ds[i]? = some d ∧ Grow P1 H P2 H' ∧ RepD K P2 d x
def EvI (K : PySem.W.Frag) (mg : Str → Option Value) (W : WX) (wi : TI) (f : Mm (List D)) : Prop :=
  EvR K mg (fun P _ ds J => Walks K J P ds) W wi f
def SI (X : Cx) (W : WX) (tg iter : Expr) (f : Mm (List D)) : Prop := ∃ wi, PI X tg iter wi ∧ EvI X.K X.mg W wi f
theorem walks_list {K : PySem.W.Frag} {P : Hp} {a : Addr} {vs : List V} {ds : List D} (h : SqL K P a vs) (r : RepDs K P ds vs) : Walks K (Itl K a) P ds := by
  refine ⟨fun i H e hi => ?_, fun i H e hi => ?_, fun i P1 H x H' e e1 hi y => ?_⟩
  · have hl := r.len
    have : i < vs.length := by omega
    exact ⟨vs, vs[i], e.seq h, by simp [this]⟩
  · exact ⟨vs, e.seq h, by rw [r.len, hi]; exact Nat.le_refl _⟩
  · obtain ⟨rfl, y⟩ := y
    obtain ⟨d, h1, h2⟩ := r.get' (y vs ((e.trans e1).seq h))
    exact ⟨d, P1, h1, .refl, h2.mono e⟩
end DL

/-! The D layer, part 6: what is walked, loops, comprehensions. -/
namespace DL
open PySem L2

theorem walks_tup {K : PySem.W.Frag} {P : Hp} {a : Addr} {vs : List V} {ds : List D} (h : SqT K P a vs) (r : RepDs K P ds vs) : Walks K (Itt K a) P ds := by
  refine ⟨fun i H e hi => ?_, fun i H e hi => ?_, fun i P1 H x H' e e1 hi y => ?_⟩
  · have hl := r.len
    have : i < vs.length := by omega
    exact ⟨vs, vs[i], sqT_mono e h, by simp [this]⟩
  · exact ⟨vs, sqT_mono e h, by rw [r.len, hi]; exact Nat.le_refl _⟩
  · obtain ⟨rfl, y⟩ := y
    obtain ⟨d, h1, h2⟩ := r.get' (y vs (sqT_mono (e.trans e1) h))
    exact ⟨d, P1, h1, .refl, h2.mono e⟩
def signs (s : List Nat) : List D := s.map fun c => D.str [c]
theorem walks_str {K : PySem.W.Frag} {P : Hp} {s : List Nat} : Walks K (Its (mkS s)) P (signs s) := by
  refine ⟨fun i H e hi => ?_, fun i H e hi => ?_, fun i P1 H x H' e e1 hi y => ?_⟩
  · show i < (mkS s).cps.size
    simpa [mkS, signs] using hi
  · show (mkS s).cps.size ≤ i
    simp [mkS, signs] at hi ⊢
    omega
  · obtain ⟨rfl, c, h1, rfl⟩ := y
    refine ⟨.str [c], P1, ?_, .refl, rfl⟩
    have h2 : s[i]? = some c := by simpa [mkS] using h1
    simp [signs, h2]
def rngD (lo : Int) (n : Nat) : List D := (List.range n).map fun i => D.int (lo + (i : Nat))
theorem walks_rng {K : PySem.W.Frag} {P : Hp} {lo : Int} {n : Nat} : Walks K (Itr lo n) P (rngD lo n) := by
  refine ⟨fun i H e hi => ?_, fun i H e hi => ?_, fun i P1 H x H' e e1 hi y => ?_⟩
  · show i < n
    simpa [rngD] using hi
  · show n ≤ i
    simp [rngD] at hi
    omega
  · obtain ⟨rfl, rfl⟩ := y
    have hi' : i < n := by simpa [rngD] using hi
    exact ⟨.int (lo + i), P1, by simp [rngD, hi'], .refl, rfl⟩

/-- any of a list, a tuple, a text -/
def iAny (K : PySem.W.Frag) (te : TE) : TI := fun σ H R => te σ H fun x H1 => (∃ a, x = .ref a ∧ (∃ xs, SqL K H1 a xs) ∧ R (Itl K a) H1) ∨ (∃ a, x = .ref a ∧ (∃ xs, SqT K H1 a xs) ∧ R (Itt K a) H1) ∨ ∃ z, x = .str z ∧ R (Its z) H1
section
variable {X : Cx} {W : WX} {tg e : Expr}
theorem pi_anyD {te : TE} (he : PE X e te) : PI X tg e (iAny X.K te) := by
  constructor
  intro pins s σ H R I h
  refine thn (he.run pins s σ H _ I h) ?_
  rintro v s1 ⟨x, H1, I1, r1, q1⟩
  rcases q1 with ⟨a, rfl, ⟨xs, hq⟩, q⟩ | ⟨a, rfl, ⟨xs, hq⟩, q⟩ | ⟨z, rfl, q⟩
  · obtain rfl : v = Value.ref a := r1
    obtain ⟨its, _, pl, _⟩ := I1.list hq
    exact wpAny_pyIter_list pl.isList (pi_one (tk := s1.toks) I1 _ (turn_list a _) ⟨_, Heap.get?_push_size _ rfl, rfl, rfl⟩ q)
  · obtain rfl : v = Value.ref a := r1
    obtain ⟨its, _, pt, _⟩ := I1.tuple hq
    exact wpAny_pyIter_tuple (show s1.heap.IsTuple a its.toArray from pt) (pi_one (tk := s1.toks) I1 _ (turn_tuple a _) ⟨_, Heap.get?_push_size _ rfl, rfl, rfl⟩ q)
  · obtain ⟨t, rfl⟩ := r1
    by_cases hz : z.cps.all (· < 128) = true
    · exact wpAny_pyIter_ascii hz (pi_one (tk := s1.toks) I1 _ (turn_str _ z t "str_ascii_iterator" (Or.inl rfl)) ⟨_, Heap.get?_push_size _ rfl, rfl, rfl⟩ q)
    · exact wpAny_pyIter_wide (by simpa using hz) (pi_one (tk := s1.toks) I1 _ (turn_str _ z t "str_iterator" (Or.inr rfl)) ⟨_, Heap.get?_push_size _ rfl, rfl, rfl⟩ q)
/-- what is walked: lists, tuples, texts; an owned list stands still from then on -/
def srcD : D → Option (List D)
  | .tup ds => some ds
  | .lst ds => some ds
  | .rol ds => some ds
  | .str s => some (signs s)
  | _ => none
def mSrc (x : SV) : Mm (List D) := fun _ S => match x with
  | .v d => (srcD d).map fun ds => .ok ds S
  | .o i => match S[i]? with
    | some (.lst ds) => some (.ok ds (S.set i (.fz ds)))
    | some (.fz ds) => some (.ok ds (S.set i (.fz ds)))
    | _ => none
  | .x _ _ _ => none
theorem ev_src {K : PySem.W.Frag} {mg : Str → Option Value} {te : TE} {f : Mm SV} (h : EvR K mg (rV K) W te f) : EvI K mg W (iAny K te) (f.bind mSrc) := by
  intro P L σ H G S R RG
  refine At.bind (t := te) (k := fun x σ H1 (R : It → Hp → Prop) => (∃ a, x = V.ref a ∧ (∃ xs, SqL K H1 a xs) ∧ R (Itl K a) H1) ∨ (∃ a, x = V.ref a ∧ (∃ xs, SqT K H1 a xs) ∧ R (Itt K a) H1) ∨ ∃ z, x = V.str z ∧ R (Its z) H1) RG (h P L σ H G S R RG) fun P1 L1 H1 S1 x v e1 l1 R1 RG1 rx => ?_
  intro r h Q q
  cases x with
  | x _ _ _ => cases h
  | o i =>
    obtain ⟨a, rfl, ha⟩ := rx
    obtain ⟨o, ho, h1, h2, h3⟩ := R1.of_at ha
    unfold mSrc at h
    simp only [h1] at h
    cases o with
    | lst ds =>
      cases h
      obtain ⟨vs, rfl, q2⟩ := h3
      obtain ⟨R2, e2⟩ := R1.kill ha h2 q2
      refine .inl ⟨a, rfl, ⟨vs, SqL.of h2⟩, q _ L1 H1 _ e2 (LExt.refl _) R2 (walks_list (vs := vs) (SqL.of ?_) (q2.mono e2))⟩
      show (if a = a then some (HO.lst vs) else P1 a) = some (HO.lst vs)
      rw [if_pos rfl]
    | fz ds =>
      cases h
      obtain ⟨vs, rfl, q2⟩ := h3
      obtain ⟨R2, e2⟩ := R1.kill ha h2 q2
      refine .inl ⟨a, rfl, ⟨vs, SqL.of h2⟩, q _ L1 H1 _ e2 (LExt.refl _) R2 (walks_list (vs := vs) (SqL.of ?_) (q2.mono e2))⟩
      show (if a = a then some (HO.lst vs) else P1 a) = some (HO.lst vs)
      rw [if_pos rfl]
    | _ => cases h
  | v d =>
    cases d with
    | tup ds =>
      cases h
      have rx' : RepD K P1 (.tup ds) v := rx
      simp only [RepD] at rx'
      obtain ⟨a, vs, rfl, q1, q2⟩ := rx'
      exact .inr (.inl ⟨a, rfl, ⟨vs, sqT_mono R1.fr q1⟩, q P1 L1 H1 _ (Same.refl _) (LExt.refl _) R1 (walks_tup q1 q2)⟩)
    | lst ds =>
      cases h
      have rx' : RepD K P1 (.lst ds) v := rx
      simp only [RepD] at rx'
      obtain ⟨a, vs, rfl, q1, q2⟩ := rx'
      exact .inl ⟨a, rfl, ⟨vs, SqL.of (R1.fr _ _ q1)⟩, q P1 L1 H1 _ (Same.refl _) (LExt.refl _) R1 (walks_list (SqL.of q1) q2)⟩
    | rol ds =>
      cases h
      have rx' : RepD K P1 (.rol ds) v := rx
      simp only [RepD] at rx'
      obtain ⟨a, vs, rfl, q1, q2⟩ := rx'
      exact .inl ⟨a, rfl, ⟨vs, R1.fr.seq q1⟩, q P1 L1 H1 _ (Same.refl _) (LExt.refl _) R1 (walks_list q1 q2)⟩
    | str s =>
      cases h
      have rx' : v = .str (mkS s) := rx
      subst rx'
      exact .inr (.inr ⟨_, rfl, q P1 L1 H1 _ (Same.refl _) (LExt.refl _) R1 walks_str⟩)
    | _ => cases h
theorem si_any {f : Mm SV} (h : SE X W e f) : SI X W tg e (f.bind mSrc) := by
  obtain ⟨t, h1, h2⟩ := h
  exact ⟨_, pi_anyD h1, ev_src h2⟩
def rng1 (xs : List SV) : Mm (List D) := fun _ S => match xs with
  | [.v (.int j)] => if j.natAbs ≤ lineN then some (.ok (rngD 0 j.toNat) S) else none
  | _ => none
theorem si_range1 {a : Expr} {p pos : Pos} {f : Mm (List SV)} (hg : Gl X "range") (hm : X.mg "range" = none) (ha : SA X W [a] f) (hs : starEach [a] X.env = [(false, eval a X.env)] := by rfl) : SI X W tg (.Call (.Name "range" p) [a] [] pos) (f.bind rng1) := by
  obtain ⟨t, a1, a2⟩ := ha
  refine ⟨_, pi_range1 hg hm a1 hs, fun P L σ H G S R RG => ?_⟩
  refine At.bind (t := t) (k := fun vs σ H1 (R : It → Hp → Prop) => ∃ j : Int, vs = [V.int j] ∧ -(2 ^ 62) ≤ j ∧ j < 2 ^ 62 ∧ R (Itr 0 j.toNat) H1) RG (a2 P L σ H G S R RG) fun P1 L1 H1 S1 xs vs e1 l1 R1 RG1 rx => ?_
  intro r h Q q
  match xs, h with
  | [.v (.int j)], h =>
    have h' : (if j.natAbs ≤ lineN then some (Rs.ok (rngD 0 j.toNat) S1) else none) = some r := h
    by_cases c : j.natAbs ≤ lineN
    · rw [if_pos c] at h'
      cases h'
      obtain ⟨v, r', rfl, q1, q2⟩ := rx
      cases q2
      have q1' : v = .int j := q1
      subst q1'
      have c' : j.natAbs ≤ 16777216 := c
      exact ⟨j, rfl, by omega, by omega, q P1 L1 H1 _ (Same.refl _) (LExt.refl _) R1 walks_rng⟩
    · rw [if_neg c] at h'; cases h'
def rng2 (xs : List SV) : Mm (List D) := fun _ S => match xs with
  | [.v (.int i), .v (.int j)] => if i.natAbs ≤ lineN ∧ j.natAbs ≤ lineN then some (.ok (rngD i (j - i).toNat) S) else none
  | _ => none
theorem si_range2 {a b : Expr} {p pos : Pos} {f : Mm (List SV)} (hg : Gl X "range") (hm : X.mg "range" = none) (ha : SA X W [a, b] f) (hs : starEach [a, b] X.env = [(false, eval a X.env), (false, eval b X.env)] := by rfl) (hs2 : starEach [b] X.env = [(false, eval b X.env)] := by rfl) : SI X W tg (.Call (.Name "range" p) [a, b] [] pos) (f.bind rng2) := by
  obtain ⟨t, a1, a2⟩ := ha
  refine ⟨_, pi_range2 hg hm a1 hs hs2, fun P L σ H G S R RG => ?_⟩
  refine At.bind (t := t) (k := fun vs σ H1 (R : It → Hp → Prop) => ∃ i j : Int, vs = [V.int i, V.int j] ∧ (-(2 ^ 62) ≤ i ∧ i < 2 ^ 62 ∧ -(2 ^ 62) ≤ j ∧ j < 2 ^ 62) ∧ R (Itr i (j - i).toNat) H1) RG (a2 P L σ H G S R RG) fun P1 L1 H1 S1 xs vs e1 l1 R1 RG1 rx => ?_
  intro r h Q q
  match xs, h with
  | [.v (.int i), .v (.int j)], h =>
    have h' : (if i.natAbs ≤ lineN ∧ j.natAbs ≤ lineN then some (Rs.ok (rngD i (j - i).toNat) S1) else none) = some r := h
    by_cases c : i.natAbs ≤ lineN ∧ j.natAbs ≤ lineN
    · rw [if_pos c] at h'
      cases h'
      obtain ⟨v, r', rfl, q1, v2, r2, rfl, q3, q4⟩ := rx
      cases q4
      have q1' : v = .int i := q1
      have q3' : v2 = .int j := q3
      subst q1'; subst q3'
      have c1 : i.natAbs ≤ 16777216 := c.1
      have c2 : j.natAbs ≤ 16777216 := c.2
      exact ⟨i, j, rfl, ⟨by omega, by omega, by omega, by omega⟩, q P1 L1 H1 _ (Same.refl _) (LExt.refl _) R1 walks_rng⟩
    · rw [if_neg c] at h'; cases h'
end

/-! ### for -/
/-- behind a turn: what was made in it is let go -/
def cutG (n : Nat) (G : Sl) (S : Sto) : Option (Sl × Sto) := if (S.take n).all (MO.below n) = true then some (thawG S n G, S.take n) else none
def forL (n : Nat) (g : Mg) (b : Ms) : List D → Sl → Sto → Option Out
  | [], G, S => some (.nx G S)
  | d :: ds, G, S => match g (.v d) G S with
    | none => none
    | some (G1, S1) => match b G1 S1 with
      | some (.nx G2 S2) => match cutG n G2 S2 with
        | some (G3, S3) => forL n g b ds G3 S3
        | none => none
      | some (.ct G2 S2) => match cutG n G2 S2 with
        | some (G3, S3) => forL n g b ds G3 S3
        | none => none
      | some (.bk G2 S2) => some (.nx G2 S2)
      | o => o
def sFor (fi : Mm (List D)) (g : Mg) (b : Ms) : Ms := sE fi fun ds => fun G S => forL S.length g b ds G S
section
variable {K : PySem.W.Frag} {mg : Str → Option Value} {W : WX}
theorem cutG_rep {P : Hp} {L L' : List Addr} {H : Hp} {S : Sto} {σ : St} {G G' : Sl} {S' : Sto} {n : Nat} (R : RelH K mg P L' H S) (RG : RelG K P L' σ G) (h : cutG n G S = some (G', S')) (l : LExt L L') (hn : L.length = n) :
    ∃ P', Same P P' ∧ RelH K mg P' L H S' ∧ RelG K P' L σ G' := by
  unfold cutG at h
  by_cases c : (S.take n).all (MO.below n) = true
  · rw [if_pos c] at h
    cases h
    have eL : L'.take n = L := by rw [← hn]; exact l.take_eq
    have R2 := R.cut n c
    have RG2 := thawG_rep R (n := n) RG
    rw [eL] at R2 RG2
    exact ⟨_, still_same R n, R2, RG2⟩
  · rw [if_neg c] at h; cases h
theorem ev_for {wi : TI} {t : TG} {tb : TS} {fi : Mm (List D)} {g : Mg} {b : Ms} (h1 : EvI K mg W wi fi) (h2 : EvG K mg t g) (h3 : EvS K mg W tb b) : EvS K mg W (tFor wi t tb) (sFor fi g b) := by
  refine ev_sE (kt := fun J Dn σ H1 => ∃ Wm : Nat → Nat → St → Hp → Prop, (∃ m, Wm 0 m σ H1) ∧ ∀ i m σ H, Wm i m σ H →
    (J.stop i H ∧ Dn.nx σ H) ∨ (J.go i H ∧ ∃ N : St → Hp → Prop, (∀ σ' H', N σ' H' → ∃ m', m' < m ∧ Wm (i + 1) m' σ' H') ∧ ∀ x H', J.yld i H x H' → t x σ H' fun σ2 H2 => tb { Dn with nx := N, ct := N, bk := Dn.nx } σ2 H2)) h1 fun P L σ H G S ds J R RG w o e Dn q => ?_
  refine ⟨fun i m σ1 H1 => m = ds.length - i ∧ i ≤ ds.length ∧ ∃ P1 G1 S1, Same P P1 ∧ RelH K mg P1 L H1 S1 ∧ RelG K P1 L σ1 G1 ∧ S1.length = S.length ∧ forL S.length g b (ds.drop i) G1 S1 = some o,
    ⟨ds.length, by simp, Nat.zero_le _, P, G, S, Same.refl _, R, RG, rfl, e⟩, ?_⟩
  rintro i m σ1 H1 ⟨rfl, hi, P1, G1, S1, e1, R1, RG1, hS, e2⟩
  by_cases hlt : i < ds.length
  · right
    refine ⟨w.go i H1 (e1.trans R1.fr) hlt, fun σ' H' => ∃ m', m' < ds.length - i ∧ (m' = ds.length - (i + 1) ∧ i + 1 ≤ ds.length ∧ ∃ P1 G1 S1, Same P P1 ∧ RelH K mg P1 L H' S1 ∧ RelG K P1 L σ' G1 ∧ S1.length = S.length ∧ forL S.length g b (ds.drop (i + 1)) G1 S1 = some o), fun σ' H' z => z, fun x H' y => ?_⟩
    obtain ⟨d, P2, hd, gr, rd'⟩ := w.yld i P1 H1 x H' e1 R1.fr hlt y
    obtain ⟨R2, e3⟩ := gr.relH R1
    have RG2 := RelG.mono e3 (LExt.refl L) RG1
    have ed : ds.drop i = d :: ds.drop (i + 1) := by
      obtain ⟨z1, z2⟩ := List.getElem?_eq_some_iff.mp hd
      rw [← z2]
      exact List.drop_eq_getElem_cons z1
    rw [ed] at e2
    simp only [forL] at e2
    cases e4 : g (.v d) G1 S1 with
    | none => rw [e4] at e2; cases e2
    | some p =>
      obtain ⟨G2, S2⟩ := p
      rw [e4] at e2
      refine h2 P2 L σ1 H' G1 S1 (.v d) x R2 RG2 rd' G2 S2 e4 _ fun P3 L3 σ3 H3 e5 l5 R3 RG3 => ?_
      simp only at e2
      cases e6 : b G2 S2 with
      | none => rw [e6] at e2; cases e2
      | some o1 =>
        rw [e6] at e2
        refine h3 P3 L3 σ3 H3 G2 S2 R3 RG3 o1 e6 _ ?_
        have hLn : L.length = S.length := R.len
        have again : ∀ (G3 : Sl) (S3 : Sto), (match cutG S.length G3 S3 with | some (G3, S3) => forL S.length g b (ds.drop (i + 1)) G3 S3 | none => none) = some o → ∀ P' L' σ' H', Same P3 P' → LExt L3 L' → RelH K mg P' L' H' S3 → RelG K P' L' σ' G3 →
            ∃ m', m' < ds.length - i ∧ (m' = ds.length - (i + 1) ∧ i + 1 ≤ ds.length ∧ ∃ P1 G1 S1, Same P P1 ∧ RelH K mg P1 L H' S1 ∧ RelG K P1 L σ' G1 ∧ S1.length = S.length ∧ forL S.length g b (ds.drop (i + 1)) G1 S1 = some o) := by
          intro G3 S3 e7 P' L' σ' H' e8 l8 R8 RG8
          cases e9 : cutG S.length G3 S3 with
          | none => rw [e9] at e7; cases e7
          | some p =>
            obtain ⟨G4, S4⟩ := p
            rw [e9] at e7
            obtain ⟨P9, s9, R9, RG9⟩ := cutG_rep R8 RG8 e9 (l5.trans l8) hLn
            exact ⟨_, by omega, rfl, hlt, P9, G4, S4, ((((e1.trans e3).trans e5).trans e8).trans s9), R9, RG9, by rw [← R9.len, hLn], e7⟩
        cases o1 with
        | nx G3 S3 => exact again G3 S3 e2
        | ct G3 S3 => exact again G3 S3 e2
        | bk G3 S3 => cases e2; exact fun P' L' σ' H' e8 l8 => q P' L' σ' H' (((e1.trans e3).trans e5).trans e8) (l5.trans l8)
        | rt y S3 => cases e2; exact fun P' L' H' v e8 l8 => q P' L' H' v (((e1.trans e3).trans e5).trans e8) (l5.trans l8)
        | er c f G3 S3 => cases e2; exact fun P' L' σ' H' C dx e8 l8 => q P' L' σ' H' C dx (((e1.trans e3).trans e5).trans e8) (l5.trans l8)
  · left
    have ei : i = ds.length := by omega
    subst ei
    rw [List.drop_length] at e2
    simp only [forL] at e2
    cases e2
    exact ⟨w.stop _ H1 (e1.trans R1.fr) rfl, q P1 L σ1 H1 e1 (LExt.refl _) R1 RG1⟩
end
section
variable {X : Cx} {W : WX} {tg iter c : Expr} {body : List Stmt} {fi : Mm (List D)} {g : Mg} {b : Ms} {pos : Pos}
theorem ss_for (hp : PassesOwn (model X.prog X.w) X.A X.env X.xe) (hc : X.calm = true) (hi : SI X W tg iter fi) (hg : SG X tg g) (hb : SSs X W body b) (hs : ∀ x, foldedSetIterable iter X.env x = pure x := by intro _; rfl) : SS X W (.For tg iter body [] pos) (sFor fi g b) := by
  obtain ⟨wi, a1, a2⟩ := hi
  obtain ⟨t, b1, b2⟩ := hg
  obtain ⟨tb, c1, c2⟩ := hb
  exact ⟨_, ps_for hp hc a1 b1 c1 hs, ev_for a2 b2 c2⟩

/-! ### while -/
def whileL (c : Mm Bool) (b : Ms) : Nat → Nat → Sl → Sto → Option Out
  | _, 0, _, _ => none
  | n, k + 1, G, S => match c G S with
    | some (.ok true S1) => match b G S1 with
      | some (.nx G2 S2) => match cutG n G2 S2 with
        | some (G3, S3) => whileL c b n k G3 S3
        | none => none
      | some (.ct G2 S2) => match cutG n G2 S2 with
        | some (G3, S3) => whileL c b n k G3 S3
        | none => none
      | some (.bk G2 S2) => some (.nx G2 S2)
      | o => o
    | some (.ok false S1) => some (.nx G S1)
    | some (.er d f S1) => some (.er d f G S1)
    | none => none
/-- at most k turns -/
def sWhile (k : Nat) (c : Mm Bool) (b : Ms) : Ms := fun G S => whileL c b S.length k G S
theorem ev_while {K : PySem.W.Frag} {mg : Str → Option Value} {tc : TT} {tb : TS} {fc : Mm Bool} {k : Nat} (h1 : EvR K mg rB W tc fc) (h2 : EvS K mg W tb b) : EvS K mg W (tWhile tc tb) (sWhile k fc b) := by
  intro P L σ H G S R RG o e Dn q
  have hLn : L.length = S.length := R.len
  refine ⟨fun m σ1 H1 => ∃ P1 G1 S1, Same P P1 ∧ RelH K mg P1 L H1 S1 ∧ RelG K P1 L σ1 G1 ∧ whileL fc b S.length m G1 S1 = some o, ⟨k, P, G, S, Same.refl _, R, RG, e⟩, ?_⟩
  rintro m σ1 H1 ⟨P1, G1, S1, e1, R1, RG1, e2⟩
  cases m with
  | zero => cases e2
  | succ m =>
    simp only [whileL] at e2
    cases e3 : fc G1 S1 with
    | none => rw [e3] at e2; cases e2
    | some r =>
      rw [e3] at e2
      refine h1 P1 L σ1 H1 G1 S1 R1 RG1 r e3 _ ?_
      cases r with
      | er d f S2 =>
        cases e2
        exact fun P' L' H' C dx e4 l4 R4 x4 => q P' L' σ1 H' C dx (e1.trans e4) l4 R4 (RelG.mono e4 l4 RG1) x4
      | ok v S2 =>
        intro P' L' H' v' e4 l4 R4 ev
        have ev' : v = v' := ev
        subst ev'
        have RG4 := RelG.mono e4 l4 RG1
        cases v with
        | false =>
          rw [if_neg Bool.false_ne_true]
          cases e2
          exact q P' L' σ1 H' (e1.trans e4) l4 R4 RG4
        | true =>
          rw [if_pos rfl]
          simp only at e2
          refine ⟨fun σ' H' => ∃ m', m' < m + 1 ∧ ∃ P1 G1 S1, Same P P1 ∧ RelH K mg P1 L H' S1 ∧ RelG K P1 L σ' G1 ∧ whileL fc b S.length m' G1 S1 = some o, fun _ _ z => z, ?_⟩
          cases e6 : b G1 S2 with
          | none => rw [e6] at e2; cases e2
          | some o1 =>
            rw [e6] at e2
            refine h2 P' L' σ1 H' G1 S2 R4 RG4 o1 e6 _ ?_
            have again : ∀ (G3 : Sl) (S3 : Sto), (match cutG S.length G3 S3 with | some (G3, S3) => whileL fc b S.length m G3 S3 | none => none) = some o → ∀ P'' L'' σ' H'', Same P' P'' → LExt L' L'' → RelH K mg P'' L'' H'' S3 → RelG K P'' L'' σ' G3 →
                ∃ m', m' < m + 1 ∧ ∃ P1 G1 S1, Same P P1 ∧ RelH K mg P1 L H'' S1 ∧ RelG K P1 L σ' G1 ∧ whileL fc b S.length m' G1 S1 = some o := by
              intro G3 S3 e7 P'' L'' σ' H'' e8 l8 R8 RG8
              cases e9 : cutG S.length G3 S3 with
              | none => rw [e9] at e7; cases e7
              | some p =>
                obtain ⟨G4, S4⟩ := p
                rw [e9] at e7
                obtain ⟨P9, s9, R9, RG9⟩ := cutG_rep R8 RG8 e9 (l4.trans l8) hLn
                exact ⟨m, Nat.lt_succ_self m, P9, G4, S4, (((e1.trans e4).trans e8).trans s9), R9, RG9, e7⟩
            cases o1 with
            | nx G3 S3 => exact again G3 S3 e2
            | ct G3 S3 => exact again G3 S3 e2
            | bk G3 S3 => cases e2; exact fun P'' L'' σ' H'' e8 l8 => q P'' L'' σ' H'' ((e1.trans e4).trans e8) (l4.trans l8)
            | rt y S3 => cases e2; exact fun P'' L'' H'' v e8 l8 => q P'' L'' H'' v ((e1.trans e4).trans e8) (l4.trans l8)
            | er d f G3 S3 => cases e2; exact fun P'' L'' σ' H'' C dx e8 l8 => q P'' L'' σ' H'' C dx ((e1.trans e4).trans e8) (l4.trans l8)
theorem ss_while (k : Nat) {fc : Mm Bool} (hp : PassesOwn (model X.prog X.w) X.A X.env X.xe) (hc : STe X W c fc) (hb : SSs X W body b) : SS X W (.While c body [] pos) (sWhile k fc b) := by
  obtain ⟨tc, a1, a2⟩ := hc
  obtain ⟨tb, b1, b2⟩ := hb
  exact ⟨_, ps_while hp a1 b1, ev_while a2 b2⟩
end

/-! ### comprehensions -/
/-- no error leaves -/
abbrev W0 : WX := fun _ _ _ _ => False
def STs (X : Cx) (es : List Expr) (f : Mm Bool) : Prop := ∃ t, PTs X es t ∧ EvR X.K X.mg rB W0 t f
theorem STs.pts {X : Cx} {es : List Expr} {f : Mm Bool} (h : STs X es f) : PTs X es (tOf X.K X.mg rB W0 f) := by
  obtain ⟨t, h1, h2⟩ := h
  exact ⟨fun pins s σ H Q I z => h1.run pins s σ H Q I (tOf_to h2 z)⟩
def mYes : Mm Bool := Mm.ret true
theorem sts_nil {X : Cx} : STs X [] mYes := ⟨_, pts_nil, fun P L σ H G S R RG r e Q q => by
  cases e
  exact q P L H true (Same.refl _) (LExt.refl _) R rfl⟩
theorem sts_one {X : Cx} {c : Expr} {f : Mm Bool} (h : STe X W0 c f) : STs X [c] f := by
  obtain ⟨t, h1, h2⟩ := h
  exact ⟨_, pts_one h1, h2⟩
def wipeG (G : Sl) : List Nat → Sl
  | [] => G
  | v :: vs => (wipeG G vs).set v none
theorem wipeG_length (G : Sl) : ∀ vs : List Nat, (wipeG G vs).length = G.length
  | [] => rfl
  | v :: vs => by unfold wipeG; rw [List.length_set, wipeG_length G vs]
theorem wipeG_rep {K : PySem.W.Frag} {P : Hp} {L : List Addr} {σ : St} {G : Sl} (r : RelG K P L σ G) : ∀ vs : List Nat, RelG K P L (wipe σ vs) (wipeG G vs)
  | [] => r
  | v :: vs => by
    have ih := wipeG_rep r vs
    refine ⟨by unfold wipe wipeG; rw [List.length_set, List.length_set]; exact ih.1, fun i y e => ?_⟩
    unfold wipeG at e
    by_cases hv : v = i
    · subst hv
      by_cases hl : v < (wipeG G vs).length
      · rw [List.getElem?_set_self hl] at e; cases e
      · rw [List.getElem?_eq_none (by simpa using hl)] at e; cases e
    · rw [List.getElem?_set_ne hv] at e
      obtain ⟨u, h1, h2⟩ := ih.2 i y e
      exact ⟨u, by unfold wipe; rw [List.getElem?_set_ne hv]; exact h1, h2⟩
/-- a comprehension's turns: the list that is made stands at the n-th place of the store -/
def lcL (n : Nat) (g : Mg) (tt : Mm Bool) (fe : Mm SV) (G : Sl) : List D → Sto → Option Sto
  | [], S => some S
  | d :: ds, S => match g (.v d) G S with
    | none => none
    | some (G1, S1) => match tt G1 S1 with
      | some (.ok true S2) => match fe G1 S2 with
        | some (.ok x S3) => match thaw S3 (n + 1) x, S3[n]? with
          | some (.v y), some (.lst acc) => if (S3.take (n + 1)).all (MO.below (n + 1)) = true ∧ acc.length < lineN then lcL n g tt fe G ds ((S3.take (n + 1)).set n (.lst (acc ++ [y]))) else none
          | _, _ => none
        | _ => none
      | some (.ok false S2) => if (S2.take (n + 1)).all (MO.below (n + 1)) = true then lcL n g tt fe G ds (S2.take (n + 1)) else none
      | _ => none
/-- G with the comprehension's own names forgotten, as each turn finds it; the list stands still then (mLc), or is owned (mLcO) -/
def mLc (vs : List Nat) (fi : Mm (List D)) (g : Mg) (tt : Mm Bool) (fe : Mm SV) : Mm SV := fi.bind fun ds => fun G S => match lcL S.length g tt fe (wipeG G vs) ds (S ++ [.lst []]) with
  | some S' => match S'[S.length]? with
    | some (.lst acc) => if (S'.take S.length).all (MO.below S.length) = true then some (.ok (.v (.lst acc)) (S'.take S.length)) else none
    | _ => none
  | none => none
def mLcO (vs : List Nat) (fi : Mm (List D)) (g : Mg) (tt : Mm Bool) (fe : Mm SV) : Mm SV := fi.bind fun ds => fun G S => match lcL S.length g tt fe (wipeG G vs) ds (S ++ [.lst []]) with
  | some S' => some (.ok (.o S.length) S')
  | none => none
/-- a target that stores into the slots vs alone -/
def EvGw (K : PySem.W.Frag) (mg : Str → Option Value) (vs : List Nat) (t : TG) (g : Mg) : Prop :=
  ∀ P L σ H G S x v, RelH K mg P L H S → RelG K P L σ G → RepV K P L x v → ∀ G' S', g x G S = some (G', S') → ∀ Q, (∀ P' L' σ' H', wipe σ' vs = wipe σ vs → Same P P' → LExt L L' → RelH K mg P' L' H' S' → RelG K P' L' σ' G' → Q σ' H') → t v σ H Q
def SGw (X : Cx) (vs : List Nat) (tg : Expr) (g : Mg) : Prop := ∃ t, PG X tg t ∧ EvGw X.K X.mg vs t g
def tgwOf (K : PySem.W.Frag) (mg : Str → Option Value) (vs : List Nat) (g : Mg) : TG := fun v σ H Q => ∃ P L G S x G' S', RelH K mg P L H S ∧ RelG K P L σ G ∧ RepV K P L x v ∧ g x G S = some (G', S') ∧ ∀ P' L' σ' H', wipe σ' vs = wipe σ vs → Same P P' → LExt L L' → RelH K mg P' L' H' S' → RelG K P' L' σ' G' → Q σ' H'
theorem SGw.pg {X : Cx} {vs : List Nat} {tg : Expr} {g : Mg} (h : SGw X vs tg g) : PG X tg (tgwOf X.K X.mg vs g) := by
  obtain ⟨t, h1, h2⟩ := h
  refine ⟨fun pins s σ H v u Q I r z => h1.run pins s σ H v u Q I r ?_⟩
  obtain ⟨P, L, G, S, x, G', S', R, RG, rx, e, q⟩ := z
  exact h2 P L σ H G S x v R RG rx G' S' e Q q
theorem wipe_set {σ : St} {i : Nat} {x : Option V} : ∀ {vs : List Nat}, i ∈ vs → wipe (σ.set i x) vs = wipe σ vs
  | [], h => by cases h
  | v :: vs, h => by
    unfold wipe
    by_cases hm : i ∈ vs
    · rw [wipe_set hm]
    · have hv : i = v := by simpa [hm] using h
      subst hv
      have key : ∀ ws : List Nat, (wipe (σ.set i x) ws).set i none = (wipe σ ws).set i none := by
        intro ws
        induction ws with
        | nil => show (σ.set i x).set i none = σ.set i none; rw [List.set_set]
        | cons w ws ih =>
          show ((wipe (σ.set i x) ws).set w none).set i none = ((wipe σ ws).set w none).set i none
          by_cases hw : w = i
          · subst hw
            rw [List.set_set, List.set_set, ih]
          · rw [List.set_comm _ _ hw, ih, List.set_comm _ _ (Ne.symm hw)]
      exact key vs
theorem sgw_name {X : Cx} {vs : List Nat} (i : Nat) {x : Str} {pos : Pos} (hm : i ∈ vs) (hN : X.N.Nodup) (hi : X.N[i]? = some x) (hx : Loc X.env.scope x) (hf : X.fn x = true ∨ X.env.scope.names.lookup x = some .local := by first | exact .inl rfl | exact .inr rfl | assumption) : SGw X vs (.Name x pos) (gSet i) :=
  ⟨_, pg_name hN hi hx hf, fun P L σ H G S x v R RG rx G' S' e Q q => by
    unfold gSet at e
    by_cases hi : i < G.length
    · rw [if_pos hi] at e
      cases e
      exact q P L _ H (wipe_set hm) (Same.refl _) (LExt.refl _) R (RG.set hi rx)
    · rw [if_neg hi] at e; cases e⟩
def EvGsw (K : PySem.W.Frag) (mg : Str → Option Value) (vs : List Nat) (t : TGs) (g : Mgs) : Prop :=
  ∀ P L σ H G S ds us, RelH K mg P L H S → RelG K P L σ G → RepDs K P ds us → ∀ G' S', g ds G S = some (G', S') → ∀ Q, (∀ P' L' σ' H', wipe σ' vs = wipe σ vs → Same P P' → LExt L L' → RelH K mg P' L' H' S' → RelG K P' L' σ' G' → Q σ' H') → t us σ H Q
def SGsw (X : Cx) (vs : List Nat) (ts : List Expr) (n : Nat) (g : Mgs) : Prop := ∃ t, PGs X ts t ∧ EvGsw X.K X.mg vs t g ∧ ∀ ds G S r, g ds G S = some r → ds.length = n
theorem sgsw_nil {X : Cx} {vs : List Nat} : SGsw X vs [] 0 gsNil := by
  refine ⟨_, pgs_nil, fun P L σ H G S ds us R RG rx G' S' e Q q => ?_, fun ds G S r e => ?_⟩
  · cases ds with
    | nil =>
      cases e
      simp only [RepDs] at rx
      exact ⟨rx, q P L σ H rfl (Same.refl _) (LExt.refl _) R RG⟩
    | cons _ _ => cases e
  · cases ds with
    | nil => rfl
    | cons _ _ => cases e
theorem sgsw_cons {X : Cx} {vs : List Nat} {e : Expr} {g : Mg} {es : List Expr} {n : Nat} {gs : Mgs} (h1 : SGw X vs e g) (h2 : SGsw X vs es n gs) (hs : (assignEach (e :: es) X.env).map (·.2) = assign e X.env :: (assignEach es X.env).map (·.2) := by rfl) : SGsw X vs (e :: es) (n + 1) (gsCons g gs) := by
  obtain ⟨t, a1, a2⟩ := h1
  obtain ⟨u, b1, b2, b3⟩ := h2
  refine ⟨_, pgs_cons a1 b1 hs, fun P L σ H G S ds us R RG rx G' S' e Q q => ?_, fun ds G S r e => ?_⟩
  · cases ds with
    | nil => cases e
    | cons d ds =>
      simp only [RepDs] at rx
      obtain ⟨v, r, rfl, q1, q2⟩ := rx
      simp only [gsCons] at e
      cases e1 : g (.v d) G S with
      | none => rw [e1] at e; cases e
      | some p =>
        obtain ⟨G1, S1⟩ := p
        rw [e1] at e
        refine ⟨v, r, rfl, a2 P L σ H G S (.v d) v R RG q1 G1 S1 e1 _ fun P' L' σ' H' w2 e2 l2 R2 RG2 => ?_⟩
        exact b2 P' L' σ' H' G1 S1 ds r R2 RG2 (q2.mono e2) G' S' e Q fun P'' L'' σ'' H'' w3 e3 l3 => q P'' L'' σ'' H'' (w3.trans w2) (e2.trans e3) (l2.trans l3)
  · cases ds with
    | nil => cases e
    | cons d ds =>
      simp only [gsCons] at e
      cases e1 : g (.v d) G S with
      | none => rw [e1] at e; cases e
      | some p =>
        obtain ⟨G1, S1⟩ := p
        rw [e1] at e
        simp [b3 ds G1 S1 r e]
theorem sgw_tup {X : Cx} {ws : List Nat} {pos : Pos} {es : List Expr} {k n : Nat} {gs : Mgs} (hc : X.calm = true) (h : SGsw X ws es n gs) (hn : (assignEach es X.env).length = n := by rfl) (hst : (assignEach es X.env).findIdx? (·.1) = none := by rfl) : SGw X ws (.Tuple es k pos) (gTupD gs) := by
  obtain ⟨t, a1, a2, a3⟩ := h
  refine ⟨_, pg_tup hc a1 hn hst, fun P L σ H G S x v R RG rx G' S' e Q q => ?_⟩
  cases x with
  | x _ _ _ => cases e
  | o i =>
    unfold gTupD at e
    simp only [rd] at e
    cases e1 : S[i]? with
    | none => rw [e1] at e; cases e
    | some mo => rw [e1] at e; cases mo <;> cases e
  | v d =>
    cases d with
    | tup ds =>
      have rx' : RepD X.K P (.tup ds) v := rx
      simp only [RepD] at rx'
      obtain ⟨a, vs, rfl, q1, q2⟩ := rx'
      exact ⟨a, vs, rfl, sqT_mono R.fr q1, by rw [q2.len]; exact a3 ds G S _ e, a2 P L σ H G S ds vs R RG q2 G' S' e Q q⟩
    | _ => cases e
section
variable {K : PySem.W.Frag} {mg : Str → Option Value} {W : WX}
/-- the turns of a comprehension: what is wanted of the list at Dn, owned at the n-th place, behind the last one -/
theorem lc_turns {vs : List Nat} {g : Mg} {tt : Mm Bool} {fe : Mm SV} {J : It} {P : Hp} {L : List Addr} {σ : St} {H : Hp} {G : Sl} {S : Sto} {ds : List D} {Dn : Addr} {Qd : Hp → Prop} {S' : Sto} (R : RelH K mg P L H S) (RG : RelG K P L σ G) (w : Walks K J P ds) (hD : H Dn = none)
    (e : lcL S.length g tt fe (wipeG G vs) ds (S ++ [.lst []]) = some S') (q : ∀ P' H', Same P P' → RelH K mg P' (L ++ [Dn]) H' S' → Qd H') :
    ∃ Wm : Nat → Nat → Hp → Prop, (∃ m, Wm 0 m (upd H Dn (.lst []))) ∧ ∀ i m H, Wm i m H → (J.stop i H ∧ Qd H) ∨ (J.go i H ∧ ∃ Nx : Hp → Prop, (∀ H', Nx H' → ∃ m', m' < m ∧ Wm (i + 1) m' H') ∧ ∀ x H', J.yld i H x H' →
      tgwOf K mg vs g x (wipe σ vs) H' fun σ2 H2 => wipe σ2 vs = wipe σ vs ∧ tOf K mg rB W0 tt σ2 H2 fun b H3 =>
        if b = true then tOf K mg (rV K) W0 fe σ2 H3 fun y H4 => ∃ acc, H4 Dn = some (.lst acc) ∧ acc.length < sizeLine ∧ Nx (upd H4 Dn (.lst (acc ++ [y]))) else Nx H3) := by
  have hL : L.length = S.length := R.len
  have RGw := wipeG_rep RG vs
  have ww : ∀ σ : St, wipe (wipe σ vs) vs = wipe σ vs := fun σ => by
    have key : ∀ (us : List Nat) (τ : St), (∀ i ∈ us, i < τ.length → τ[i]? = some none) → wipe τ us = τ := by
      intro us
      induction us with
      | nil => intro τ _; rfl
      | cons u us ih =>
        intro τ h
        unfold wipe
        rw [ih τ fun i hi => h i (List.mem_cons_of_mem _ hi)]
        apply List.ext_getElem?
        intro j
        by_cases hj : u = j
        · subst hj
          by_cases hl : u < τ.length
          · rw [List.getElem?_set_self hl, h u List.mem_cons_self hl]
          · rw [List.getElem?_eq_none (by simpa using hl), List.getElem?_eq_none (by omega)]
        · rw [List.getElem?_set_ne hj]
    refine key vs _ fun i hi hl => ?_
    cases z : (wipe σ vs)[i]? with
    | none =>
      rw [List.getElem?_eq_none_iff] at z
      omega
    | some o =>
      cases o with
      | none => rfl
      | some x => exact absurd hi (wipe_some z).2
  refine ⟨fun i m H1 => m = ds.length - i ∧ i ≤ ds.length ∧ ∃ P1 S1, Same P P1 ∧ RelH K mg P1 (L ++ [Dn]) H1 S1 ∧ lcL S.length g tt fe (wipeG G vs) (ds.drop i) S1 = some S', ⟨ds.length, by simp, Nat.zero_le _, P, _, Same.refl _, R.newO (o := .lst []) hD ⟨[], rfl, RepDs.nil⟩, e⟩, ?_⟩
  rintro i m H1 ⟨rfl, hi, P1, S1, e1, R1, e2⟩
  have hS1 : S1.length = S.length + 1 := by rw [← R1.len]; simp [hL]
  have hLn : (L ++ [Dn]).length = S.length + 1 := by simp [hL]
  by_cases hlt : i < ds.length
  · right
    refine ⟨w.go i H1 (e1.trans R1.fr) hlt, fun H' => ∃ m', m' < ds.length - i ∧ (m' = ds.length - (i + 1) ∧ i + 1 ≤ ds.length ∧ ∃ P1 S1, Same P P1 ∧ RelH K mg P1 (L ++ [Dn]) H' S1 ∧ lcL S.length g tt fe (wipeG G vs) (ds.drop (i + 1)) S1 = some S'), fun H' z => z, fun x H' y => ?_⟩
    obtain ⟨d, P2, hd, gr, rd'⟩ := w.yld i P1 H1 x H' e1 R1.fr hlt y
    obtain ⟨R2, e3⟩ := gr.relH R1
    have RG2 : RelG K P2 (L ++ [Dn]) (wipe σ vs) (wipeG G vs) := RelG.mono (e1.trans e3) (LExt.app L [Dn]) RGw
    have ed : ds.drop i = d :: ds.drop (i + 1) := by
      obtain ⟨z1, z2⟩ := List.getElem?_eq_some_iff.mp hd
      rw [← z2]
      exact List.drop_eq_getElem_cons z1
    rw [ed] at e2
    simp only [lcL] at e2
    cases e4 : g (.v d) (wipeG G vs) S1 with
    | none => rw [e4] at e2; cases e2
    | some p =>
      obtain ⟨G2, S2⟩ := p
      rw [e4] at e2
      refine ⟨P2, _, _, S1, .v d, G2, S2, R2, RG2, rd', e4, fun P3 L3 σ3 H3 w3 e5 l5 R3 RG3 => ⟨w3.trans (ww σ), ?_⟩⟩
      simp only at e2
      cases e6 : tt G2 S2 with
      | none => rw [e6] at e2; cases e2
      | some r =>
        rw [e6] at e2
        cases r with
        | er c f S3 => cases e2
        | ok b S3 =>
          refine ⟨P3, L3, G2, S2, _, R3, RG3, e6, fun P4 L4 H4 b' e7 l7 R4 eb => ?_⟩
          have eb' : b = b' := eb
          subst eb'
          have RG4 := RelG.mono e7 l7 RG3
          cases b with
          | false =>
            refine iteF ?_
            simp only at e2
            by_cases c : (S3.take (S.length + 1)).all (MO.below (S.length + 1)) = true
            · rw [if_pos c] at e2
              have R5 := R4.cut (S.length + 1) c
              have eL : L4.take (S.length + 1) = L ++ [Dn] := by rw [← hLn]; exact (l5.trans l7).take_eq
              rw [eL] at R5
              exact ⟨_, by omega, rfl, hlt, _, _, (((e1.trans e3).trans e5).trans e7).trans (still_same R4 _), R5, e2⟩
            · rw [if_neg c] at e2; cases e2
          | true =>
            refine iteT ?_
            simp only at e2
            cases e8 : fe G2 S3 with
            | none => rw [e8] at e2; cases e2
            | some r2 =>
              rw [e8] at e2
              cases r2 with
              | er c f S4 => cases e2
              | ok xv S4 =>
                refine ⟨P4, L4, G2, S3, _, R4, RG4, e8, fun P5 L5 H5 yv e9 l9 R5 rv => ?_⟩
                simp only at e2
                cases e10 : thaw S4 (S.length + 1) xv with
                | none => rw [e10] at e2; cases e2
                | some sv =>
                  cases sv with
                  | o j => rw [e10] at e2; cases e2
                  | x _ _ _ => rw [e10] at e2; cases e2
                  | v yd =>
                    rw [e10] at e2
                    cases e11 : S4[S.length]? with
                    | none => rw [e11] at e2; cases e2
                    | some mo =>
                      rw [e11] at e2
                      cases mo with
                      | lst acc =>
                        simp only at e2
                        by_cases c : (S4.take (S.length + 1)).all (MO.below (S.length + 1)) = true ∧ acc.length < lineN
                        · rw [if_pos c] at e2
                          have eL : L5.take (S.length + 1) = L ++ [Dn] := by rw [← hLn]; exact ((l5.trans l7).trans l9).take_eq
                          have R6 := R5.cut (S.length + 1) c.1
                          have rv6 := thaw_rep R5 e10 rv
                          rw [eL] at R6 rv6
                          have hat : (L ++ [Dn])[S.length]? = some Dn := by rw [← hL]; simp
                          have hS : (S4.take (S.length + 1))[S.length]? = some (.lst acc) := by rw [List.getElem?_take_of_lt (by omega)]; exact e11
                          obtain ⟨ho, k1, k2⟩ := R6.ob _ _ _ hS hat
                          obtain ⟨accV, rfl, k3⟩ := k2
                          refine ⟨accV, k1, by rw [k3.len, sizeLine_eq]; exact c.2, _, by omega, rfl, hlt, _, _, ((((e1.trans e3).trans e5).trans e7).trans e9).trans (still_same R5 _), R6.write hat hS rfl (o := .lst (acc ++ [yd])) (ho := .lst (accV ++ [yv])) ⟨_, rfl, k3.app (RepDs.cons rv6 RepDs.nil)⟩, e2⟩
                        · rw [if_neg c] at e2; cases e2
                      | _ => cases e2
  · left
    have ei : i = ds.length := by omega
    subst ei
    rw [List.drop_length] at e2
    simp only [lcL] at e2
    cases e2
    exact ⟨w.stop _ H1 (e1.trans R1.fr) rfl, q P1 H1 e1 R1⟩
end
section
variable {X : Cx} {W : WX} {elt tg iter : Expr} {ifs : List Expr} {scope : Scope} {own : List (Str × Nat)} {pos : Pos} {fi : Mm (List D)} {g : Mg} {tt : Mm Bool} {fe : Mm SV}
theorem ev_lc {K : PySem.W.Frag} {mg : Str → Option Value} {vs : List Nat} {wi : TI} (h1 : EvI K mg W wi fi) : EvR K mg (rV K) W (tLc wi (tgwOf K mg vs g) (tOf K mg rB W0 tt) (tOf K mg (rV K) W0 fe) vs) (mLc vs fi g tt fe) := by
  intro P L σ H G S R RG
  refine At.bind (t := wi) RG (h1 P L σ H G S R RG) fun P1 L1 H1 S1 ds J e1 l1 R1 RG1 w => ?_
  intro r h Q q Dn hD
  cases e2 : lcL S1.length g tt fe (wipeG G vs) ds (S1 ++ [.lst []]) with
  | none => rw [e2] at h; cases h
  | some S' =>
    rw [e2] at h
    simp only at h
    cases e3 : S'[S1.length]? with
    | none => rw [e3] at h; cases h
    | some mo =>
      rw [e3] at h
      cases mo with
      | lst acc =>
        simp only at h
        by_cases c : (S'.take S1.length).all (MO.below S1.length) = true
        · rw [if_pos c] at h
          cases h
          refine lc_turns R1 RG1 w hD e2 fun P' H' e4 R2 => ?_
          have R3 := R2.cut S1.length c
          have eL : (L1 ++ [Dn]).take S1.length = L1 := by rw [← R1.len]; simp
          rw [eL] at R3
          refine q _ L1 H' _ (e4.trans (still_same R2 _)) (LExt.refl _) R3 ?_
          have hat : (L1 ++ [Dn])[S1.length]? = some Dn := by rw [← R1.len]; simp
          have := thaw_rep R2 (n := S1.length) (x := .o S1.length) (y := .v (.lst acc)) (v := .ref Dn) (by simp [thaw, snapO, e3]) ⟨Dn, rfl, hat⟩
          exact this
        · rw [if_neg c] at h; cases h
      | _ => cases h
theorem ev_lcO {K : PySem.W.Frag} {mg : Str → Option Value} {vs : List Nat} {wi : TI} (h1 : EvI K mg W wi fi) : EvR K mg (rV K) W (tLc wi (tgwOf K mg vs g) (tOf K mg rB W0 tt) (tOf K mg (rV K) W0 fe) vs) (mLcO vs fi g tt fe) := by
  intro P L σ H G S R RG
  refine At.bind (t := wi) RG (h1 P L σ H G S R RG) fun P1 L1 H1 S1 ds J e1 l1 R1 RG1 w => ?_
  intro r h Q q Dn hD
  cases e2 : lcL S1.length g tt fe (wipeG G vs) ds (S1 ++ [.lst []]) with
  | none => rw [e2] at h; cases h
  | some S' =>
    rw [e2] at h
    cases h
    refine lc_turns R1 RG1 w hD e2 fun P' H' e4 R2 => ?_
    have hat : (L1 ++ [Dn])[S1.length]? = some Dn := by rw [← R1.len]; simp
    exact q P' (L1 ++ [Dn]) H' _ e4 (LExt.app _ _) R2 ⟨Dn, rfl, hat⟩
theorem se_lc (hc : X.calm = true) (hN : X.N.Nodup) (hi : SI X W tg iter fi) (ok : BlkOk X.N X.env.scope scope own)
    (hg : ∀ (s : Shared) (H : Hp) (C : Addr) (cl : List (Str × Addr)) (fp : List Addr), SGw (X.blk s H scope (compEnvC scope cl C X.env) fp) (own.map (·.2)) tg g)
    (ht : ∀ (s : Shared) (H : Hp) (C : Addr) (cl : List (Str × Addr)) (fp : List Addr), STs (X.blk s H scope (compEnvC scope cl C X.env) fp) ifs tt)
    (he : ∀ (s : Shared) (H : Hp) (C : Addr) (cl : List (Str × Addr)) (fp : List Addr), SE (X.blk s H scope (compEnvC scope cl C X.env) fp) W0 elt fe) (hs : ∀ x, foldedSetIterable iter X.env x = pure x := by intro _; rfl) :
    SE X W (.ListComp elt [⟨tg, iter, ifs, 0⟩] scope pos) (mLc (own.map (·.2)) fi g tt fe) := by
  obtain ⟨wi, a1, a2⟩ := hi
  exact ⟨_, pe_lc hc hN a1 ok (fun s H C cl fp => (hg s H C cl fp).pg) (fun s H C cl fp => (ht s H C cl fp).pts) (fun s H C cl fp => (he s H C cl fp).pe) hs, ev_lc a2⟩
theorem se_lcO (hc : X.calm = true) (hN : X.N.Nodup) (hi : SI X W tg iter fi) (ok : BlkOk X.N X.env.scope scope own)
    (hg : ∀ (s : Shared) (H : Hp) (C : Addr) (cl : List (Str × Addr)) (fp : List Addr), SGw (X.blk s H scope (compEnvC scope cl C X.env) fp) (own.map (·.2)) tg g)
    (ht : ∀ (s : Shared) (H : Hp) (C : Addr) (cl : List (Str × Addr)) (fp : List Addr), STs (X.blk s H scope (compEnvC scope cl C X.env) fp) ifs tt)
    (he : ∀ (s : Shared) (H : Hp) (C : Addr) (cl : List (Str × Addr)) (fp : List Addr), SE (X.blk s H scope (compEnvC scope cl C X.env) fp) W0 elt fe) (hs : ∀ x, foldedSetIterable iter X.env x = pure x := by intro _; rfl) :
    SE X W (.ListComp elt [⟨tg, iter, ifs, 0⟩] scope pos) (mLcO (own.map (·.2)) fi g tt fe) := by
  obtain ⟨wi, a1, a2⟩ := hi
  exact ⟨_, pe_lc hc hN a1 ok (fun s H C cl fp => (hg s H C cl fp).pg) (fun s H C cl fp => (ht s H C cl fp).pts) (fun s H C cl fp => (he s H C cl fp).pe) hs, ev_lcO a2⟩
/-- y = [..] -/
theorem ss_setLc (i : Nat) {y : Str} {py spos : Pos} (hc : X.calm = true) (hN : X.N.Nodup) (hy : X.N[i]? = some y) (hyl : X.env.scope.names.lookup y = some .local)
    (hsw : swapsWith (.ListComp elt [⟨tg, iter, ifs, 0⟩] scope pos) (some (.Name y py)) spos.line X.env = pure true) (hi : SI X W tg iter fi) (ok : BlkOk X.N X.env.scope scope own)
    (hg : ∀ (s : Shared) (H : Hp) (C : Addr) (cl : List (Str × Addr)) (fp : List Addr), SGw (X.blk s H scope (compEnvC scope cl C X.env) fp) (own.map (·.2)) tg g)
    (ht : ∀ (s : Shared) (H : Hp) (C : Addr) (cl : List (Str × Addr)) (fp : List Addr), STs (X.blk s H scope (compEnvC scope cl C X.env) fp) ifs tt)
    (he : ∀ (s : Shared) (H : Hp) (C : Addr) (cl : List (Str × Addr)) (fp : List Addr), SE (X.blk s H scope (compEnvC scope cl C X.env) fp) W0 elt fe) (hs : ∀ x, foldedSetIterable iter X.env x = pure x := by intro _; rfl) :
    SS X W (.Assign [.Name y py] (.ListComp elt [⟨tg, iter, ifs, 0⟩] scope pos) spos) (sAsg (mLc (own.map (·.2)) fi g tt fe) (gSet i)) := by
  obtain ⟨wi, a1, a2⟩ := hi
  exact ⟨_, ps_setLc hc hN hy hyl hsw a1 ok (fun s H C cl fp => (hg s H C cl fp).pg) (fun s H C cl fp => (ht s H C cl fp).pts) (fun s H C cl fp => (he s H C cl fp).pe) hs, ev_asg (ev_lc a2) ev_gName⟩
theorem ss_setLcO (i : Nat) {y : Str} {py spos : Pos} (hc : X.calm = true) (hN : X.N.Nodup) (hy : X.N[i]? = some y) (hyl : X.env.scope.names.lookup y = some .local)
    (hsw : swapsWith (.ListComp elt [⟨tg, iter, ifs, 0⟩] scope pos) (some (.Name y py)) spos.line X.env = pure true) (hi : SI X W tg iter fi) (ok : BlkOk X.N X.env.scope scope own)
    (hg : ∀ (s : Shared) (H : Hp) (C : Addr) (cl : List (Str × Addr)) (fp : List Addr), SGw (X.blk s H scope (compEnvC scope cl C X.env) fp) (own.map (·.2)) tg g)
    (ht : ∀ (s : Shared) (H : Hp) (C : Addr) (cl : List (Str × Addr)) (fp : List Addr), STs (X.blk s H scope (compEnvC scope cl C X.env) fp) ifs tt)
    (he : ∀ (s : Shared) (H : Hp) (C : Addr) (cl : List (Str × Addr)) (fp : List Addr), SE (X.blk s H scope (compEnvC scope cl C X.env) fp) W0 elt fe) (hs : ∀ x, foldedSetIterable iter X.env x = pure x := by intro _; rfl) :
    SS X W (.Assign [.Name y py] (.ListComp elt [⟨tg, iter, ifs, 0⟩] scope pos) spos) (sAsg (mLcO (own.map (·.2)) fi g tt fe) (gSet i)) := by
  obtain ⟨wi, a1, a2⟩ := hi
  exact ⟨_, ps_setLc hc hN hy hyl hsw a1 ok (fun s H C cl fp => (hg s H C cl fp).pg) (fun s H C cl fp => (ht s H C cl fp).pts) (fun s H C cl fp => (he s H C cl fp).pe) hs, ev_asg (ev_lcO a2) ev_gName⟩
end
end DL

/-! The D layer, part 7: defs, calls, errors. -/
namespace DL
open PySem L2

/-! ### defs -/
abbrev Fn := List SV → Sto → Option (Rs SV)
/-- behind a call: what it made is let go, but what it hands back -/
def finT (n : Nat) (x : SV) (S : Sto) : Option (Rs SV) := match thaw S n x with
  | some y => if (S.take n).all (MO.below n) = true then some (.ok y (S.take n)) else none
  | none => none
def finE (n : Nat) (c : Str) (f : Option (Str × D)) (S : Sto) : Option (Rs SV) := if (S.take n).all (MO.below n) = true then some (.er c f (S.take n)) else none
def fnD (n N : Nat) (body : Ms) : Fn := fun xs S => if xs.length = n then match body (xs.map some ++ List.replicate (N - n) none) S with
    | some (.nx _ S') => finT S.length (.v .non) S'
    | some (.rt x S') => finT S.length x S'
    | some (.er c f _ S') => finE S.length c f S'
    | _ => none
  else none
/-- .. where what was made stays -/
def fnDO (n N : Nat) (body : Ms) : Fn := fun xs S => if xs.length = n then match body (xs.map some ++ List.replicate (N - n) none) S with
    | some (.nx _ S') => some (.ok (.v .non) S')
    | some (.rt x S') => some (.ok x S')
    | some (.er c f _ S') => some (.er c f S')
    | _ => none
  else none
def spD (K : PySem.W.Frag) (mg : Str → Option Value) (F : Fn) : Sp := fun vs H Q E => ∃ P L S xs r, RelH K mg P L H S ∧ RepVs K P L xs vs ∧ F xs S = some r ∧ PostR K mg (rV K) (fun cls d _ H => E cls d H) P L [] r Q
theorem start_rep {K : PySem.W.Frag} {P : Hp} {L : List Addr} {N : List Str} {xs : List SV} {vs : List V} (r : RepVs K P L xs vs) : RelG K P L (L2.start N vs) (xs.map some ++ List.replicate (N.length - xs.length) none) := by
  have hl := r.len
  refine ⟨by simp [L2.start, hl], fun i x e => ?_⟩
  by_cases hi : i < xs.length
  · rw [List.getElem?_append_left (by simpa using hi), List.getElem?_map] at e
    obtain ⟨y, h1, h2⟩ := Option.map_eq_some_iff.mp e
    cases h2
    obtain ⟨v, k1, k2⟩ := r.get h1
    refine ⟨v, ?_, k2⟩
    unfold L2.start
    rw [List.getElem?_append_left (by simp; omega), List.getElem?_map, k1]
    rfl
  · rw [List.getElem?_append_right (by simpa using hi)] at e
    obtain ⟨z, h1⟩ := List.getElem?_eq_some_iff.mp e
    simp at h1
section
variable {P : Program} {w : World} {K : PySem.W.Frag} {mg : Str → Option Value} {base : Heap}
theorem finT_post {P : Hp} {L L' : List Addr} {H : Hp} {S' : Sto} {x : SV} {v : V} {n : Nat} {r : Rs SV} {W : WX} {Q : VK} (R : RelH K mg P L' H S') (rx : RepV K P L' x v) (l : LExt L L') (hn : L.length = n) (h : finT n x S' = some r) {P0 : Hp} (e : Same P0 P) (q : PostR K mg (rV K) W P0 L [] r Q) : Q v H := by
  unfold finT at h
  cases e1 : thaw S' n x with
  | none => rw [e1] at h; cases h
  | some y =>
    rw [e1] at h
    have h' : (if (S'.take n).all (MO.below n) = true then some (Rs.ok y (S'.take n)) else none) = some r := h
    by_cases c : (S'.take n).all (MO.below n) = true
    · rw [if_pos c] at h'
      cases h'
      have eL : L'.take n = L := by rw [← hn]; exact l.take_eq
      have R2 := R.cut n c
      have r2 := thaw_rep R e1 rx
      rw [eL] at R2 r2
      exact q _ L H v (e.trans (still_same R n)) (LExt.refl _) R2 r2
    · rw [if_neg c] at h'; cases h'
theorem ExcR.mono {P P' : Hp} (e : Same P P') {c : Str} {f : Option (Str × D)} {H : Hp} {C : Addr} {dx : Option Addr} (h : ExcR K mg P c f H C dx) : ExcR K mg P' c f H C dx := by
  refine ⟨h.1, ?_⟩
  cases f with
  | none => exact h.2
  | some p =>
    obtain ⟨n, d⟩ := p
    obtain ⟨a, v, q1, q2, q3⟩ := h.2
    exact ⟨a, v, q1, e _ _ q2, q3.mono e⟩
theorem finE_post {P : Hp} {L L' : List Addr} {H : Hp} {S' : Sto} {c : Str} {f : Option (Str × D)} {C : Addr} {dx : Option Addr} {n : Nat} {r : Rs SV} {W : WX} {Q : VK} (R : RelH K mg P L' H S') (rx : ExcR K mg P c f H C dx) (l : LExt L L') (hn : L.length = n) (h : finE n c f S' = some r) {P0 : Hp} (e : Same P0 P) (q : PostR K mg (rV K) W P0 L [] r Q) : W (.ref C) dx [] H := by
  unfold finE at h
  by_cases cc : (S'.take n).all (MO.below n) = true
  · rw [if_pos cc] at h
    cases h
    have eL : L'.take n = L := by rw [← hn]; exact l.take_eq
    have R2 := R.cut n cc
    rw [eL] at R2
    exact q _ L H C dx (e.trans (still_same R n)) (LExt.refl _) R2 (rx.mono (still_same R n))
  · rw [if_neg cc] at h; cases h
abbrev WEx (E : XK) : WX := fun cls d _ H => E cls d H
theorem fn_D {x qual : Str} {st : Stmt} {f : Addr} {fd : FuncData} {N ps : List Str} {k : Nat} {body : Ms} (F : Fun K x qual st f fd) (S : FnScope N ps (defScope st))
    (h : ∀ (cdv : Value) (A : Around) (outer : List Env) (s : Shared) (H : Hp) (E : XK), Room k (A.deeper (PyProof.Rows.envOfC qual (defScope st) s.heap.objs.size f cdv)) → SSs (cxOf (L2.CX P w) P w K mg base N qual (defScope st) f cdv A outer s H E) (WEx E) (defBody st) body) :
    FnOk P w K mg base (L2.CX P w) (k + 1) f fd ps (spD K mg (fnD ps.length N.length body)) := by
  refine F.okX S (fun vs H Q E hs => ?_) fun cdv A outer s H vs Q E hr hs => ?_
  · obtain ⟨P, L, S, xs, r, R, rx, e, _⟩ := hs
    rw [rx.len]
    unfold fnD at e
    by_cases c : xs.length = ps.length
    · exact c
    · rw [if_neg c] at e; cases e
  · obtain ⟨P1, L, S1, xs, r, R, rx, e, q⟩ := hs
    obtain ⟨t, h1, h2⟩ := h cdv A outer s H E hr
    refine ⟨t, h1, ?_⟩
    unfold fnD at e
    by_cases c : xs.length = ps.length
    · rw [if_pos c] at e
      have hl := R.len
      have RG := start_rep (N := N) rx
      rw [c] at RG
      cases e1 : body (xs.map some ++ List.replicate (N.length - ps.length) none) S1 with
      | none => rw [e1] at e; cases e
      | some o =>
        rw [e1] at e
        refine h2 P1 L _ H _ S1 R RG o e1 _ ?_
        cases o with
        | nx G' S' => exact fun P' L' σ' H' e2 l2 R2 RG2 => finT_post R2 (x := .v .non) (v := .non) (by simp only [RepV, RepD]) l2 hl e e2 q
        | rt y S' => exact fun P' L' H' v e2 l2 R2 rv => finT_post R2 rv l2 hl e e2 q
        | er c f G' S' => exact fun P' L' σ' H' C dx e2 l2 R2 RG2 ex => finE_post (W := WEx E) R2 ex l2 hl e e2 q
        | bk G' S' => cases e
        | ct G' S' => cases e
    · rw [if_neg c] at e; cases e
theorem fn_DO {x qual : Str} {st : Stmt} {f : Addr} {fd : FuncData} {N ps : List Str} {k : Nat} {body : Ms} (F : Fun K x qual st f fd) (S : FnScope N ps (defScope st))
    (h : ∀ (cdv : Value) (A : Around) (outer : List Env) (s : Shared) (H : Hp) (E : XK), Room k (A.deeper (PyProof.Rows.envOfC qual (defScope st) s.heap.objs.size f cdv)) → SSs (cxOf (L2.CX P w) P w K mg base N qual (defScope st) f cdv A outer s H E) (WEx E) (defBody st) body) :
    FnOk P w K mg base (L2.CX P w) (k + 1) f fd ps (spD K mg (fnDO ps.length N.length body)) := by
  refine F.okX S (fun vs H Q E hs => ?_) fun cdv A outer s H vs Q E hr hs => ?_
  · obtain ⟨P, L, S, xs, r, R, rx, e, _⟩ := hs
    rw [rx.len]
    unfold fnDO at e
    by_cases c : xs.length = ps.length
    · exact c
    · rw [if_neg c] at e; cases e
  · obtain ⟨P1, L, S1, xs, r, R, rx, e, q⟩ := hs
    obtain ⟨t, h1, h2⟩ := h cdv A outer s H E hr
    refine ⟨t, h1, ?_⟩
    unfold fnDO at e
    by_cases c : xs.length = ps.length
    · rw [if_pos c] at e
      have RG := start_rep (N := N) rx
      rw [c] at RG
      cases e1 : body (xs.map some ++ List.replicate (N.length - ps.length) none) S1 with
      | none => rw [e1] at e; cases e
      | some o =>
        rw [e1] at e
        refine h2 P1 L _ H _ S1 R RG o e1 _ ?_
        cases o with
        | nx G' S' => cases e; exact fun P' L' σ' H' e2 l2 R2 RG2 => q P' L' H' .non e2 l2 R2 (by simp only [rV, RepV, RepD])
        | rt y S' => cases e; exact fun P' L' H' v e2 l2 R2 rv => q P' L' H' v e2 l2 R2 rv
        | er c f G' S' => cases e; exact fun P' L' σ' H' C dx e2 l2 R2 RG2 ex => q P' L' H' C dx e2 l2 R2 ex
        | bk G' S' => cases e
        | ct G' S' => cases e
    · rw [if_neg c] at e; cases e
/-- a denotation may be replaced by one that is more often none -/
theorem fn_imp {f : Addr} {fd : FuncData} {ps : List Str} {k : Nat} {F F' : Fn} (h : FnOk P w K mg base (L2.CX P w) k f fd ps (spD K mg F)) (i : ∀ xs S r, F' xs S = some r → F xs S = some r) : FnOk P w K mg base (L2.CX P w) k f fd ps (spD K mg F') :=
  h.imp fun vs H Q E ⟨P, L, S, xs, r, R, rx, e, q⟩ => ⟨P, L, S, xs, r, R, rx, i xs S r e, q⟩
end
def mCall (F : Fn) (f : Mm (List SV)) : Mm SV := f.bind fun xs => fun _ S => F xs S
section
variable {X : Cx} {W : WX} {k : Nat} {f : Addr} {fd : FuncData} {ps : List Str} {F : Fn} {x : Str} {p pos : Pos} {e : Expr} {es : List Expr} {fa : Mm (List SV)}
theorem PostR.wish {K : PySem.W.Frag} {mg : Str → Option Value} {α β : Type} {rep : Hp → List Addr → α → β → Prop} {W W' : WX} {P : Hp} {L : List Addr} {σ σ' : St} {r : Rs α} {Q : β → Hp → Prop} (h : PostR K mg rep W P L σ r Q) (w : ∀ C dx H, W (.ref C) dx σ H → W' (.ref C) dx σ' H) : PostR K mg rep W' P L σ' r Q := by
  cases r with
  | ok a S => exact h
  | er c f S => exact fun P' L' H' C dx e1 l1 R1 x1 => w C dx H' (h P' L' H' C dx e1 l1 R1 x1)
theorem se_call (G : FnOk X.prog X.w X.K X.mg X.base (L2.CX X.prog X.w) k f fd ps (spD X.K X.mg F)) (hr : Room k X.A) (hg : Gl X x) (hm : X.mg x = some (.ref f)) (hk : PySem.W.keepIn X.K (.ref f) = true) (hb : Binds X.K fd ps []) (tk : Takes X W) (ha : SA X W (e :: es) fa)
    (hdb : (x == ("__debug__" : Str)) = false := by decide) (he : starEach (e :: es) X.env = (false, eval e X.env) :: starEach es X.env := by rfl) (hpl : (backTo pos (starEach es X.env)).any (·.1) = false := by rfl) : SE X W (.Call (.Name x p) (e :: es) [] pos) (mCall F fa) := by
  obtain ⟨t, a1, a2⟩ := ha
  refine ⟨_, pe_callS G hr hg hm hk hb (fun σ => passAt tk σ) a1 hdb he hpl, fun P L σ H Gs S R RG => ?_⟩
  refine At.bind (t := t) (k := fun vs σ H1 Q => spD X.K X.mg F vs H1 Q (WE W σ)) RG (a2 P L σ H Gs S R RG) fun P1 L1 H1 S1 xs vs e1 l1 R1 RG1 rx => ?_
  intro r h Q q
  exact ⟨P1, L1, S1, xs, r, R1, rx, h, q.wish fun C dx H z => z⟩
def mCall0 (F : Fn) : Mm SV := fun _ S => match F [] S with
  | some (.ok y S') => some (.ok y S')
  | _ => none
theorem se_call0 (G : FnOk X.prog X.w X.K X.mg X.base (L2.CX X.prog X.w) k f fd ps (spD X.K X.mg F)) (hr : Room k X.A) (hg : Gl X x) (hm : X.mg x = some (.ref f)) (hk : PySem.W.keepIn X.K (.ref f) = true) (hb : Binds X.K fd ps [])
    (hdb : (x == ("__debug__" : Str)) = false := by decide) : SE X W (.Call (.Name x p) [] [] pos) (mCall0 F) := by
  refine ⟨_, pe_call0 (E := E0) (dvs := []) G hr hg hm hk hb .nil passL hdb, fun P L σ H Gs S R RG r h Q q => ?_⟩
  unfold mCall0 at h
  cases e1 : F [] S with
  | none => rw [e1] at h; cases h
  | some r1 =>
    rw [e1] at h
    cases r1 with
    | er c f S' => cases h
    | ok y S' =>
      cases h
      exact ⟨P, L, S, [], _, R, rfl, e1, q⟩
end

/-! ### raise -/
section
variable {X : Cx} {W : WX} {C : Addr} {bmB : List Value} {B newId initId : String} {x : Str} {p pos pos2 : Pos}
/-- X() of an own class of errors without an own __init__ -/
theorem pmk_ownZ (F : ExcBaseFacts B newId initId bmB) (q : PySem.W.excIn X.K C bmB newId = true) (gC : X.mg x = some (.ref C)) (kC : PySem.W.keepIn X.K (.ref C) = true) (r : Raises X (.ref C)) (hg : Gl X x) (hdb : (x == ("__debug__" : Str)) = false := by decide) :
    PMk X (.Call (.Name x p) [] [] pos) (fun _ H Q => Q (.ref C) none H) := by
  intro pins s σ H Q I h
  obtain ⟨bm, N, nm, qn, bs, hdct, sn, sub, ab, col, dd, k0, k1, k2, k3, k5, mN, hC, hN, hni, T⟩ := exc_obj I.kIn q
  refine wpAny_Call_Name_kw (ld_glob I hg gC (PySem.W.callWith_K0 I.kIn kC ?_) hdb)
  exact wpAny_call_exc_subT (rest := []) F T hC hN hni (fun h' e hm => mk_of I hm r h (I.hok.gone hm.new)) (Nat.zero_le _)
def sRaise (c : Str) : Ms := fun G S => some (.er c none G S)
theorem ss_raise (F : ExcBaseFacts B newId initId bmB) (q : PySem.W.excIn X.K C bmB newId = true) (gC : X.mg x = some (.ref C)) (kC : PySem.W.keepIn X.K (.ref C) = true) (r : Raises X (.ref C)) (hc : X.calm = true) (tk : Takes X W) (hg : Gl X x) (hdb : (x == ("__debug__" : Str)) = false := by decide) :
    SS X W (.Raise (some (.Call (.Name x p) [] [] pos)) none pos2) (sRaise x) := by
  refine ⟨_, ps_raise hc tk (pmk_ownZ F q gC kC r hg hdb), fun P L σ H G S R RG o e Dn z => ?_⟩
  cases e
  exact z P L σ H C none (Same.refl _) (LExt.refl _) R RG ⟨gC, rfl⟩
end

/-! ### try -/
/-- whether an error of the one class is caught by a clause of the other: told by a table -/
abbrev Catches := Str → Str → Option Bool
structure CatOk (K : PySem.W.Frag) (mg : Str → Option Value) (T : Catches) : Prop where
  ok : ∀ c c' b C C', T c c' = some b → mg c = some (.ref C) → mg c' = some (.ref C') → PySem.W.exmOne K (.ref C) (.ref C') = some b
/-- the suites behind the clauses; none lets an error out -/
def noEr (g : Ms) : Ms := fun G S => match g G S with
  | some (.er _ _ _ _) => none
  | o => o
def sHand (T : Catches) (c : Str) (f : Option (Str × D)) : List (Str × Ms) → Ms
  | [] => fun G S => some (.er c f G S)
  | (c', g) :: r => match T c c' with
    | some true => noEr g
    | some false => sHand T c f r
    | none => fun _ _ => none
def sTry (T : Catches) (b : Ms) (hs : List (Str × Ms)) : Ms := fun G S => match b G S with
  | some (.er c f G' S') => sHand T c f hs G' S'
  | o => o
/-- a suite in which the error is not spoken of -/
def SSu (X : Cx) (st : List Stmt) (g : Ms) : Prop := ∀ (a : Addr) (oe : Obj) (cls : Value) (d : Option Addr) (pn : List (Addr × Obj)), Zc cls d oe → (∃ vs, oe.data = .fields vs) → SSs (X.suite a ((a, oe) :: pn)) W0 st g
inductive HdsD (X : Cx) : List ExceptHandler → List (Str × Addr × Ms) → Prop
  | nil : HdsD X [] []
  | cons {x : Str} {C : Addr} {b₀ : Stmt} {suite : List Stmt} {np pos' : Pos} {hds : List ExceptHandler} {l : List (Str × Addr × Ms)} {g : Ms} (hg : Gl X x) (hm : X.mg x = some (.ref C)) (hd : (x == ("__debug__" : Str)) = false) (hsu : SSu X (b₀ :: suite) g) (r : HdsD X hds l) :
      HdsD X (.ExceptHandler (some (.Name x np)) none (b₀ :: suite) pos' :: hds) ((x, C, g) :: l)
theorem HdsD.ok {X : Cx} {hds : List ExceptHandler} {l : List (Str × Addr × Ms)} (h : HdsD X hds l) : HdsOk X hds (l.map fun p => (Value.ref p.2.1, fun _ _ _ => tsOf X.K X.mg W0 p.2.2)) := by
  induction h with
  | nil => exact .nil
  | cons hg hm hd hsu r ih => exact .cons ⟨hg, hd, .inl hm⟩ (fun a oe cls d pn hz hf => (hsu a oe cls d pn hz hf).pss) ih
theorem HdsD.mgs {X : Cx} {hds : List ExceptHandler} {l : List (Str × Addr × Ms)} (h : HdsD X hds l) : ∀ p ∈ l, X.mg p.1 = some (.ref p.2.1) := by
  induction h with
  | nil => intro p hp; cases hp
  | cons hg hm hd hsu r ih =>
    intro p hp
    rcases List.mem_cons.mp hp with e | e
    · subst e; exact hm
    · exact ih p e
theorem PostS.noW {K : PySem.W.Frag} {mg : Str → Option Value} {W W' : WX} {P : Hp} {L : List Addr} {o : Out} {Dn : Ends} (h : PostS K mg W P L o Dn) (ne : ∀ c f G S, o ≠ .er c f G S) : PostS K mg W' P L o Dn := by
  cases o with
  | er c f G S => exact absurd rfl (ne c f G S)
  | nx G S => exact h
  | rt x S => exact h
  | bk G S => exact h
  | ct G S => exact h
theorem noEr_of {g : Ms} {G : Sl} {S : Sto} {o : Out} (h : noEr g G S = some o) : g G S = some o ∧ ∀ c f G' S', o ≠ .er c f G' S' := by
  unfold noEr at h
  cases e : g G S with
  | none => rw [e] at h; cases h
  | some o1 =>
    rw [e] at h
    cases o1 with
    | er c f G' S' => cases h
    | nx G' S' => cases h; exact ⟨rfl, fun _ _ _ _ z => by cases z⟩
    | rt x S' => cases h; exact ⟨rfl, fun _ _ _ _ z => by cases z⟩
    | bk G' S' => cases h; exact ⟨rfl, fun _ _ _ _ z => by cases z⟩
    | ct G' S' => cases h; exact ⟨rfl, fun _ _ _ _ z => by cases z⟩
theorem hand_ok {K : PySem.W.Frag} {mg : Str → Option Value} {T : Catches} (TC : CatOk K mg T) {W : WX} {P : Hp} {L : List Addr} {σ : St} {H : Hp} {G : Sl} {S : Sto} {c : Str} {f : Option (Str × D)} {C : Addr} {dx : Option Addr} (R : RelH K mg P L H S) (RG : RelG K P L σ G) (ex : ExcR K mg P c f H C dx) {Dn : Ends} {o : Out} :
    ∀ {l : List (Str × Addr × Ms)}, (∀ p ∈ l, mg p.1 = some (.ref p.2.1)) → sHand T c f (l.map fun p => (p.1, p.2.2)) G S = some o → PostS K mg W P L o Dn →
      wMany K W Dn (l.map fun p => (Value.ref p.2.1, fun _ _ _ => tsOf K mg W0 p.2.2)) (.ref C) dx σ H
  | [], _, h, q => by
    cases h
    exact q P L σ H C dx (Same.refl _) (LExt.refl _) R RG ex
  | (x, C', g) :: r, hm, h, q => by
    have h' : sHand T c f ((x, g) :: r.map fun p => (p.1, p.2.2)) G S = some o := h
    unfold sHand at h'
    cases e1 : T c x with
    | none => rw [e1] at h'; cases h'
    | some b =>
      rw [e1] at h'
      refine ⟨b, TC.ok c x b C C' e1 ex.1 (hm _ List.mem_cons_self), ?_, ?_⟩
      · intro hb
        subst hb
        intro a ha
        obtain ⟨h1, h2⟩ := noEr_of h'
        exact ⟨P, L, G, S, o, R, RG, h1, q.noW h2⟩
      · intro hb
        subst hb
        exact hand_ok TC R RG ex (fun p hp => hm p (List.mem_cons_of_mem _ hp)) h' q
section
variable {X : Cx} {W : WX} {T : Catches} {body : List Stmt} {h₀ : ExceptHandler} {hds : List ExceptHandler} {l : List (Str × Addr × Ms)} {b : Ms} {pos : Pos}
theorem ss_try (TC : CatOk X.K X.mg T) (hs : X.stack = X.env :: X.outer) (hf : X.env.frame = some X.env.locals) (tk : Takes X W)
    (hb : ∀ (W : WX) (pn : List (Addr × Obj)) (xe : Value → Shared → Prop), Takes (X.tr pn xe) W → PassesOwn (model X.prog X.w) X.A X.env xe → SSs (X.tr pn xe) W body b)
    (hh : HdsD X (h₀ :: hds) l) : SS X W (.Try body (h₀ :: hds) [] [] pos) (sTry T b (l.map fun p => (p.1, p.2.2))) := by
  refine ⟨_, ps_try_many (tb := fun W => tsOf X.K X.mg W b) hs hf tk (fun W pn xe tk' ho => (hb W pn xe tk' ho).pss) hh.ok, fun P L σ H G S R RG o e Dn q => ?_⟩
  unfold sTry at e
  cases e1 : b G S with
  | none => rw [e1] at e; cases e
  | some o1 =>
    rw [e1] at e
    refine ⟨P, L, G, S, o1, R, RG, e1, ?_⟩
    cases o1 with
    | nx G' S' => cases e; exact q
    | rt x S' => cases e; exact q
    | bk G' S' => cases e; exact q
    | ct G' S' => cases e; exact q
    | er c f G' S' => exact fun P' L' σ' H' C dx e2 l2 R2 RG2 ex => hand_ok TC R2 RG2 ex hh.mgs e (q.mono e2 l2)
end
end DL

/-! The D layer, part 8: built-ins, methods. -/
namespace DL
open PySem L2

/-! ### in, not in; is -/
def flatD : D → Bool
  | .non => true
  | .bl _ => true
  | .int _ => true
  | .str _ => true
  | _ => false
theorem flat_rep {K : PySem.W.Frag} {P : Hp} {d : D} {v : V} (h : flatD d = true) (r : RepD K P d v) : flatV v = true := by
  cases d <;> first | (cases h; done) | (simp only [RepD] at r; subst r; rfl)
theorem flats_rep {K : PySem.W.Frag} {P : Hp} : ∀ {ds : List D} {vs : List V}, ds.all flatD = true → RepDs K P ds vs → vs.all flatV = true
  | [], _, _, r => by simp only [RepDs] at r; subst r; rfl
  | d :: ds, _, h, r => by
    simp only [RepDs] at r
    obtain ⟨v, r', rfl, q1, q2⟩ := r
    rw [List.all_cons, Bool.and_eq_true] at h
    rw [List.all_cons, flat_rep h.1 q1, flats_rep h.2 q2]
    rfl
theorem eqV_rep {K : PySem.W.Frag} {P : Hp} {x y : D} {v u : V} (hx : flatD x = true) (hy : flatD y = true) (rx : RepD K P x v) (ry : RepD K P y u) : eqV v u = eqd x y := by
  cases x <;> first | (cases hx; done) | skip
  all_goals (cases y <;> first | (cases hy; done) | skip)
  all_goals (simp only [RepD] at rx ry; subst rx; subst ry; first | (simp only [eqV, eqd]; done) | (simp only [eqV, eqd, mkS_beq]; done))
theorem inV_rep {K : PySem.W.Frag} {P : Hp} {x : D} {v : V} (hx : flatD x = true) (rx : RepD K P x v) : ∀ {ds : List D} {vs : List V}, ds.all flatD = true → RepDs K P ds vs → inV v vs = ds.any fun y => eqd y x
  | [], _, _, r => by simp only [RepDs] at r; subst r; rfl
  | d :: ds, _, h, r => by
    simp only [RepDs] at r
    obtain ⟨u, r', rfl, q1, q2⟩ := r
    rw [List.all_cons, Bool.and_eq_true] at h
    have ih := inV_rep hx rx h.2 q2
    unfold inV at ih ⊢
    rw [List.any_cons, List.any_cons, ih, eqV_rep h.1 hx q1 rx]
theorem RepS.flat {K : PySem.W.Frag} {P H : Hp} {d : D} {v : V} (h : flatD d = true) (r : RepS K P H d v) : RepD K P d v := by
  cases d <;> first | (cases h; done) | exact r
def inF (neg : Bool) : D → D → Option D := fun x y => match seqOf y with
  | some ds => if flatD x = true ∧ ds.all flatD = true then some (.bl (if neg then !ds.any fun z => eqd z x else ds.any fun z => eqd z x)) else none
  | none => none
theorem opd_inF {K : PySem.W.Frag} {neg : Bool} : OpDR K (rIn K neg) (inF neg) := by
  intro P H x y vx vy d e rx ry h Q q
  unfold inF at h
  cases e1 : seqOf y with
  | none => rw [e1] at h; cases h
  | some ds =>
    rw [e1] at h
    have h' : (if flatD x = true ∧ ds.all flatD = true then some (D.bl (if neg then !ds.any fun z => eqd z x else ds.any fun z => eqd z x)) else none) = some d := h
    by_cases c : flatD x = true ∧ ds.all flatD = true
    · rw [if_pos c] at h'
      cases h'
      obtain ⟨a, vs, rfl, q1, q2⟩ := seq_rep e ry e1
      have rx' := RepS.flat c.1 rx
      refine ⟨a, vs, rfl, q1, flat_rep c.1 rx', flats_rep c.2 q2, ?_⟩
      rw [inV_rep c.1 rx' c.2 q2]
      exact q P H _ .refl (by simp only [RepD])
    · rw [if_neg c] at h'; cases h'
def inS : D → D → Option D
  | .str [c], .str s => some (.bl (decide (c ∈ s)))
  | _, _ => none
def niS : D → D → Option D
  | .str [c], .str s => some (.bl (!decide (c ∈ s)))
  | _, _ => none
theorem od_inS {X : Cx} : OpD X (compareOp .In) inS := ⟨_, op_in_sign, fun P H x y vx vy d e rx ry h Q q => by
  match x, y, h with
  | .str [c], .str s, h =>
    cases h
    cases rx; cases ry
    refine ⟨c, mkS s, rfl, rfl, ?_⟩
    rw [mkS_cps]
    exact q P H _ .refl (by simp only [RepD])⟩
theorem od_niS {X : Cx} : OpD X (compareOp .NotIn) niS := ⟨_, op_notIn_sign, fun P H x y vx vy d e rx ry h Q q => by
  match x, y, h with
  | .str [c], .str s, h =>
    cases h
    cases rx; cases ry
    refine ⟨c, mkS s, rfl, rfl, ?_⟩
    rw [mkS_cps]
    exact q P H _ .refl (by simp only [RepD])⟩
def inD : D → D → Option D := orD (inF false) inS
def niD : D → D → Option D := orD (inF true) niS
theorem od_in {X : Cx} : OpD X (compareOp .In) inD := OpD.or ⟨_, op_in_seq, opd_inF⟩ od_inS
theorem od_ni {X : Cx} : OpD X (compareOp .NotIn) niD := OpD.or ⟨_, op_notIn_seq, opd_inF⟩ od_niS
def isN : D → Bool
  | .non => true
  | _ => false
theorem isN_rep {K : PySem.W.Frag} {P H : Hp} {d : D} {v : V} (r : RepS K P H d v) : decide (v = V.non) = isN d := by
  cases d with
  | non => cases r; rfl
  | bl _ => cases r; rfl
  | int _ => cases r; rfl
  | str _ => cases r; rfl
  | tup ds => have r' : RepD K P (.tup ds) v := r; simp only [RepD] at r'; obtain ⟨a, vs, rfl, _⟩ := r'; rfl
  | lst ds => obtain ⟨a, vs, rfl, _⟩ := r; rfl
  | rol ds => have r' : RepD K P (.rol ds) v := r; simp only [RepD] at r'; obtain ⟨a, vs, rfl, _⟩ := r'; rfl
  | dk _ ds => obtain ⟨a, vs, rfl, _⟩ := r; rfl
  | dt _ ds => obtain ⟨a, vs, rfl, _⟩ := r; rfl
def isNone : D → D → Option D
  | x, .non => some (.bl (isN x))
  | .bl a, .bl b => some (.bl (decide (a = b)))
  | _, _ => none
def notNone : D → D → Option D
  | x, .non => some (.bl (!isN x))
  | .bl a, .bl b => some (.bl (!decide (a = b)))
  | _, _ => none
theorem od_is {X : Cx} : OpD X (compareOp .Is) isNone := ⟨_, op_isN.or op_isBl, fun P H x y vx vy d e rx ry h Q q => by
  cases y with
  | non =>
    have h' : some (D.bl (isN x)) = some d := by cases x <;> exact h
    cases h'
    cases ry
    exact .inl ⟨rfl, by rw [isN_rep rx]; exact q P H _ .refl (by simp only [RepD])⟩
  | bl b =>
    cases x with
    | bl a =>
      cases h; cases rx; cases ry
      exact .inr ⟨a, b, rfl, rfl, q P H _ .refl (by simp only [RepD])⟩
    | _ => cases h
  | _ => cases x <;> cases h⟩
theorem od_isnot {X : Cx} : OpD X (compareOp .IsNot) notNone := ⟨_, op_notN.or op_notBl, fun P H x y vx vy d e rx ry h Q q => by
  cases y with
  | non =>
    have h' : some (D.bl (!isN x)) = some d := by cases x <;> exact h
    cases h'
    cases ry
    exact .inl ⟨rfl, by rw [isN_rep rx]; exact q P H _ .refl (by simp only [RepD])⟩
  | bl b =>
    cases x with
    | bl a =>
      cases h; cases rx; cases ry
      exact .inr ⟨a, b, rfl, rfl, q P H _ .refl (by simp only [RepD])⟩
    | _ => cases h
  | _ => cases x <;> cases h⟩

/-! ### texts repeated -/
def repS : D → D → Option D
  | .str s, .int n => if s.length * n.toNat ≤ lineN ∧ n.natAbs ≤ lineN then some (.str (List.replicate n.toNat s).flatten) else none
  | _, _ => none
theorem fold_app (a : Array Nat) : ∀ (n : Nat) (acc : Array Nat), ((List.replicate n a).foldl (· ++ ·) acc).toList = acc.toList ++ (List.replicate n a.toList).flatten
  | 0, acc => by simp
  | n + 1, acc => by
    rw [List.replicate_succ, List.foldl_cons, fold_app a n, List.replicate_succ, List.flatten_cons, Array.toList_append, List.append_assoc]
theorem op_repS {X : Cx} : OpR X (binaryOp .Mult) (fun x y H Q => ∃ (z : Str) (n : Int), x = .str z ∧ y = .int n ∧ z.length * n.toNat ≤ lineN ∧ -(2 ^ 62) < n ∧ n < 2 ^ 40 ∧ Q (.str (mkS (List.replicate n.toNat z.cps.toList).flatten)) H) := by
  intro pins s σ H x y v u Q I rx ry h
  obtain ⟨z, n, rfl, rfl, hl, h1, h2, q⟩ := h
  obtain ⟨t, rfl⟩ := rx
  obtain ⟨t', rfl⟩ := ry
  have hlN : lineN = 16777216 := rfl
  refine PySem.P.mul_str ?_ ?_ ?_ ?_
  · rw [Bool.or_eq_false_iff]
    exact ⟨decide_eq_false (by omega), decide_eq_false (by omega)⟩
  · intro hn hc
    have hn' : 1 ≤ n := by omega
    have h3 : (z.length : Int) * n ≤ 16777216 := by
      have e : ((z.length * n.toNat : Nat) : Int) = (z.length : Int) * n := by
        rw [Int.natCast_mul, Int.toNat_of_nonneg (by omega)]
      omega
    have h4 : (z.length : Int) ≤ (2 ^ 63 - 1) / n := by
      apply Int.le_ediv_of_mul_le (by omega)
      omega
    omega
  · intro hn hc
    unfold Builtin.Str.tooLong
    have e : sizeLine = 16777216 := sizeLine_eq
    first
      | (apply decide_eq_false; omega)
      | (simp only [decide_eq_false_iff_not]; omega)
  · by_cases hn : n < 1
    · rw [if_pos hn]
      have e0 : n.toNat = 0 := by omega
      rw [e0] at q
      exact ⟨by decide, .str Str.empty, H, I.tok _, ⟨_, rfl⟩, q⟩
    · rw [if_neg hn]
      by_cases hc : (n == 1 || z.length == 0) = true
      · rw [if_pos hc]
        refine ⟨.str z, H, I.tok s.toks, ⟨t, rfl⟩, ?_⟩
        have e : mkS (List.replicate n.toNat z.cps.toList).flatten = z := by
          rw [Bool.or_eq_true] at hc
          rcases hc with hc | hc
          · have : n = 1 := by simpa using hc
            subst this
            simp [mkS]
          · have : z.length = 0 := by simpa using hc
            have e2 : z.cps.toList = [] := by
              have e3 : z.cps.toList.length = 0 := by simpa [Str.length] using this
              exact List.length_eq_zero_iff.mp e3
            have e4 : z = mkS [] := by
              rw [← mkS_lit z]
              show mkS z.cps.toList = mkS []
              rw [e2]
            rw [e2, e4]
            simp
        rw [e] at q
        exact q
      · rw [if_neg hc]
        have e : (⟨(List.replicate n.toNat z.cps).foldl (· ++ ·) #[]⟩ : Str) = mkS (List.replicate n.toNat z.cps.toList).flatten := by
          have h5 := fold_app z.cps n.toNat #[]
          show (⟨_⟩ : Str) = ⟨_⟩
          congr 1
          rw [← Array.toList_inj, h5]
          simp
        rw [e]
        refine ⟨?_, .str _, H, I.tok _, ⟨_, rfl⟩, q⟩
        rw [mkS_len, List.length_flatten, List.map_replicate, List.sum_replicate_nat, sizeLine_eq, Nat.mul_comm]
        exact hl
theorem od_repS {X : Cx} : OpD X (binaryOp .Mult) repS := ⟨_, op_repS, fun P H x y vx vy d e rx ry h Q q => by
  match x, y, h with
  | .str s, .int n, h =>
    have h' : (if s.length * n.toNat ≤ lineN ∧ n.natAbs ≤ lineN then some (D.str (List.replicate n.toNat s).flatten) else none) = some d := h
    by_cases c : s.length * n.toNat ≤ lineN ∧ n.natAbs ≤ lineN
    · rw [if_pos c] at h'
      cases h'; cases rx; cases ry
      have c2 : n.natAbs ≤ 16777216 := c.2
      refine ⟨mkS s, n, rfl, rfl, by rw [mkS_len]; exact c.1, by omega, by omega, ?_⟩
      rw [mkS_cps]
      exact q P H _ .refl (by simp only [RepD])
    · rw [if_neg c] at h'; cases h'⟩
def mulD : D → D → Option D := orD mulI (orD repS repL)
theorem od_mul {X : Cx} : OpD X (binaryOp .Mult) mulD := od_mulI.or (od_repS.or od_repL)

/-! ### isinstance -/
inductive Ty where
  | tup | str | int | bool | list | dict
def Ty.name : Ty → String
  | .tup => "tuple"
  | .str => "str"
  | .int => "int"
  | .bool => "bool"
  | .list => "list"
  | .dict => "dict"
def tyD : D → String
  | .non => "NoneType"
  | .bl _ => "bool"
  | .int _ => "int"
  | .str _ => "str"
  | .tup _ => "tuple"
  | .lst _ => "list"
  | .rol _ => "list"
  | .dk _ _ => "dict"
  | .dt _ _ => "dict"
def isT : Ty → D → Bool
  | .tup, .tup _ => true
  | .str, .str _ => true
  | .int, .int _ => true
  | .int, .bl _ => true
  | .bool, .bl _ => true
  | .list, .lst _ => true
  | .list, .rol _ => true
  | .dict, .dk _ _ => true
  | .dict, .dt _ _ => true
  | _, _ => false
theorem isT_kit (T : Ty) (d : D) : kitB (tyD d) T.name = some (isT T d) := by
  cases T <;> cases d <;> simp only [tyD, Ty.name, isT] <;> decide +kernel
theorem tyX_rep {K : PySem.W.Frag} {P H : Hp} (e : Same P H) {d : D} {v : V} (r : RepS K P H d v) : TyX K H v (.type (tyD d)) := by
  cases d with
  | non => cases r; exact .base .non
  | bl b => cases r; exact .base (.bl b)
  | int b => cases r; exact .base (.int b)
  | str b => cases r; exact .base (.str _)
  | tup ds =>
    have r' : RepD K P (.tup ds) v := r
    simp only [RepD] at r'
    obtain ⟨a, vs, rfl, q, _⟩ := r'
    rcases sqT_mono e q with (h | ⟨o, h⟩) | ⟨o, its, n, h, hc, _⟩
    · exact .base (.tup h)
    · exact .fTuple h
    · exact .kTuple h hc
  | lst ds => obtain ⟨a, vs, rfl, q, _⟩ := r; exact .base (.lst q)
  | rol ds =>
    have r' : RepD K P (.rol ds) v := r
    simp only [RepD] at r'
    obtain ⟨a, vs, rfl, q, _⟩ := r'
    rcases e.seq q with (h | ⟨o, h⟩) | ⟨o, its, n, h, hc, _⟩
    · exact .base (.lst h)
    · exact .base (.frz h)
    · exact .kList h hc
  | dk ks ds => obtain ⟨a, vs, rfl, q, _⟩ := r; exact .base (.dK q)
  | dt ks ds => obtain ⟨a, vs, rfl, q, _⟩ := r; exact .base (.dT q)
def mIsI (T : Ty) (f : Mm SV) : Mm SV := f.bind fun x => fun _ S => match rd S x with
  | some d => some (.ok (.v (.bl (isT T d))) S)
  | none => none
section
variable {X : Cx} {W : WX} {e : Expr} {f : Mm SV} {x : Str} {p p2 pos : Pos}
theorem se_isi (T : Ty) {tn : Str} (hg : Gl X "isinstance") (hm : X.mg "isinstance" = none) (hgt : Gl X tn) (hmt : X.mg tn = none) (hvt : bootBuiltins tn = some (.type T.name)) (he : SE X W e f) (hv : bootBuiltins "isinstance" = some (.builtin "isinstance") := by decide +kernel)
    (hn : tn ≠ "__name__" := by decide) (hd : (tn == ("__debug__" : Str)) = false := by decide)
    (hst : starEach (e :: [.Name tn p2]) X.env = (false, eval e X.env) :: starEach [.Name tn p2] X.env := by rfl) (hst2 : starEach (.Name tn p2 :: []) X.env = (false, eval (.Name tn p2) X.env) :: starEach [] X.env := by rfl)
    (hpl : (backTo pos (starEach [.Name tn p2] X.env)).any (·.1) = false := by rfl) :
    SE X W (.Call (.Name "isinstance" p) [e, .Name tn p2] [] pos) (mIsI T f) := by
  obtain ⟨t, a1, a2⟩ := he
  refine ⟨_, pe_callB call_isi hg hm hv (pa_cons a1 (pa_cons (pe_bltn (v := .ty T.name) hgt hmt hvt rfl hn hd) pa_nil hst2) hst) (by decide) (by decide) hst hpl, fun P L σ H G S R RG => ?_⟩
  refine At.bind (t := t) (k := fun x σ H1 Q => rIsi X.K [x, V.ty T.name] H1 Q) RG (a2 P L σ H G S R RG) fun P1 L1 H1 S1 xv v e1 l1 R1 RG1 rx => ?_
  intro r h Q q
  cases e2 : rd S1 xv with
  | none => simp only [e2] at h; cases h
  | some d =>
    simp only [e2] at h
    cases h
    exact ⟨v, .ty T.name, .type (tyD d), .type T.name, isT T d, rfl, .ty _, tyX_rep R1.fr (rd_rep R1 rx e2), kit_ty (isT_kit T d), q P1 L1 H1 _ (Same.refl _) (LExt.refl _) R1 (by simp only [rV, RepV, RepD])⟩
end

/-! ### built-in functions -/
section
variable {X : Cx}
def lenD : List D → Option D
  | [.str s] => if s.length ≤ lineN then some (.int s.length) else none
  | [.tup ds] => some (.int ds.length)
  | [.lst ds] => some (.int ds.length)
  | [.rol ds] => some (.int ds.length)
  | _ => none
theorem cd_len : CallD X (.builtin "len") lenD := ⟨_, call_len_seq.or call_len_str, fun P H xs vs d e rx h Q q => by
  match xs, h with
  | [.str s], h =>
    have h' : (if s.length ≤ lineN then some (D.int s.length) else none) = some d := h
    obtain ⟨v, r, rfl, r1, r2⟩ := rx
    cases r2; cases r1
    by_cases c : s.length ≤ lineN
    · rw [if_pos c] at h'
      cases h'
      refine .inr ⟨mkS s, rfl, by rw [mkS_len, sizeLine_eq]; exact c, ?_⟩
      rw [mkS_len]
      exact q P H _ .refl (by simp only [RepD])
    · rw [if_neg c] at h'; cases h'
  | [.tup ds], h =>
    cases h
    obtain ⟨v, r, rfl, r1, r2⟩ := rx
    cases r2
    obtain ⟨a, us, rfl, k1, k2⟩ := seq_rep e (d := .tup ds) r1 rfl
    refine .inl ⟨a, us, rfl, k1, ?_⟩
    rw [k2.len]
    exact q P H _ .refl (by simp only [RepD])
  | [.lst ds], h =>
    cases h
    obtain ⟨v, r, rfl, r1, r2⟩ := rx
    cases r2
    obtain ⟨a, us, rfl, k1, k2⟩ := seq_rep e (d := .lst ds) r1 rfl
    refine .inl ⟨a, us, rfl, k1, ?_⟩
    rw [k2.len]
    exact q P H _ .refl (by simp only [RepD])
  | [.rol ds], h =>
    cases h
    obtain ⟨v, r, rfl, r1, r2⟩ := rx
    cases r2
    obtain ⟨a, us, rfl, k1, k2⟩ := seq_rep e (d := .rol ds) r1 rfl
    refine .inl ⟨a, us, rfl, k1, ?_⟩
    rw [k2.len]
    exact q P H _ .refl (by simp only [RepD])⟩
def intD : List D → Option D
  | [.int i] => some (.int i)
  | [.bl b] => some (.int (if b then 1 else 0))
  | _ => none
theorem cd_int : CallD X (.type "int") intD := ⟨_, call_int1, fun P H xs vs d e rx h Q q => by
  match xs, h with
  | [.int i], h =>
    cases h
    obtain ⟨v, r, rfl, r1, r2⟩ := rx
    cases r2; cases r1
    exact .inl ⟨i, rfl, q P H _ .refl (by simp only [RepD])⟩
  | [.bl b], h =>
    cases h
    obtain ⟨v, r, rfl, r1, r2⟩ := rx
    cases r2; cases r1
    exact .inr ⟨b, rfl, q P H _ .refl (by simp only [RepD])⟩⟩
def listD : List D → Option D
  | [d] => (seqOf d).map .lst
  | _ => none
theorem cd_list : CallD X (.type "list") listD := ⟨_, call_list_of, fun P H xs vs d e rx h Q q => by
  match xs, h with
  | [x], h =>
    obtain ⟨ds, h1, h2⟩ := Option.map_eq_some_iff.mp h
    subst h2
    obtain ⟨v, r, rfl, r1, r2⟩ := rx
    cases r2
    obtain ⟨a, us, rfl, k1, k2⟩ := seq_rep e r1 h1
    refine ⟨a, us, rfl, k1, fun l hl => q _ _ _ (Grow.one (o := .lst us) hl) ?_⟩
    simp only [RepD]
    exact ⟨l, us, rfl, upd_same, k2.mono (same_new (fresh_of e hl))⟩⟩
def tupD : List D → Option D
  | [d] => (seqOf d).map .tup
  | _ => none
theorem cd_tuple : CallD X (.type "tuple") tupD := ⟨_, call_tuple_of, fun P H xs vs d e rx h Q q => by
  match xs, h with
  | [x], h =>
    obtain ⟨ds, h1, h2⟩ := Option.map_eq_some_iff.mp h
    subst h2
    obtain ⟨v, r, rfl, r1, r2⟩ := rx
    cases r2
    have new : ∀ (a : Addr) (us : List V), SqL X.K H a us → RepDs X.K P ds us → ∃ p ys, [V.ref a] = [V.ref p] ∧ ((SqL X.K H p ys ∧ ∀ l, H l = none → Q (V.ref l) (upd H l (.tup ys))) ∨ (SqT X.K H p ys ∧ Q (V.ref p) H)) := fun a us k1 k2 =>
      ⟨a, us, rfl, .inl ⟨k1, fun l hl => q _ _ _ (Grow.one (o := .tup us) hl) (by
        simp only [RepD]
        exact ⟨l, us, rfl, SqT.of upd_same, k2.mono (same_new (fresh_of e hl))⟩)⟩⟩
    cases x with
    | tup es =>
      cases h1
      have r1' : RepD X.K P (.tup _) v := r1
      have r1'' := r1'
      simp only [RepD] at r1'
      obtain ⟨a, us, rfl, k1, k2⟩ := r1'
      exact ⟨a, us, rfl, .inr ⟨sqT_mono e k1, q P H _ .refl r1''⟩⟩
    | lst es =>
      cases h1
      obtain ⟨a, us, rfl, k1, k2⟩ := r1
      exact new a us (SqL.of k1) k2
    | rol es =>
      cases h1
      have r1' : RepD X.K P (.rol _) v := r1
      simp only [RepD] at r1'
      obtain ⟨a, us, rfl, k1, k2⟩ := r1'
      exact new a us (e.seq k1) k2
    | _ => cases h1⟩
def boolsOf : List D → Option (List Bool)
  | [] => some []
  | .bl b :: ds => (boolsOf ds).map (b :: ·)
  | _ :: _ => none
theorem boolsOf_eq : ∀ {ds : List D} {bs : List Bool}, boolsOf ds = some bs → ds = bs.map D.bl
  | [], bs, h => by cases h; rfl
  | d :: ds, bs, h => by
    cases d with
    | bl b =>
      obtain ⟨cs, h1, h2⟩ := Option.map_eq_some_iff.mp (show (boolsOf ds).map (b :: ·) = some bs from h)
      subst h2
      rw [boolsOf_eq h1]
      rfl
    | _ => cases h
def allD : List D → Option D
  | [.lst ds] => (boolsOf ds).map fun bs => .bl (bs.all id)
  | _ => none
def anyD : List D → Option D
  | [.lst ds] => (boolsOf ds).map fun bs => .bl (bs.any id)
  | _ => none
theorem cd_all (hc : X.calm = true) : CallD X (.builtin "all") allD := ⟨_, cr_all hc, fun P H xs vs d e rx h Q q => by
  match xs, h with
  | [.lst ds], h =>
    obtain ⟨bs, h1, h2⟩ := Option.map_eq_some_iff.mp (show (boolsOf ds).map (fun bs => D.bl (bs.all id)) = some d from h)
    subst h2
    obtain ⟨v, r, rfl, r1, r2⟩ := rx
    cases r2
    obtain ⟨a, us, rfl, k1, k2⟩ := r1
    rw [boolsOf_eq h1] at k2
    have e2 := k2.bls
    subst e2
    exact ⟨a, bs, rfl, SqL.of k1, q P H _ .refl (by simp only [RepD])⟩⟩
theorem cd_any (hc : X.calm = true) : CallD X (.builtin "any") anyD := ⟨_, cr_any hc, fun P H xs vs d e rx h Q q => by
  match xs, h with
  | [.lst ds], h =>
    obtain ⟨bs, h1, h2⟩ := Option.map_eq_some_iff.mp (show (boolsOf ds).map (fun bs => D.bl (bs.any id)) = some d from h)
    subst h2
    obtain ⟨v, r, rfl, r1, r2⟩ := rx
    cases r2
    obtain ⟨a, us, rfl, k1, k2⟩ := r1
    rw [boolsOf_eq h1] at k2
    have e2 := k2.bls
    subst e2
    exact ⟨a, bs, rfl, SqL.of k1, q P H _ .refl (by simp only [RepD])⟩⟩
end

/-! ### methods -/
inductive MTy where
  | str | list | dict
def MTy.name : MTy → String
  | .str => "str"
  | .list => "list"
  | .dict => "dict"
def isM : MTy → D → Bool
  | .str, .str _ => true
  | .list, .lst _ => true
  | .list, .rol _ => true
  | .dict, .dk _ _ => true
  | .dict, .dt _ _ => true
  | _, _ => false
theorem isM_rep {K : PySem.W.Frag} {P H : Hp} (e : Same P H) {T : MTy} {d : D} {v : V} (h : isM T d = true) (r : RepS K P H d v) : tyV K T.name v H := by
  cases T <;> cases d <;> first | (cases h; done) | skip
  · cases r; rfl
  · obtain ⟨a, vs, rfl, q, _⟩ := r; exact .inl ⟨rfl, vs, SqL.of q⟩
  · have r' : RepD K P (.rol _) v := r
    simp only [RepD] at r'
    obtain ⟨a, vs, rfl, q, _⟩ := r'
    exact .inl ⟨rfl, vs, e.seq q⟩
  · obtain ⟨a, vs, rfl, q, _⟩ := r; exact .inr (.inr (.inl ⟨rfl, .inl ⟨_, q⟩⟩))
  · obtain ⟨a, vs, rfl, q, _⟩ := r; exact .inr (.inr (.inl ⟨rfl, .inr ⟨_, q⟩⟩))
/-- a method that changes nothing -/
def MtDR (K : PySem.W.Frag) (r : V → List V → Hp → VK → Prop) (g : D → List D → Option D) : Prop :=
  ∀ P H x xs vx vs d, Same P H → RepS K P H x vx → RepSs K P H xs vs → g x xs = some d → ∀ Q : VK, (∀ P' H' v, Grow P H P' H' → RepD K P' d v → Q v H') → r vx vs H Q
def MtD (X : Cx) (id : String) (g : D → List D → Option D) : Prop := ∃ r, MtR X id r ∧ MtDR X.K r g
def chk (T : MTy) (x : SV) : Mm Unit := fun _ S => match rd S x with
  | some d => if isM T d = true then some (.ok () S) else none
  | none => none
def mMt (T : MTy) (g : D → List D → Option D) (f : Mm SV) (fa : Mm (List SV)) : Mm SV := f.bind fun x => (chk T x).bind fun _ => fa.bind fun ys => fun _ S => match rd S x, rds S ys with
  | some d, some ds => (g d ds).map fun z => .ok (.v z) S
  | _, _ => none
theorem chk_ok {T : MTy} {x : SV} {G : Sl} {S : Sto} {α : Type} {k : Unit → Mm α} {r : Rs α} (h : Mm.bind (chk T x) k G S = some r) : ∃ d, rd S x = some d ∧ isM T d = true ∧ k () G S = some r := by
  unfold Mm.bind chk at h
  cases e : rd S x with
  | none => rw [e] at h; cases h
  | some d =>
    rw [e] at h
    by_cases c : isM T d = true
    · simp only [if_pos c] at h
      exact ⟨d, rfl, c, h⟩
    · simp only [if_neg c] at h; cases h
section
variable {X : Cx} {W : WX} {o e : Expr} {es : List Expr} {f : Mm SV} {fa : Mm (List SV)} {name : Str} {apos cpos : Pos} {id : String} {g : D → List D → Option D}
theorem se_mt (T : MTy) (pa : PlainAttrs T.name) (slot : Slot T.name name id) (hty : typeOf (.builtin id) = pure (.type "method_descriptor")) (hm : MtD X id g) (ho : SE X W o f) (ha : SA X W (e :: es) fa)
    (hbase : attributeBase o name X.env (eval o X.env) = eval o X.env := by rfl)
    (hfew : ((backTo cpos (starEach (e :: es) X.env)).all (fun x => !x.1) && (backToKw cpos (keywordEach [] X.env)).all (fun x => x.1.isSome)
      && decide ((e :: es).length + ([] : List Keyword).length + (if ([] : List Keyword).isEmpty then 0 else 1) < 30)) = true := by rfl)
    (hline : (apos.endLine == cpos.line) = true := by rfl) (hs : starEach (e :: es) X.env = (false, eval e X.env) :: starEach es X.env := by rfl) (hplain : (backTo cpos (starEach es X.env)).any (·.1) = false := by rfl) :
    SE X W (.Call (.Attribute o name apos) (e :: es) [] cpos) (mMt T g f fa) := by
  obtain ⟨r, h1, h2⟩ := hm
  obtain ⟨t, a1, a2⟩ := ho
  obtain ⟨u, b1, b2⟩ := ha
  refine ⟨_, pe_bm pa slot hty h1 a1 b1 hbase hfew hline hs hplain, fun P L σ H G S R RG => ?_⟩
  refine At.bind (t := t) (k := fun x σ H1 Q => tyV X.K T.name x H1 ∧ u σ H1 fun xs H2 => r x xs H2 Q) RG (a2 P L σ H G S R RG) fun P1 L1 H1 S1 x v e1 l1 R1 RG1 rx => ?_
  intro rr h Q q
  obtain ⟨d, k1, k2, k3⟩ := chk_ok h
  refine ⟨isM_rep R1.fr k2 (rd_rep R1 rx k1), ?_⟩
  refine (At.bind (t := u) (k := fun xs σ H2 Q => r v xs H2 Q) RG1 (b2 P1 L1 σ H1 G S1 R1 RG1) fun P2 L2 H2 S2 ys us e2 l2 R2 RG2 ry => ?_) rr k3 Q q
  intro rr2 h3 Q2 q2
  have rx2 := RepV.mono e2 l2 rx
  cases e3 : rd S2 x with
  | none => simp only [e3] at h3; cases h3
  | some d2 =>
    cases e4 : rds S2 ys with
    | none => simp only [e3, e4] at h3; cases h3
    | some ds =>
      simp only [e3, e4] at h3
      obtain ⟨z, k4, k5⟩ := Option.map_eq_some_iff.mp h3
      subst k5
      refine h2 P2 H2 d2 ds v us z R2.fr (rd_rep R2 rx2 e3) (rds_rep R2 ry e4) k4 Q2 fun P' H' w gr rw => ?_
      obtain ⟨R3, e5⟩ := gr.relH R2
      exact q2 P' L2 H' w e5 (LExt.refl _) R3 rw
theorem se_mt0 (T : MTy) (pa : PlainAttrs T.name) (slot : Slot T.name name id) (hty : typeOf (.builtin id) = pure (.type "method_descriptor")) (hm : MtD X id g) (ho : SE X W o f)
    (hbase : attributeBase o name X.env (eval o X.env) = eval o X.env := by rfl) (hline : (apos.endLine == cpos.line) = true := by rfl) :
    SE X W (.Call (.Attribute o name apos) [] [] cpos) (mMt T g f mNil) := by
  obtain ⟨r, h1, h2⟩ := hm
  obtain ⟨t, a1, a2⟩ := ho
  refine ⟨_, pe_bm0 pa slot hty h1 a1 hbase hline, fun P L σ H G S R RG => ?_⟩
  refine At.bind (t := t) (k := fun x σ H1 Q => tyV X.K T.name x H1 ∧ r x [] H1 Q) RG (a2 P L σ H G S R RG) fun P1 L1 H1 S1 x v e1 l1 R1 RG1 rx => ?_
  intro rr h Q q
  obtain ⟨d, k1, k2, k3⟩ := chk_ok h
  refine ⟨isM_rep R1.fr k2 (rd_rep R1 rx k1), ?_⟩
  have k3' : (match rd S1 x, rds S1 [] with
    | some d, some ds => (g d ds).map fun z => Rs.ok (SV.v z) S1
    | _, _ => none) = some rr := k3
  simp only [k1, rds] at k3'
  obtain ⟨z, k4, k5⟩ := Option.map_eq_some_iff.mp k3'
  subst k5
  refine h2 P1 H1 d [] v [] z R1.fr (rd_rep R1 rx k1) rfl k4 Q fun P' H' w gr rw => ?_
  obtain ⟨R3, e5⟩ := gr.relH R1
  exact q P' L1 H' w e5 (LExt.refl _) R3 rw
/-- xs.append(e), xs owned -/
def mApp (f fe : Mm SV) : Mm SV := f.bind fun x => (chk .list x).bind fun _ => fe.bind fun y => fun _ S => match x, y with
  | .o i, .v d => match S[i]? with
    | some (.lst ds) => if ds.length < lineN then some (.ok (.v .non) (S.set i (.lst (ds ++ [d])))) else none
    | _ => none
  | _, _ => none
theorem se_append {fe : Mm SV} (ho : SE X W o f) (he : SE X W e fe)
    (hbase : attributeBase o "append" X.env (eval o X.env) = eval o X.env := by rfl)
    (hfew : ((backTo cpos (starEach (e :: []) X.env)).all (fun x => !x.1) && (backToKw cpos (keywordEach [] X.env)).all (fun x => x.1.isSome)
      && decide ((e :: []).length + ([] : List Keyword).length + (if ([] : List Keyword).isEmpty then 0 else 1) < 30)) = true := by rfl)
    (hline : (apos.endLine == cpos.line) = true := by rfl) (hs : starEach (e :: []) X.env = (false, eval e X.env) :: starEach [] X.env := by rfl) (hplain : (backTo cpos (starEach [] X.env)).any (·.1) = false := by rfl) :
    SE X W (.Call (.Attribute o "append" apos) [e] [] cpos) (mApp f fe) := by
  obtain ⟨t, a1, a2⟩ := ho
  obtain ⟨u, b1, b2⟩ := he
  refine ⟨_, pe_bm PySem.F.plainAttrs_list PySem.F.slot_list_append PySem.F.type_list_append mt_append a1 (pa_cons b1 pa_nil hs) hbase hfew hline hs hplain, fun P L σ H G S R RG => ?_⟩
  refine At.bind (t := t) (k := fun x σ H1 Q => tyV X.K "list" x H1 ∧ u σ H1 fun y H2 => rAppend x [y] H2 Q) RG (a2 P L σ H G S R RG) fun P1 L1 H1 S1 x v e1 l1 R1 RG1 rx => ?_
  intro rr h Q q
  obtain ⟨d, k1, k2, k3⟩ := chk_ok h
  refine ⟨isM_rep (T := .list) R1.fr k2 (rd_rep R1 rx k1), ?_⟩
  refine (At.bind (t := u) (k := fun y σ H2 Q => rAppend v [y] H2 Q) RG1 (b2 P1 L1 σ H1 G S1 R1 RG1) fun P2 L2 H2 S2 y w e2 l2 R2 RG2 ry => ?_) rr k3 Q q
  intro rr2 h3 Q2 q2
  cases x with
  | v _ => cases h3
  | x _ _ _ => cases h3
  | o i =>
    cases y with
    | o _ => cases h3
    | x _ _ _ => cases h3
    | v yd =>
      obtain ⟨a, rfl, ha⟩ := RepV.mono e2 l2 rx
      obtain ⟨mo, ho', g1, g2, g3⟩ := R2.of_at ha
      simp only [g1] at h3
      cases mo with
      | lst ds =>
        obtain ⟨vs, rfl, g4⟩ := g3
        simp only at h3
        by_cases c : ds.length < lineN
        · rw [if_pos c] at h3
          cases h3
          refine ⟨a, vs, w, rfl, rfl, g2, by rw [g4.len, sizeLine_eq]; exact c, ?_⟩
          exact q2 P2 L2 _ _ (Same.refl _) (LExt.refl _) (R2.write ha g1 rfl (o := .lst (ds ++ [yd])) (ho := .lst (vs ++ [w])) ⟨_, rfl, g4.app (RepDs.cons ry RepDs.nil)⟩) (by simp only [rV, RepV, RepD])
        · rw [if_neg c] at h3; cases h3
      | _ => cases h3
/-- xs.extend(ys), xs owned -/
def mExt (f fe : Mm SV) : Mm SV := f.bind fun x => (chk .list x).bind fun _ => fe.bind fun y => fun _ S => match x, y with
  | .o i, .v (.lst es) => match S[i]? with
    | some (.lst ds) => if ds.length + es.length ≤ lineN then some (.ok (.v .non) (S.set i (.lst (ds ++ es)))) else none
    | _ => none
  | _, _ => none
theorem se_extend {fe : Mm SV} (ho : SE X W o f) (he : SE X W e fe)
    (hbase : attributeBase o "extend" X.env (eval o X.env) = eval o X.env := by rfl)
    (hfew : ((backTo cpos (starEach (e :: []) X.env)).all (fun x => !x.1) && (backToKw cpos (keywordEach [] X.env)).all (fun x => x.1.isSome)
      && decide ((e :: []).length + ([] : List Keyword).length + (if ([] : List Keyword).isEmpty then 0 else 1) < 30)) = true := by rfl)
    (hline : (apos.endLine == cpos.line) = true := by rfl) (hs : starEach (e :: []) X.env = (false, eval e X.env) :: starEach [] X.env := by rfl) (hplain : (backTo cpos (starEach [] X.env)).any (·.1) = false := by rfl) :
    SE X W (.Call (.Attribute o "extend" apos) [e] [] cpos) (mExt f fe) := by
  obtain ⟨t, a1, a2⟩ := ho
  obtain ⟨u, b1, b2⟩ := he
  refine ⟨_, pe_bm PySem.F.plainAttrs_list PySem.F.slot_list_extend PySem.F.type_list_extend mt_extend a1 (pa_cons b1 pa_nil hs) hbase hfew hline hs hplain, fun P L σ H G S R RG => ?_⟩
  refine At.bind (t := t) (k := fun x σ H1 Q => tyV X.K "list" x H1 ∧ u σ H1 fun y H2 => rExtend x [y] H2 Q) RG (a2 P L σ H G S R RG) fun P1 L1 H1 S1 x v e1 l1 R1 RG1 rx => ?_
  intro rr h Q q
  obtain ⟨d, k1, k2, k3⟩ := chk_ok h
  refine ⟨isM_rep (T := .list) R1.fr k2 (rd_rep R1 rx k1), ?_⟩
  refine (At.bind (t := u) (k := fun y σ H2 Q => rExtend v [y] H2 Q) RG1 (b2 P1 L1 σ H1 G S1 R1 RG1) fun P2 L2 H2 S2 y w e2 l2 R2 RG2 ry => ?_) rr k3 Q q
  intro rr2 h3 Q2 q2
  cases x with
  | v _ => cases h3
  | x _ _ _ => cases h3
  | o i =>
    cases y with
    | o _ => cases h3
    | x _ _ _ => cases h3
    | v yd =>
      cases yd with
      | lst es =>
        obtain ⟨a, rfl, ha⟩ := RepV.mono e2 l2 rx
        obtain ⟨mo, ho', g1, g2, g3⟩ := R2.of_at ha
        have ry' : RepD X.K P2 (.lst es) w := ry
        simp only [RepD] at ry'
        obtain ⟨b, us, rfl, y1, y2⟩ := ry'
        simp only [g1] at h3
        cases mo with
        | lst ds =>
          obtain ⟨vs, rfl, g4⟩ := g3
          simp only at h3
          by_cases c : ds.length + es.length ≤ lineN
          · rw [if_pos c] at h3
            cases h3
            refine ⟨a, b, vs, us, rfl, rfl, g2, R2.fr _ _ y1, by rw [g4.len, y2.len, sizeLine_eq]; exact c, ?_⟩
            exact q2 P2 L2 _ _ (Same.refl _) (LExt.refl _) (R2.write ha g1 rfl (o := .lst (ds ++ es)) (ho := .lst (vs ++ us)) ⟨_, rfl, g4.app y2⟩) (by simp only [rV, RepV, RepD])
          · rw [if_neg c] at h3; cases h3
        | _ => cases h3
      | _ => cases h3
end

/-! ### methods of texts -/
def strsOf : List D → Option (List (List Nat))
  | [] => some []
  | .str s :: ds => (strsOf ds).map (s :: ·)
  | _ :: _ => none
theorem strsOf_eq : ∀ {ds : List D} {bs : List (List Nat)}, strsOf ds = some bs → ds = bs.map D.str
  | [], bs, h => by cases h; rfl
  | d :: ds, bs, h => by
    cases d with
    | str b =>
      obtain ⟨cs, h1, h2⟩ := Option.map_eq_some_iff.mp (show (strsOf ds).map (b :: ·) = some bs from h)
      subst h2
      rw [strsOf_eq h1]
      rfl
    | _ => cases h
/-- joined, with a text between -/
def joinN (sep : List Nat) : List (List Nat) → List Nat
  | [] => []
  | [p] => p
  | p :: q :: r => p ++ sep ++ joinN sep (q :: r)
theorem join_mk (sep : List Nat) : ∀ ps : List (List Nat), Txt.join (mkS sep) (ps.map mkS) = mkS (joinN sep ps) := by
  intro ps
  rw [TL.join_eq]
  induction ps with
  | nil => rfl
  | cons p r ih =>
    cases r with
    | nil => rfl
    | cons q r =>
      show mkS p ++ mkS sep ++ Str.join (mkS sep) ((q :: r).map mkS) = mkS (p ++ sep ++ joinN sep (q :: r))
      rw [ih, mkS_app, mkS_app]
def joinD : D → List D → Option D
  | .str s, [y] => match seqOf y with
    | some ds => match strsOf ds with
      | some ps => if (ps.map List.length).sum + ps.length * s.length ≤ lineN then some (.str (joinN s ps)) else none
      | none => none
    | none => none
  | _, _ => none
theorem md_join {X : Cx} : MtD X "str.join" joinD := ⟨_, mt_join, fun P H x xs vx vs d e rx rxs h Q q => by
  match x, xs, h with
  | .str s, [y], h =>
    have h' : (match seqOf y with
      | some ds => match strsOf ds with
        | some ps => if (ps.map List.length).sum + ps.length * s.length ≤ lineN then some (D.str (joinN s ps)) else none
        | none => none
      | none => none) = some d := h
    cases e1 : seqOf y with
    | none => rw [e1] at h'; cases h'
    | some ds =>
      rw [e1] at h'
      cases e2 : strsOf ds with
      | none => simp only [e2] at h'; cases h'
      | some ps =>
        simp only [e2] at h'
        by_cases c : (ps.map List.length).sum + ps.length * s.length ≤ lineN
        · rw [if_pos c] at h'
          cases h'
          cases rx
          obtain ⟨v, r, rfl, r1, r2⟩ := rxs
          cases r2
          obtain ⟨a, us, rfl, k1, k2⟩ := seq_rep e r1 e1
          rw [strsOf_eq e2] at k2
          have e3 := k2.strs
          subst e3
          refine ⟨mkS s, a, ps.map mkS, rfl, rfl, k1, ?_, ?_⟩
          · rw [List.map_map, List.length_map, mkS_len]
            have e4 : ((fun x : Str => x.length) ∘ mkS) = List.length := by funext z; exact mkS_len z
            rw [e4]
            exact c
          · rw [join_mk]
            exact q P H _ .refl (by simp only [RepD])
        · rw [if_neg c] at h'; cases h'⟩
/-- a text parted at each place where a sign stands -/
def splitN (c : Nat) : List Nat → List (List Nat)
  | [] => [[]]
  | x :: r => if x = c then [] :: splitN c r else match splitN c r with
    | p :: ps => (x :: p) :: ps
    | [] => [[x]]
theorem splitN_ne (c : Nat) (l : List Nat) : splitN c l ≠ [] := by
  cases l with
  | nil => simp [splitN]
  | cons x r =>
    unfold splitN
    by_cases h : x = c
    · rw [if_pos h]; simp
    · rw [if_neg h]
      cases splitN c r <;> simp
theorem spl_one (c : Nat) : ∀ (l acc : List Nat), TL.spl [c] 0 acc l = match splitN c l with
    | p :: ps => (acc ++ p) :: ps
    | [] => [acc]
  | [], acc => by rw [TL.spl_nil]; simp [splitN]
  | x :: r, acc => by
    by_cases hx : x = c
    · subst hx
      have hp : TL.pre [x] (x :: r) = true := by simp [TL.pre]
      rw [TL.spl_hit hp]
      have ih := spl_one x r []
      show acc :: TL.spl [x] 0 [] r = _
      rw [ih]
      simp only [splitN, if_pos]
      cases e : splitN x r with
      | nil => exact absurd e (splitN_ne x r)
      | cons p ps => simp
    · have hp : TL.pre [c] (x :: r) = false := by simp [TL.pre, hx]
      rw [TL.spl_miss hp, spl_one c r (acc ++ [x])]
      simp only [splitN, if_neg hx]
      cases splitN c r with
      | nil => simp
      | cons p ps => simp
theorem map_tl_mk {l : List Str} {ps : List (List Nat)} (h : l.map TL.tl = ps) : l = ps.map mkS := by
  subst h
  rw [List.map_map]
  have e : (mkS ∘ TL.tl) = id := by funext z; exact TL.mk_tl z
  rw [e, List.map_id]
def splitD : D → List D → Option D
  | .str s, [.str [c]] => if c < 256 ∧ s.length + 2 ≤ lineN then some (.lst ((splitN c s).map D.str)) else none
  | _, _ => none
theorem split_mk {c : Nat} (hc : c < 256) (s : List Nat) : Txt.split (mkS s) (mkS [c]) = (splitN c s).map mkS := by
  refine map_tl_mk ?_
  have h1 : TL.tl (mkS [c]) ≠ [] := by simp [TL.tl, mkS]
  have h2 := TL.split_spl (mkS s) (mkS [c]) h1 (TL.kind_ok (by simp [mkS, hc]))
  rw [h2]
  show TL.spl [c] 0 [] s = splitN c s
  rw [spl_one]
  cases e : splitN c s with
  | nil => exact absurd e (splitN_ne c s)
  | cons p ps => simp
theorem md_split {X : Cx} : MtD X "str.split" splitD := ⟨_, mt_split, fun P H x xs vx vs d e rx rxs h Q q => by
  match x, xs, h with
  | .str s, [.str [c]], h =>
    have h' : (if c < 256 ∧ s.length + 2 ≤ lineN then some (D.lst ((splitN c s).map D.str)) else none) = some d := h
    by_cases cc : c < 256 ∧ s.length + 2 ≤ lineN
    · rw [if_pos cc] at h'
      cases h'
      cases rx
      obtain ⟨v, r, rfl, r1, r2⟩ := rxs
      cases r2; cases r1
      refine ⟨mkS s, mkS [c], rfl, rfl, rfl, by rw [mkS_len, sizeLine_eq]; exact cc.2, ?_⟩
      intro p hp
      rw [split_mk cc.1]
      refine q _ _ _ (Grow.one (o := .lst _) hp) ?_
      simp only [RepD]
      exact ⟨p, _, rfl, upd_same, RepDs.of_strs⟩
    · rw [if_neg cc] at h'; cases h'⟩
end DL

/-! The D layer, part 9: names in short, errors with a field, caught errors by name. -/
namespace DL
open PySem L2
section
variable {X : Cx} {W : WX} {pos : Pos}
theorem se_v (i : Nat) {x : Str} (hN : X.N[i]? = some x := by rfl) (hv : Vis X.env.scope x := by first | exact Or.inl rfl | exact Or.inr (Or.inl rfl) | exact Or.inr (Or.inr rfl)) (hd : (x == ("__debug__" : Str)) = false := by decide)
    (hcd : (x == ("__classdict__" : Str)) = false := by decide) : SE X W (.Name x pos) (mVar i) := se_var i hN hv hd hcd
/-- a written text by its signs -/
theorem se_strL (l : List Nat) {x : Str} {j} (h : lit x = l := by decide +kernel) : SE X W (.Constant (.str x) j pos) (Mm.ret (.v (.str l))) := by
  subst h
  exact se_str
/-- what a module's name stands for -/
def GlobD (K : PySem.W.Frag) (mg : Str → Option Value) (x : Str) (d : D) : Prop := ∃ (u : Value) (v : V), mg x = some u ∧ RelV v u ∧ ∀ P, RepD K P d v
theorem se_globD {x : Str} {d : D} (h : GlobD X.K X.mg x d) (hg : Gl X x := by rfl) (hd : (x == ("__debug__" : Str)) = false := by decide) : SE X W (.Name x pos) (Mm.ret (.v d)) := by
  obtain ⟨u, v, h1, h2, h3⟩ := h
  exact se_glob hg h1 h2 h3 hd
/-- data that the top has laid -/
def ValD (K : PySem.W.Frag) (d : D) (u : Value) : Prop := ∃ v, RelV v u ∧ ∀ P, RepD K P d v
def ValDs (K : PySem.W.Frag) (ds : List D) (us : List Value) : Prop := ∃ vs, Vals vs us ∧ ∀ P, RepDs K P ds vs
section
variable {K : PySem.W.Frag}
theorem vd_non : ValD K .non .none := ⟨.non, rfl, fun P => by simp only [RepD]⟩
theorem vd_bl {b : Bool} : ValD K (.bl b) (.bool b) := ⟨.bl b, rfl, fun P => by simp only [RepD]⟩
theorem vd_int {i : Int} {t : Tok} : ValD K (.int i) (.int i t) := ⟨.int i, ⟨t, rfl⟩, fun P => by simp only [RepD]⟩
theorem vd_str (l : List Nat) {x : Str} {t : Tok} (h : lit x = l := by decide +kernel) : ValD K (.str l) (.str x t) := ⟨.str x, ⟨t, rfl⟩, fun P => by subst h; simp only [RepD, mkS_lit]⟩
theorem vds_nil : ValDs K [] [] := ⟨[], .nil, fun P => by simp only [RepDs]⟩
theorem vds_cons {d : D} {ds : List D} {u : Value} {us : List Value} (h : ValD K d u) (r : ValDs K ds us) : ValDs K (d :: ds) (u :: us) := by
  obtain ⟨v, h1, h2⟩ := h
  obtain ⟨vs, h3, h4⟩ := r
  exact ⟨v :: vs, .cons h1 h3, fun P => by simp only [RepDs]; exact ⟨v, vs, rfl, h2 P, h4 P⟩⟩
theorem vd_tup {ds : List D} {a : Addr} {od : Option Addr} {its : Array Value} {n : Nat} {sl : Array (Option Value)} (l : K.lookup a = some ⟨.type "tuple", od, .seq its n, sl⟩) (hz : its.size ≤ 1000) (h : ValDs K ds its.toList) : ValD K (.tup ds) (.ref a) := by
  obtain ⟨vs, h1, h2⟩ := h
  exact ⟨.ref a, rfl, fun P => by simp only [RepD]; exact ⟨a, vs, rfl, .inr ⟨_, its, n, l, rfl, rfl, Nat.le_trans hz (by decide), h1⟩, h2 P⟩⟩
theorem glob_of {mg : Str → Option Value} {x : Str} {d : D} {u : Value} (h : ValD K d u) (e : mg x = some u) : GlobD K mg x d := by
  obtain ⟨v, h1, h2⟩ := h
  exact ⟨u, v, e, h1, h2⟩
end

/-! ### -x; a < b < c -/
def mNeg (f : Mm SV) : Mm SV := f.bind fun x => fun _ S => match x with
  | .v (.int i) => some (.ok (.v (.int (-i))) S)
  | _ => none
theorem se_neg {e : Expr} {f : Mm SV} (h : SE X W e f) : SE X W (.UnaryOp .USub e pos) (mNeg f) := by
  obtain ⟨t, h1, h2⟩ := h
  refine ⟨_, pe_un un_neg h1, fun P L σ H G S R RG => ?_⟩
  refine At.bind (t := t) (k := fun x σ H1 Q => rU (fun i => V.int (-i)) x H1 Q) RG (h2 P L σ H G S R RG) fun P1 L1 H1 S1 x y e1 l1 R1 RG1 rx => ?_
  intro r h Q q
  cases x with
  | x _ _ _ => cases h
  | o i => cases h
  | v d =>
    cases d with
    | int i =>
      cases h
      cases rx
      exact ⟨i, rfl, q P1 L1 H1 _ (Same.refl _) (LExt.refl _) R1 (by simp only [rV, RepV, RepD])⟩
    | _ => cases h
def mChain (g g' : D → D → Option D) (fa fb fc : Mm SV) : Mm SV := fa.bind fun x => fb.bind fun y => (op2 g x y).bind fun z => (asB z).bind fun b => if b then fc.bind fun w => op2 g' y w else Mm.ret (.v (.bl false))
theorem ev_chain {K : PySem.W.Frag} {mg : Str → Option Value} {r r' : R2} {g g' : D → D → Option D} (hr : OpDR K r g) (hr' : OpDR K r' g') {ta tb tc : TE} {fa fb fc : Mm SV} (ha : EvR K mg (rV K) W ta fa) (hb : EvR K mg (rV K) W tb fb) (hc : EvR K mg (rV K) W tc fc) :
    EvR K mg (rV K) W (tChain r r' ta tb tc) (mChain g g' fa fb fc) := by
  intro P L σ H G S R RG
  refine At.bind (t := ta) (k := fun x σ H1 Q => tb σ H1 fun y H2 => r x y H2 fun z H3 => ∃ k, z = .bl k ∧ (if k = true then tc σ H3 fun w' H4 => r' y w' H4 Q else Q (.bl false) H3)) RG (ha P L σ H G S R RG) fun P1 L1 H1 S1 x vx e1 l1 R1 RG1 rx => ?_
  refine At.bind (t := tb) (k := fun y σ H2 Q => r vx y H2 fun z H3 => ∃ k, z = .bl k ∧ (if k = true then tc σ H3 fun w' H4 => r' y w' H4 Q else Q (.bl false) H3)) RG1 (hb P1 L1 σ H1 G S1 R1 RG1) fun P2 L2 H2 S2 y vy e2 l2 R2 RG2 ry => ?_
  intro rr h Q q
  unfold op2 Mm.bind at h
  cases c1 : rd S2 x with
  | none => simp only [c1] at h; cases h
  | some a =>
    cases c2 : rd S2 y with
    | none => simp only [c1, c2] at h; cases h
    | some b =>
      simp only [c1, c2] at h
      cases c3 : g a b with
      | none => simp only [c3, Option.map_none] at h; cases h
      | some d =>
        simp only [c3, Option.map_some] at h
        refine hr P2 H2 a b vx vy d R2.fr (rd_rep R2 (RepV.mono e2 l2 rx) c1) (rd_rep R2 ry c2) c3 _ fun P3 H3 v3 gr rd3 => ?_
        obtain ⟨R3, e3⟩ := gr.relH R2
        cases d with
        | bl k =>
          cases rd3
          refine ⟨k, rfl, ?_⟩
          simp only [asB] at h
          cases k with
          | false =>
            rw [if_neg Bool.false_ne_true]
            cases h
            exact q P3 L2 H3 _ e3 (LExt.refl _) R3 (by simp only [rV, RepV, RepD])
          | true =>
            rw [if_pos rfl]
            have h' : Mm.bind fc (fun w => op2 g' y w) G S2 = some rr := h
            have RG3 : RelG K P3 L2 σ G := RG2.mono e3 (LExt.refl _)
            refine (At.bind (t := tc) (k := fun w' σ H4 Q => r' vy w' H4 Q) RG3 (hc P3 L2 σ H3 G S2 R3 RG3) fun P4 L4 H4 S4 z vz e4 l4 R4 RG4 rz => ?_) rr h' Q (q.mono e3 (LExt.refl _))
            intro r2 h2 Q2 q2
            unfold op2 at h2
            cases c4 : rd S4 y with
            | none => simp only [c4] at h2; cases h2
            | some b2 =>
              cases c5 : rd S4 z with
              | none => simp only [c4, c5] at h2; cases h2
              | some zd =>
                simp only [c4, c5] at h2
                cases c6 : g' b2 zd with
                | none => simp only [c6, Option.map_none] at h2; cases h2
                | some d2 =>
                  simp only [c6, Option.map_some] at h2
                  cases h2
                  refine hr' P4 H4 b2 zd vy vz d2 R4.fr (rd_rep R4 (RepV.mono (e3.trans e4) l4 ry) c4) (rd_rep R4 rz c5) c6 _ fun P5 H5 v5 gr5 rd5 => ?_
                  obtain ⟨R5, e5⟩ := gr5.relH R4
                  exact q2 P5 L4 H5 _ e5 (LExt.refl _) R5 rd5
        | _ => cases h
section
variable {a b c : Expr} {fa fb fc : Mm SV} {op op' : CmpOp} {g g' : D → D → Option D}
theorem se_chain (ho : OpD X (compareOp op) g) (ho' : OpD X (compareOp op') g') (ha : SE X W a fa) (hb : SE X W b fb) (hc : SE X W c fc)
    (hm : lastMarks [op, op'] [b, c] = false := by with_unfolding_all rfl) : SE X W (.Compare a [op, op'] [b, c] pos) (mChain g g' fa fb fc) := by
  obtain ⟨r, o1, o2⟩ := ho
  obtain ⟨r', p1, p2⟩ := ho'
  obtain ⟨ta, a1, a2⟩ := ha
  obtain ⟨tb, b1, b2⟩ := hb
  obtain ⟨tc, c1, c2⟩ := hc
  exact ⟨_, pe_chain o1 p1 a1 b1 c1 hm, ev_chain o2 p2 a2 b2 c2⟩
theorem st_chain (ho : OpD X (compareOp op) g) (ho' : OpD X (compareOp op') g') (ha : SE X W a fa) (hb : SE X W b fb) (hc : SE X W c fc)
    (hm : lastMarks [op, op'] [b, c] = false := by with_unfolding_all rfl) : STe X W (.Compare a [op, op'] [b, c] pos) ((mChain g g' fa fb fc).bind asB) := by
  obtain ⟨r, o1, o2⟩ := ho
  obtain ⟨r', p1, p2⟩ := ho'
  obtain ⟨ta, a1, a2⟩ := ha
  obtain ⟨tb, b1, b2⟩ := hb
  obtain ⟨tc, c1, c2⟩ := hc
  exact ⟨_, pt_chain o1 p1 a1 b1 c1 hm, ev_test (ev_chain o2 p2 a2 b2 c2)⟩
end
end

/-! ### own errors with one field -/
/-- what an own __init__ promises that stores its one argument -/
def spI (C : Addr) (n : Str) : Sp := fun vs H Q _ => ∃ a y, vs = [.ref a, y] ∧ H a = some (exo a C none) ∧ ∀ dx, H dx = none → dx ≠ a → Q .non (upd (upd H dx (exd dx [(n, y)])) a (exo a C (some dx)))
theorem ok_initF {P : Program} {w : World} {K : PySem.W.Frag} {mg : Str → Option Value} {base : Heap} {qual n : Str} {st : Stmt} {f C : Addr} {fd : FuncData} {p1 p2 p3 p4 : Pos} {y : Str} (F : Fun K "__init__" qual st f fd) (T : OexC K C)
    (hno : PySem.W.findIn K (.ref C) n = some none) (sc : FnScope [("self" : Str), y] [("self" : Str), y] (defScope st)) (hb : defBody st = [.Assign [.Attribute (.Name "self" p1) n p2] (.Name y p3) p4] := by rfl)
    (h0 : ∀ (X : Cx), X.N = [("self" : Str), y] → X.env.scope = defScope st → PE X (.Name "self" p1) (tVar 0) ∧ PE X (.Name y p3) (tVar 1) ∧ swapsWith (.Name y p3) (some (.Attribute (.Name "self" p1) n p2)) p4.line X.env = pure false) :
    FnOk P w K mg base CX0 1 f fd [("self" : Str), y] (spI C n) := by
  refine F.ok sc (fun vs H Q E h => ?_) (fun cdv A outer s H vs Q E hr h => ?_)
  · obtain ⟨a, z, rfl, _⟩ := h
    rfl
  · obtain ⟨a, z, rfl, ha, k⟩ := h
    rw [hb]
    obtain ⟨q1, q2, q3⟩ := h0 (cxOf CX0 P w K mg base [("self" : Str), y] qual (defScope st) f cdv A outer s H E).nox rfl rfl
    refine ⟨_, pss_one (ps_ost (X := (cxOf CX0 P w K mg base [("self" : Str), y] qual (defScope st) f cdv A outer s H E).nox) q1 q2 q3), ?_⟩
    refine ⟨_, rfl, _, rfl, a, C, rfl, T, hno, .inl ⟨ha, fun dx h1 h2 => k dx h1 h2⟩⟩
def sRaiseF (c n : Str) (f : Mm SV) : Ms := sE f fun x => fun G S => match x with
  | .v d => some (.er c (some (n, d)) G S)
  | _ => none
section
variable {X : Cx} {W : WX} {C fI : Addr} {x n y : Str} {p pos pos2 : Pos} {e : Expr} {f : Mm SV} {k : Nat} {fd : FuncData}
theorem ss_raiseF (T : OexC X.K C) (iC : PySem.W.findIn X.K (.ref C) "__init__" = some (some (.ref fI))) (tI : PySem.W.typeIn X.K (.ref fI) = some (.type "function"))
    (F1 : FnOk X.prog X.w X.K X.mg X.base CX0 k fI fd [("self" : Str), y] (spI C n)) (hr : Room (k + 1) X.A) (hb : Binds X.K fd [("self" : Str), y] []) (hg : Gl X x) (hm : X.mg x = some (.ref C)) (hc : X.calm = true) (tk : Takes X W) (he : SE X W e f)
    (hdb : (x == ("__debug__" : Str)) = false := by decide) (hst : starEach (e :: []) X.env = (false, eval e X.env) :: starEach [] X.env := by rfl) (hpl : (backTo pos (starEach [] X.env)).any (·.1) = false := by rfl) :
    SS X W (.Raise (some (.Call (.Name x p) [e] [] pos)) none pos2) (sRaiseF x n f) := by
  obtain ⟨t, h1, h2⟩ := he
  refine ⟨_, ps_raise hc tk (pmk_oex T iC tI F1 hr hb .nil pass0 hg hm (pa_cons h1 pa_nil hst) hdb hst hpl), fun P L σ H G S R RG o e2 Dn z => ?_⟩
  show t σ H fun v H1 => _
  unfold sRaiseF sE at e2
  cases e3 : f G S with
  | none => rw [e3] at e2; cases e2
  | some r =>
    rw [e3] at e2
    refine h2 P L σ H G S R RG r e3 _ ?_
    cases r with
    | er c f' S1 =>
      cases e2
      exact fun P' L' H' C' dx s1 l1 R1 ex => z P' L' σ H' C' dx s1 l1 R1 (RG.mono s1 l1) ex
    | ok xv S1 =>
      cases xv with
      | x _ _ _ => cases e2
      | o i => cases e2
      | v d =>
        cases e2
        intro P1 L1 H1 v s1 l1 R1 rv
        refine ⟨(by show 1 ≤ 1000; decide), fun a ha => ⟨a, v, rfl, upd_same, fun dx hd hda => ⟨rfl, dx, [(n, v)], upd_same, ?_, ?_, ?_⟩⟩⟩
        · rw [upd_ne hda, upd_same]
        · rw [upd_ne hda] at hd; exact hd
        · have hd' : H1 dx = none := by rw [upd_ne hda] at hd; exact hd
          have eH : upd (del (upd (upd (upd H1 a (exo a C none)) dx (exd dx [(n, v)])) a (exo a C (some dx))) a) dx (.xd [(n, v)]) = upd H1 dx (.xd [(n, v)]) := by
            funext b
            by_cases hb1 : b = dx
            · subst hb1; rw [upd_same, upd_same]
            · rw [upd_ne hb1, upd_ne hb1]
              by_cases hb2 : b = a
              · subst hb2; rw [del_same, ha]
              · rw [del_ne hb2, upd_ne hb2, upd_ne hb1, upd_ne hb2]
          rw [eH]
          obtain ⟨R2, s2⟩ := (Grow.one (P := P1) (H := H1) (p := dx) (o := .xd [(n, v)]) hd').relH R1
          exact z (upd P1 dx (.xd [(n, v)])) L1 σ _ C (some dx) (s1.trans s2) l1 R2 (RG.mono (s1.trans s2) l1) ⟨hm, dx, v, rfl, upd_same, RepD.mono s2 rv⟩
end

/-! ### try .. except X as n -/
/-- behind the suite its name is gone -/
def unAs (i : Nat) : Out → Out
  | .nx G S => .nx (G.set i none) S
  | .bk G S => .bk (G.set i none) S
  | .ct G S => .ct (G.set i none) S
  | o => o
abbrev Suite := Addr → Option Addr → Str → Option (Str × D) → Ms
/-- try .. except c' as n, n in slot i: h the suite (of an error at a with the dict dx, of the class c, with the field f) -/
def sTryAs (T : Catches) (i : Nat) (b : Ms) (c' : Str) (h : Suite) : Ms := fun G S => match b G S with
  | some (.er c f G' S') => match T c c' with
    | some true => (noEr (h 0 none c f) (G'.set i (some (.x 0 none f))) S').map (unAs i)
    | some false => some (.er c f G' S')
    | none => none
  | o => o
/-- the suite's answer does not hang on where the error stands -/
def IndA (i : Nat) (T : Catches) (c' : Str) (h : Suite) : Prop := ∀ (a : Addr) (d : Option Addr) (c : Str) (f : Option (Str × D)) (G : Sl) (S : Sto), T c c' = some true → (f = none → d = none) → (h a d c f (G.set i (some (.x a d f))) S).map (unAs i) = (h 0 none c f (G.set i (some (.x 0 none f))) S).map (unAs i)
def SSa (X : Cx) (st : List Stmt) (T : Catches) (c' : Str) (h : Suite) : Prop :=
  ∀ (a : Addr) (oe : Obj) (C : Addr) (d : Option Addr) (pn : List (Addr × Obj)) (c : Str) (f : Option (Str × D)), Zc (.ref C) d oe → (∃ vs, oe.data = .fields vs) → X.mg c = some (.ref C) → T c c' = some true → SSs (X.suite a ((a, oe) :: pn)) W0 st (h a d c f)
theorem RelG.set' {K : PySem.W.Frag} {P : Hp} {L : List Addr} {σ : St} {G : Sl} (r : RelG K P L σ G) {i : Nat} {x : SV} {v : V} (h : RepV K P L x v) : RelG K P L (σ.set i (some v)) (G.set i (some x)) := by
  by_cases hi : i < G.length
  · exact r.set hi h
  · have hl := r.1
    rw [List.set_eq_of_length_le (by omega), List.set_eq_of_length_le (by omega)]
    exact r
theorem RelG.setN {K : PySem.W.Frag} {P : Hp} {L : List Addr} {σ : St} {G : Sl} (r : RelG K P L σ G) {i : Nat} : RelG K P L (σ.set i none) (G.set i none) := by
  refine ⟨by simpa using r.1, fun j x e => ?_⟩
  by_cases hj : j = i
  · subst hj
    by_cases hl : j < G.length
    · rw [List.getElem?_set_self hl] at e; cases e
    · rw [List.getElem?_eq_none (by simpa using hl)] at e; cases e
  · rw [List.getElem?_set_ne (Ne.symm hj)] at e
    obtain ⟨v, h1, h2⟩ := r.2 j x e
    exact ⟨v, by rw [List.getElem?_set_ne (Ne.symm hj)]; exact h1, h2⟩
theorem unAs_er {i : Nat} {o : Out} (h : ∀ c f G S, o ≠ .er c f G S) : ∀ c f G S, unAs i o ≠ .er c f G S := by
  cases o <;> first | exact h | (intro _ _ _ _ z; cases z)
theorem postS_unAs {K : PySem.W.Frag} {mg : Str → Option Value} {W : WX} {P : Hp} {L : List Addr} {i : Nat} {o : Out} {Dn : Ends} (ne : ∀ c f G S, o ≠ .er c f G S) (q : PostS K mg W P L (unAs i o) Dn) :
    PostS K mg W0 P L o { nx := fun σ' H' => Dn.nx (σ'.set i none) H', rt := Dn.rt, bk := fun σ' H' => Dn.bk (σ'.set i none) H', ct := fun σ' H' => Dn.ct (σ'.set i none) H' } := by
  cases o with
  | nx G S => exact fun P' L' σ' H' e l R RG => q P' L' _ H' e l R RG.setN
  | bk G S => exact fun P' L' σ' H' e l R RG => q P' L' _ H' e l R RG.setN
  | ct G S => exact fun P' L' σ' H' e l R RG => q P' L' _ H' e l R RG.setN
  | rt x S => exact q
  | er c f G S => exact absurd rfl (ne c f G S)
section
variable {X : Cx} {W : WX} {T : Catches} {body suite : List Stmt} {b₀ : Stmt} {b : Ms} {h : Suite} {x n : Str} {C' : Addr} {i : Nat} {np pos pos' : Pos}
theorem ss_try_as (i : Nat) (TC : CatOk X.K X.mg T) (hs : X.stack = X.env :: X.outer) (hf : X.env.frame = some X.env.locals) (hN : X.N.Nodup) (hi : X.N[i]? = some n) (hln : X.env.kindOf n = some .local) (hg : Gl X x) (hm : X.mg x = some (.ref C')) (hd : (x == ("__debug__" : Str)) = false) (tk : Takes X W)
    (ind : IndA i T x h) (hb : ∀ (W : WX) (pn : List (Addr × Obj)) (xe : Value → Shared → Prop), Takes (X.tr pn xe) W → PassesOwn (model X.prog X.w) X.A X.env xe → SSs (X.tr pn xe) W body b)
    (hsu : SSa X (b₀ :: suite) T x h) : SS X W (.Try body [.ExceptHandler (some (.Name x np)) (some n) (b₀ :: suite) pos'] [] [] pos) (sTryAs T i b x h) := by
  refine ⟨_, ps_try_as (i := i) (c := .ref C') (Wout := W) (tb := fun W => tsOf X.K X.mg W b) (ts := fun a cls d => fun Dn σ H => ∃ C c f, cls = .ref C ∧ X.mg c = some (.ref C) ∧ T c x = some true ∧ tsOf X.K X.mg W0 (h a d c f) Dn σ H) hs hf hN hi hln ⟨hg, hd, .inl hm⟩ tk
    (fun W pn xe tk' ho => (hb W pn xe tk' ho).pss) (fun a oe cls d pn hz hff => ⟨fun pins s σ H D I hh => ?_⟩), fun P L σ H G S R RG o e Dn q => ?_⟩
  · obtain ⟨C, c, f, rfl, hc, ht, hh'⟩ := hh
    exact (hsu a oe C d pn c f hz hff hc ht).pss.run pins s σ H D I hh'
  · unfold sTryAs at e
    cases e1 : b G S with
    | none => rw [e1] at e; cases e
    | some o1 =>
      rw [e1] at e
      refine ⟨P, L, G, S, o1, R, RG, e1, ?_⟩
      cases o1 with
      | nx G' S' => cases e; exact q
      | rt x S' => cases e; exact q
      | bk G' S' => cases e; exact q
      | ct G' S' => cases e; exact q
      | er c f G' S' =>
        intro P' L' σ' H' C dx s2 l2 R2 RG2 ex
        simp only at e
        cases e2 : T c x with
        | none => rw [e2] at e; cases e
        | some bb =>
          rw [e2] at e
          refine ⟨bb, TC.ok c x bb C C' e2 ex.1 hm, ?_, ?_⟩
          · intro hbb
            subst hbb
            intro a ha
            obtain ⟨o2, h1, h2⟩ := Option.map_eq_some_iff.mp e
            obtain ⟨h3, h4⟩ := noEr_of h1
            have hx := ind a dx c f G' S' e2 (fun z => by subst z; exact ex.2)
            rw [h3, Option.map_some, h2] at hx
            obtain ⟨o3, h5, h6⟩ := Option.map_eq_some_iff.mp hx
            have rx : RepV X.K P' L' (.x a dx f) (.ref a) := ⟨rfl, fun n d z => by
              subst z
              obtain ⟨aa, u, k1, k2, k3⟩ := ex.2
              exact ⟨aa, u, k1, k2, k3⟩⟩
            refine ⟨C, c, f, rfl, ex.1, e2, P', L', _, S', o3, R2, RG2.set' rx, h5, ?_⟩
            have ne3 : ∀ c f G S, o3 ≠ .er c f G S := by
              have := unAs_er (i := i) h4
              rw [h2, ← h6] at this
              intro c f G S z
              subst z
              exact this c f G S rfl
            refine postS_unAs (W := W) ne3 ?_
            rw [h6]
            exact q.mono s2 l2
          · intro hbb
            subst hbb
            cases e
            exact q P' L' σ' H' C dx s2 l2 R2 RG2 ex
end
/-- n.f, the caught error in slot i -/
def mFld (a : Addr) (d : Option Addr) (i : Nat) (n : Str) : Mm SV := fun G S => match G[i]? with
  | some (some (.x a' d' (some (n', y)))) => if a' = a ∧ d' = d ∧ n' = n then some (.ok (.v y) S) else none
  | _ => none
theorem se_fld {X : Cx} {W : WX} {a C : Addr} {oe : Obj} {d : Option Addr} {pn : List (Addr × Obj)} {x n : Str} {pos p : Pos} (i : Nat) (T : XfC X.K C) (hno : PySem.W.findIn X.K (.ref C) n = some none) (hz : Zc (.ref C) d oe) (hf : ∃ vs, oe.data = .fields vs)
    (hN : X.N[i]? = some x := by rfl) (hv : Vis X.env.scope x := by first | exact Or.inl rfl | exact Or.inr (Or.inl rfl) | exact Or.inr (Or.inr rfl)) (hd : (x == ("__debug__" : Str)) = false := by decide) (hcd : (x == ("__classdict__" : Str)) = false := by decide)
    (hb : attributeBase (.Name x p) n X.env (eval (.Name x p) X.env) = eval (.Name x p) X.env := by rfl) : SE (X.suite a ((a, oe) :: pn)) W (.Attribute (.Name x p) n pos) (mFld a d i n) := by
  refine ⟨_, pe_xf T hno hz hf (pe_var (i := i) hN hv hd hcd) hb, fun P L σ H G S R RG r h Q q => ?_⟩
  unfold mFld at h
  cases e1 : G[i]? with
  | none => rw [e1] at h; cases h
  | some g =>
    rw [e1] at h
    cases g with
    | none => cases h
    | some xv =>
      cases xv with
      | v _ => cases h
      | o _ => cases h
      | x a' d' f =>
        cases f with
        | none => cases h
        | some p =>
          obtain ⟨n', y⟩ := p
          simp only at h
          by_cases c : a' = a ∧ d' = d ∧ n' = n
          · rw [if_pos c] at h
            cases h
            obtain ⟨rfl, rfl, rfl⟩ := c
            obtain ⟨v, h1, h2, h3⟩ := RG.2 i _ e1
            obtain ⟨aa, u, k1, k2, k3⟩ := h3 _ _ rfl
            subst h2
            refine ⟨_, h1, rfl, rfl, aa, _, u, k1, R.fr _ _ k2, by simp [List.lookup], ?_⟩
            exact q P L H u (Same.refl _) (LExt.refl _) R k3
          · rw [if_neg c] at h; cases h
/-! ### isinstance(n, X), n the caught error -/
structure ExcI (K : PySem.W.Frag) (D : Addr) : Prop where
  hc : (PySem.W.clsIn K D).isSome = true
  hg : PySem.W.findIn K (.ref D) "__getattribute__" = some (some (.builtin "BaseException.__getattribute__"))
  hk : PySem.W.findIn K (.ref D) "__getattr__" = some none
  hs : PySem.W.subIn K (.ref D) (.type "BaseException") = some true
  ha : PySem.W.findIn K (.ref D) "__class__" = some (some (.builtin "object.__class__"))
  hn : PySem.W.specialIn K (.builtin "object.__class__") "__get__" = some (some (.builtin "getset_descriptor.__get__"))
  ht : PySem.W.takesIn K (.builtin "object.__class__") = some true
  hm : PySem.W.mroIn K D (.type "object") = some true
def rIsE2 (K : PySem.W.Frag) (D a : Addr) (d : Option Addr) : List V → Hp → VK → Prop := fun xs H Q => ∃ (c : V) (cv : Value) (b : Bool), xs = [.ref a, c] ∧ (∀ u, RelV c u → u = cv) ∧ (∃ dd fs, d = some dd ∧ H dd = some (.xd fs)) ∧ PySem.W.kitOne K (.ref D) cv = some b ∧ Q (.bl b) H
theorem call_isE2 {X : Cx} {a D : Addr} {d : Option Addr} {oe : Obj} {pn : List (Addr × Obj)} (C : ExcI X.K D) (hz : Zc (.ref D) d oe) (hf : ∃ vs, oe.data = .fields vs) : CallR (X.suite a ((a, oe) :: pn)) (.builtin "isinstance") (rIsE2 X.K D a d) := by
  intro pins s σ H xs us Q I r h
  obtain ⟨c, cv, b, rfl, hcv, ⟨dd, fs, rfl, ed⟩, e, q⟩ := h
  cases r with
  | cons rx rr =>
    cases rr with
    | cons rt rr =>
      cases rr
      cases rx
      have ec := hcv _ rt
      subst ec
      obtain ⟨hget, _⟩ := I.pin (a, oe) (List.mem_append_left _ List.mem_cons_self)
      obtain ⟨vs, hv⟩ := hf
      have hx : ObjOk X.prog X.w H s.heap dd (.xd fs) := I.hok dd _ ed
      obtain ⟨mA, hns, hr⟩ := hx
      obtain ⟨od, ho, hl⟩ := lookIn_ns hns
      have J : PySem.W.InstAt s.heap a oe D (some od) := ⟨hget, hz.1, by unfold PySem.W.notCls; rw [hv] <;> rfl, by rw [hz.2]; exact ho⟩
      exact PySem.W.kia_one (PySem.W.kitx_exc C.hc C.hg C.hk C.hs C.ha C.hn C.ht C.hm) I.kIn J e (fun z => nomatch z) fun tk => ⟨.bl b, H, I.kept (t' := tk) fun _ _ z => z, rfl, q⟩
def mIsE (a : Addr) (d : Option Addr) (i : Nat) (b : Bool) : Mm SV := fun G S => match G[i]? with
  | some (some (.x a' d' (some _))) => if a' = a ∧ d' = d then some (.ok (.v (.bl b)) S) else none
  | _ => none
theorem se_isE {X : Cx} {W : WX} {a D : Addr} {oe : Obj} {d : Option Addr} {pn : List (Addr × Obj)} {x : Str} {e2 : Expr} {cv : Value} {c : V} {b : Bool} {pos p p1 : Pos} (i : Nat) (C : ExcI X.K D) (hz : Zc (.ref D) d oe) (hf : ∃ vs, oe.data = .fields vs)
    (he : PE (X.suite a ((a, oe) :: pn)) e2 (tC c)) (hc : ∀ u, RelV c u → u = cv) (hk : PySem.W.kitOne X.K (.ref D) cv = some b) (hm : X.mg "isinstance" = none) (hg : Gl (X.suite a ((a, oe) :: pn)) "isinstance" := by rfl)
    (hN : X.N[i]? = some x := by rfl) (hv : Vis X.env.scope x := by first | exact Or.inl rfl | exact Or.inr (Or.inl rfl) | exact Or.inr (Or.inr rfl)) (hd : (x == ("__debug__" : Str)) = false := by decide) (hcd : (x == ("__classdict__" : Str)) = false := by decide)
    (hst : starEach (.Name x p1 :: [e2]) X.env = (false, eval (.Name x p1) X.env) :: starEach [e2] X.env := by rfl) (hst2 : starEach (e2 :: []) X.env = (false, eval e2 X.env) :: starEach [] X.env := by rfl)
    (hpl : (backTo pos (starEach [e2] X.env)).any (·.1) = false := by rfl) :
    SE (X.suite a ((a, oe) :: pn)) W (.Call (.Name "isinstance" p) [.Name x p1, e2] [] pos) (mIsE a d i b) := by
  refine ⟨_, pe_callB (call_isE2 C hz hf) hg hm (by decide +kernel) (pa_cons (pe_var (i := i) hN hv hd hcd) (pa_cons he pa_nil hst2) hst) (by decide) (by decide) hst hpl, fun P L σ H G S R RG r h Q q => ?_⟩
  unfold mIsE at h
  cases e1 : G[i]? with
  | none => rw [e1] at h; cases h
  | some g =>
    rw [e1] at h
    cases g with
    | none => cases h
    | some xv =>
      cases xv with
      | v _ => cases h
      | o _ => cases h
      | x a' d' f =>
        cases f with
        | none => cases h
        | some p =>
          obtain ⟨n', y⟩ := p
          simp only at h
          by_cases cc : a' = a ∧ d' = d
          · rw [if_pos cc] at h
            cases h
            obtain ⟨rfl, rfl⟩ := cc
            obtain ⟨v, h1, h2, h3⟩ := RG.2 i _ e1
            obtain ⟨aa, u, k1, k2, k3⟩ := h3 _ _ rfl
            subst h2
            refine ⟨_, h1, c, cv, b, rfl, hc, ⟨aa, _, k1, R.fr _ _ k2⟩, hk, ?_⟩
            exact q P L H _ (Same.refl _) (LExt.refl _) R (by simp only [rV, RepV, RepD])
          · rw [if_neg cc] at h; cases h
end DL

/-! The D layer, part 10: replace with a count. -/
namespace DL.RP
open PySem PySem.Builtin PySem.Builtin.Str PySem.StrLaws
section
variable {prog : Program} {w : World} {A : Around} {E : Value → Shared → Prop} {s : Shared} {x y z : Str} {t u v r : Tok} {Q : Value → Shared → Prop}
/-- the text with at most k places exchanged -/
def repK (x y z : Str) (k : Nat) : Str := if ((occurrences x y 0 x.length k).isEmpty || (y.length == 0 && z.length == 0)) = true then x else glued z (partsBetween x (occurrences x y 0 x.length k) y.length)
theorem repK_len (x y z : Str) (k : Nat) (hk : 0 < y.length) : (repK x y z k).length ≤ x.length + k * z.length := by
  unfold repK
  have h1 := occ_length_le x y 0 x.length k
  have hy : (glued y (partsBetween x (occurrences x y 0 x.length k) y.length)).length = x.length := by rw [glued_between_self]
  rw [size_glued, length_partsBetween, Nat.add_sub_cancel] at hy
  have h2 : (occurrences x y 0 x.length k).length * z.length ≤ k * z.length := Nat.mul_le_mul_right _ h1
  split
  · omega
  · rw [size_glued, length_partsBetween, Nat.add_sub_cancel]
    omega
theorem gives_repK (x y z : Str) (k : Nat) (t u v r : Tok) (hk : k < 1000)
    (hf : ((occurrences x y 0 x.length k).isEmpty || (y.length == 0 && z.length == 0)) = false →
      (u == 0 || v == 0) = false ∧ (u == v) = false ∧ (y == z) = false ∧ tooLong (x.length + (occurrences x y 0 x.length k).length * z.length) = false) :
    Gives («str.replace» ⟨[.str x t, .str y u, .str z v, .int (k : Int) r], []⟩) (if ((occurrences x y 0 x.length k).isEmpty || (y.length == 0 && z.length == 0)) = true then .val (.str x t) else .str (glued z (partsBetween x (occurrences x y 0 x.length k) y.length))) := by
  show Gives (do let limit ← countLimit "str.replace" (some (.int (k : Int) r)) (x.length + 1); _) _
  rw [countLimit_int "str.replace" (k : Int) r (x.length + 1) (by simp; omega)]
  have hn : (if ((k : Int) < 0) then x.length + 1 else (k : Int).toNat) = k := by
    rw [if_neg (by omega)]
    exact Int.toNat_natCast k
  rw [hn]
  show Gives (if ((occurrences x y 0 x.length k).isEmpty || (y.length == 0 && z.length == 0)) = true then (do rule "str.replace.nothing"; ret (.str x t)) else
          (do let same ← isSame (.str y u) (.str z v)
              if same = true then (do rule "str.replace.old-is-new"; ret (.str x t)) else
              if tooLong (x.length + (occurrences x y 0 x.length k).length * z.length) = true then unsupported "str.replace:memory" else
              retStr (glued z (partsBetween x (occurrences x y 0 x.length k) y.length)))) _
  cases hc : ((occurrences x y 0 x.length k).isEmpty || (y.length == 0 && z.length == 0))
  · obtain ⟨h0, huv, hyz, hl⟩ := hf hc
    rw [isSame_str_other y z u v h0 huv hyz, hl]
    exact .of_eq rfl
  · exact .rule (.of_eq rfl)
theorem replaceK {k : Nat} (hk : k < 1000) (hy0 : 0 < y.length) (hu : u ≠ 0) (hv : v ≠ 0) (huv : u ≠ v) (hyz : (y == z) = false) (hb : x.length + k * z.length ≤ 16777216)
    (hq : ∀ t' k', Q (.str (repK x y z k) t') { s with toks := k' }) : wpAny (model prog w) A (call (.builtin "str.replace") [.str x t, .str y u, .str z v, .int (k : Int) r]) Q E s := by
  have hl : tooLong (x.length + (occurrences x y 0 x.length k).length * z.length) = false := by
    have h1 := occ_length_le x y 0 x.length k
    have h2 : (occurrences x y 0 x.length k).length * z.length ≤ k * z.length := Nat.mul_le_mul_right _ h1
    unfold tooLong sizeLine
    exact decide_eq_false (by omega)
  refine call_gives F.slot_str_replace (typeIs_str _ _ _) F.entry_str_replace (F.args_str_replace_4 _ _ _ _)
    (gives_repK x y z k t u v r hk fun _ => ⟨by simp [hu, hv], by simp [huv], hyz, hl⟩) ?_
  have hq' := hq
  have hlen := repK_len x y z k hy0
  unfold repK at hq' hlen
  cases hc : ((occurrences x y 0 x.length k).isEmpty || (y.length == 0 && z.length == 0))
  · rw [hc] at hq' hlen
    simp only [Bool.false_eq_true, if_false] at hq' hlen ⊢
    exact ⟨by rw [sizeLine_eq]; omega, hq' _ _⟩
  · rw [hc] at hq'
    simp only [if_true] at hq' ⊢
    exact hq' t s.toks
end
theorem mem_glued {c : Nat} {z : Str} : ∀ {ps : List Str}, c ∈ (glued z ps).cps.toList → c ∈ z.cps.toList ∨ ∃ p ∈ ps, c ∈ p.cps.toList := by
  have fold : ∀ (r : List Str) (acc : Array Nat), c ∈ (r.foldl (fun acc p => acc ++ z.cps ++ p.cps) acc).toList → c ∈ acc.toList ∨ c ∈ z.cps.toList ∨ ∃ p ∈ r, c ∈ p.cps.toList := by
    intro r
    induction r with
    | nil => intro acc h; exact .inl h
    | cons p r ih =>
      intro acc h
      rw [List.foldl_cons] at h
      rcases ih _ h with h | h | ⟨q, hq, h⟩
      · simp only [Array.toList_append, List.mem_append] at h
        rcases h with (h | h) | h
        · exact .inl h
        · exact .inr (.inl h)
        · exact .inr (.inr ⟨p, List.mem_cons_self, h⟩)
      · exact .inr (.inl h)
      · exact .inr (.inr ⟨q, List.mem_cons_of_mem _ hq, h⟩)
  intro ps h
  cases ps with
  | nil => simp [glued, Str.empty] at h
  | cons p r =>
    have h' : c ∈ (r.foldl (fun acc p => acc ++ z.cps ++ p.cps) p.cps).toList := h
    rcases fold r p.cps h' with h | h | ⟨q, hq, h⟩
    · exact .inr ⟨p, List.mem_cons_self, h⟩
    · exact .inl h
    · exact .inr ⟨q, List.mem_cons_of_mem _ hq, h⟩
theorem mem_partsFrom {c : Nat} {x : Str} {w : Nat} : ∀ {cuts : List Nat} {a : Nat} {p : Str}, p ∈ partsFrom x w a cuts → c ∈ p.cps.toList → c ∈ x.cps.toList
  | [], a, p, hp, hc => by
    simp only [partsFrom, List.mem_singleton] at hp
    subst hp
    simp only [strSub, Array.toList_extract, List.extract_eq_take_drop] at hc
    exact List.mem_of_mem_drop (List.mem_of_mem_take hc)
  | k :: r, a, p, hp, hc => by
    simp only [partsFrom, List.mem_cons] at hp
    rcases hp with hp | hp
    · subst hp
      simp only [strSub, Array.toList_extract, List.extract_eq_take_drop] at hc
      exact List.mem_of_mem_drop (List.mem_of_mem_take hc)
    · exact mem_partsFrom hp hc
theorem mem_repK {c : Nat} {x y z : Str} {k : Nat} (h : c ∈ (repK x y z k).cps.toList) : c ∈ x.cps.toList ∨ c ∈ z.cps.toList := by
  unfold repK at h
  split at h
  · exact .inl h
  · rw [partsBetween_eq] at h
    rcases mem_glued h with h | ⟨p, hp, h⟩
    · exact .inr h
    · exact .inl (mem_partsFrom hp h)
end DL.RP
namespace DL
open PySem L2
/-- s with z for y at the first k places -/
def repKN (y z : List Nat) (k : Nat) (s : List Nat) : List Nat := (RP.repK (mkS s) (mkS y) (mkS z) k).cps.toList
theorem repKN_len {y z : List Nat} (k : Nat) (s : List Nat) (hy : y ≠ []) : (repKN y z k s).length ≤ s.length + k * z.length := by
  have h := RP.repK_len (mkS s) (mkS y) (mkS z) k (by rw [mkS_len]; exact List.length_pos_iff.mpr hy)
  rw [mkS_len, mkS_len] at h
  unfold repKN
  rw [Array.length_toList]
  exact h
theorem mem_repKN {y z s : List Nat} {k c : Nat} (h : c ∈ repKN y z k s) : c ∈ s ∨ c ∈ z := RP.mem_repK h
theorem mkS_repKN (y z : List Nat) (k : Nat) (s : List Nat) : mkS (repKN y z k s) = RP.repK (mkS s) (mkS y) (mkS z) k := by unfold repKN mkS; rfl

/-! ### a token is out -/
def SET (X : Cx) (W : WX) (e : Expr) (f : Mm SV) : Prop := ∃ t, PET X e t ∧ EvR X.K X.mg (rV X.K) W t f
def SST (X : Cx) (W : WX) (st : Stmt) (g : Ms) : Prop := ∃ t, PST X st t ∧ EvS X.K X.mg W t g
def SSsT (X : Cx) (W : WX) (st : List Stmt) (g : Ms) : Prop := ∃ t, PSsT X st t ∧ EvS X.K X.mg W t g
section
variable {X : Cx} {W : WX} {st : Stmt} {rest : List Stmt} {g h : Ms} {o e : Expr} {f fe : Mm SV} {pos : Pos}
theorem sst_of (h : SS X W st g) : SST X W st g := by
  obtain ⟨t, h1, h2⟩ := h
  exact ⟨t, PST.of h1, h2⟩
theorem ssst_cons (h1 : SST X W st g) (h2 : SSsT X W rest h) : SSsT X W (st :: rest) (sSeq g h) := by
  obtain ⟨t, a1, a2⟩ := h1
  obtain ⟨u, b1, b2⟩ := h2
  exact ⟨_, psst_cons a1 b1, ev_seq a2 b2⟩
theorem ssst_one (h1 : SST X W st g) : SSsT X W [st] g := by
  obtain ⟨t, a1, a2⟩ := h1
  refine ⟨_, CwR.psst_one a1, fun P L σ H G S R RG o e Dn q => ?_⟩
  exact a2 P L σ H G S R RG o e Dn q
theorem sst_ret (he : SET X W e f) : SST X W (.Return (some e) pos) (sRet f) := by
  obtain ⟨t, h1, h2⟩ := he
  refine ⟨_, CwR.pst_ret h1, ?_⟩
  refine ev_sE (kt := fun x Dn _ H1 => Dn.rt x H1) h2 fun P L σ H G S a b R RG rab o e Dn q => ?_
  cases e
  exact q P L H b (Same.refl _) (LExt.refl _) R rab
/-- o.replace(y, z, e) -/
def kRepK (y z : List Nat) (s : List Nat) (k : SV) : Mm SV := fun _ S => match k with
  | .v (.int i) => if 0 ≤ i ∧ i < 1000 ∧ s.length + i.toNat * z.length ≤ lineN then some (.ok (.v (.str (repKN y z i.toNat s))) S) else none
  | _ => none
def mRepK (y z : List Nat) (f fe : Mm SV) : Mm SV := f.bind fun x => match x with
  | .v (.str s) => fe.bind (kRepK y z s)
  | _ => fun _ _ => none
theorem set_repK (y z : List Nat) {yx zx : Str} {j k : Nat} {c0 c1 apos : Pos} (hy : lit yx = y := by decide +kernel) (hz : lit zx = z := by decide +kernel) (hy0 : y ≠ [] := by decide) (hyz : (yx == zx) = false := by decide) (ho : SE X W o f) (he : SE X W e fe)
    (hbase : attributeBase o "replace" X.env (eval o X.env) = eval o X.env := by rfl) (hline : (apos.endLine == pos.line) = true := by rfl)
    (hst : starEach [.Constant (.str yx) j c0, .Constant (.str zx) k c1, e] X.env = [(false, eval (.Constant (.str yx) j c0) X.env), (false, eval (.Constant (.str zx) k c1) X.env), (false, eval e X.env)] := by rfl) :
    SET X W (.Call (.Attribute o "replace" apos) [.Constant (.str yx) j c0, .Constant (.str zx) k c1, e] [] pos) (mRepK y z f fe) := by
  obtain ⟨t, a1, a2⟩ := ho
  obtain ⟨u, b1, b2⟩ := he
  refine ⟨fun σ H Q => t σ H fun x H1 => ∃ s : Str, x = V.str s ∧ u σ H1 fun w H2 => ∃ i : Int, w = V.int i ∧ 0 ≤ i ∧ i < 1000 ∧ s.length + i.toNat * zx.length ≤ 16777216 ∧ Q (V.str (RP.repK s yx zx i.toNat)) H2, ?_, fun P L σ H G S R RG => ?_⟩
  · intro pins s σ H Q h0 I h
    refine PySem.wpAny_Call_method_lateS hbase (by rw [hst]; rfl) hline ?_
    rw [hst]
    refine wpAny_mono (PySem.wpAny_toks (a1.run pins s σ H _ I h)) (fun v s1 q => ?_) fun _ _ z => z.2
    obtain ⟨hk, v', H1, I1, r1, x, e1, q⟩ := q
    subst e1
    obtain ⟨tx, e2⟩ := r1
    subst e2
    refine ⟨"str", _, PySem.F.plainAttrs_str, PySem.F.slot_str_replace, PySem.F.type_str_replace, typeIs_str _ _ _, (fun _ e => nomatch e), Calls.callWith_builtin rfl (Calls.evalArgs_plain (Calls.spliced_cons ?_))⟩
    refine Calls.Constant_str (k := j) (pos := c0) (Calls.spliced_cons ?_)
    refine Calls.Constant_str (k := k) (pos := c1) (Calls.spliced_cons ?_)
    refine thn (b1.run pins _ σ H1 _ (I1.tok _) q) fun v2 s2 ⟨w, H2, I2, r2, i, e3, hi0, hi1, hb, q2⟩ => ?_
    subst e3
    obtain ⟨ti, e4⟩ := r2
    subst e4
    refine Calls.spliced_nil ?_
    obtain ⟨n, rfl⟩ : ∃ n : Nat, i = (n : Int) := ⟨i.toNat, by omega⟩
    rw [Int.toNat_natCast] at hb q2
    exact RP.replaceK (by omega) (by
      have : yx.length = y.length := by rw [← hy]; exact (Array.length_toList).symm
      rw [this]; exact List.length_pos_iff.mpr hy0) (by show s1.toks ≠ 0; omega) (by show s1.toks + 1 ≠ 0; omega) (by show s1.toks ≠ s1.toks + 1; omega) hyz hb fun t' k => ⟨.str _, H2, I2.tok k, ⟨t', rfl⟩, q2⟩
  · refine At.bind (t := t) (k := fun x σ H1 Q => ∃ s : Str, x = V.str s ∧ u σ H1 fun w H2 => ∃ i : Int, w = V.int i ∧ 0 ≤ i ∧ i < 1000 ∧ s.length + i.toNat * zx.length ≤ 16777216 ∧ Q (V.str (RP.repK s yx zx i.toNat)) H2) RG (a2 P L σ H G S R RG) fun P1 L1 H1 S1 x vx e1 l1 R1 RG1 rx => ?_
    intro rr h Q q
    cases x with
    | o _ => cases h
    | x _ _ _ => cases h
    | v d =>
      cases d with
      | str sx =>
        cases rx
        refine ⟨mkS sx, rfl, ?_⟩
        refine (At.bind (t := u) (k := fun w σ H2 Q => ∃ i : Int, w = V.int i ∧ 0 ≤ i ∧ i < 1000 ∧ (mkS sx).length + i.toNat * zx.length ≤ 16777216 ∧ Q (V.str (RP.repK (mkS sx) yx zx i.toNat)) H2) RG1 (b2 P1 L1 σ H1 G S1 R1 RG1) fun P2 L2 H2 S2 w vw e2 l2 R2 RG2 rw' => ?_) rr h Q q
        intro r2 h2 Q2 q2
        cases w with
        | o _ => cases h2
        | x _ _ _ => cases h2
        | v wd =>
          cases wd with
          | int i =>
            simp only [kRepK] at h2
            by_cases c : 0 ≤ i ∧ i < 1000 ∧ sx.length + i.toNat * z.length ≤ lineN
            · rw [if_pos c] at h2
              cases h2
              cases rw'
              have hz' : zx.length = z.length := by rw [← hz]; exact (Array.length_toList).symm
              refine ⟨i, rfl, c.1, c.2.1, by rw [mkS_len, hz']; exact c.2.2, ?_⟩
              have : RP.repK (mkS sx) yx zx i.toNat = mkS (repKN y z i.toNat sx) := by
                rw [mkS_repKN, ← hy, ← hz, mkS_lit, mkS_lit]
              rw [this]
              exact q2 P2 L2 H2 _ (Same.refl _) (LExt.refl _) R2 (by simp only [rV, RepV, RepD])
            · rw [if_neg c] at h2; cases h2
          | _ => cases h2
      | _ => cases h
end
section
variable {P : Program} {w : World} {K : PySem.W.Frag} {mg : Str → Option Value} {base : Heap}
/-- a def with a parameter: a token is out when its body begins -/
theorem fn_DT {x qual : Str} {st : Stmt} {f : Addr} {fd : FuncData} {N ps : List Str} {k : Nat} {body : Ms} (F : Fun K x qual st f fd) (S : FnScope N ps (defScope st)) (hnc : ∀ y ∈ (defScope st).names, y.2 ≠ .cell) (hps : 1 ≤ ps.length)
    (h : ∀ (cdv : Value) (A : Around) (outer : List Env) (s : Shared) (H : Hp) (E : XK), Room k (A.deeper (PyProof.Rows.envOfC qual (defScope st) s.heap.objs.size f cdv)) → SSsT (cxOf (L2.CX P w) P w K mg base N qual (defScope st) f cdv A outer s H E) (WEx E) (defBody st) body) :
    FnOk P w K mg base (L2.CX P w) (k + 1) f fd ps (spD K mg (fnD ps.length N.length body)) := by
  obtain ⟨oc, od, kV, doc, pm, an, cdv, ct, osl, rfl, lk, hcd⟩ := F.ex
  refine fn_ofT lk hcd S hnc hps (fun vs H Q E hs => ?_) fun A outer s H vs Q E hr hs => ?_
  · obtain ⟨P, L, S, xs, r, R, rx, e, _⟩ := hs
    rw [rx.len]
    unfold fnD at e
    by_cases c : xs.length = ps.length
    · exact c
    · rw [if_neg c] at e; cases e
  · obtain ⟨P1, L, S1, xs, r, R, rx, e, q⟩ := hs
    obtain ⟨t, h1, h2⟩ := h cdv A outer s H E hr
    refine ⟨t, h1, ?_⟩
    unfold fnD at e
    by_cases c : xs.length = ps.length
    · rw [if_pos c] at e
      have hl := R.len
      have RG := start_rep (N := N) rx
      rw [c] at RG
      cases e1 : body (xs.map some ++ List.replicate (N.length - ps.length) none) S1 with
      | none => rw [e1] at e; cases e
      | some o =>
        rw [e1] at e
        refine h2 P1 L _ H _ S1 R RG o e1 _ ?_
        cases o with
        | nx G' S' => exact fun P' L' σ' H' e2 l2 R2 RG2 => finT_post R2 (x := .v .non) (v := .non) (by simp only [RepV, RepD]) l2 hl e e2 q
        | rt y S' => exact fun P' L' H' v e2 l2 R2 rv => finT_post R2 rv l2 hl e e2 q
        | er c f G' S' => exact fun P' L' σ' H' C dx e2 l2 R2 RG2 ex => finE_post (W := WEx E) R2 ex l2 hl e e2 q
        | bk G' S' => cases e
        | ct G' S' => cases e
    · rw [if_neg c] at e; cases e
end
end DL

/-! The D layer, part 11: what the printed walks name. -/
namespace DL
open PySem L2
/-- an own class of errors without an own __init__, as it stands behind the top -/
structure RaisC (K : PySem.W.Frag) (C : Addr) : Prop where
  xP : PySem.W.excIn K C [.type "ValueError", .type "Exception", .type "BaseException", .type "object"] "ValueError.__new__" = true
  kP : PySem.W.keepIn K (.ref C) = true
  bP : PySem.W.subIn K (.ref C) (.type "BaseException") = some true
  tP : PySem.W.typeIn K (.ref C) = some (.type "type")
/-- one whose __init__ stores its one argument -/
structure InitC (P : Program) (w : World) (K : PySem.W.Frag) (mg : Str → Option Value) (base : Heap) (C fI : Addr) (fd : FuncData) (fld y : Str) : Prop where
  ox : OexC K C
  iC : PySem.W.findIn K (.ref C) "__init__" = some (some (.ref fI))
  tI : PySem.W.typeIn K (.ref fI) = some (.type "function")
  ok : FnOk P w K mg base CX0 1 fI fd [("self" : Str), y] (spI C fld)
  bi : Binds K fd [("self" : Str), y] []
  xf : XfC K C
  no : PySem.W.findIn K (.ref C) fld = some none
  xi : ExcI K C
theorem lookup_mem {α β : Type} [BEq α] [LawfulBEq α] {k : α} {b : β} : ∀ {l : List (α × β)}, l.lookup k = some b → (k, b) ∈ l
  | [], h => by simp at h
  | (k', b') :: r, h => by
    by_cases e : k = k'
    · subst e
      simp only [List.lookup_cons, beq_self_eq_true] at h
      cases h
      exact List.mem_cons_self
    · have e' : (k == k') = false := by simpa using e
      simp only [List.lookup_cons, e'] at h
      exact List.mem_cons_of_mem _ (lookup_mem h)
theorem catOk_of {K : PySem.W.Frag} {mg : Str → Option Value} {l : List ((Str × Str) × Bool)} (h : ∀ p ∈ l, ∀ C C', mg p.1.1 = some (.ref C) → mg p.1.2 = some (.ref C') → PySem.W.exmOne K (.ref C) (.ref C') = some p.2) :
    CatOk K mg (fun c c' => l.lookup (c, c')) := ⟨fun c c' b C C' e h1 h2 => h _ (lookup_mem e) C C' h1 h2⟩
theorem tab_inv {l : List ((Str × Str) × Bool)} {c c' d : Str} (hd : (l.all fun p => !(p.1.2 == c') || !p.2 || (p.1.1 == d)) = true) (h : l.lookup (c, c') = some true) : c = d := by
  have m := List.all_eq_true.mp hd _ (lookup_mem h)
  simpa using m
/-- an error of the class at S is what a clause of the class at C names, or not -/
theorem exm_by {K : PySem.W.Frag} {S C : Addr} {b : Bool} (h1 : PySem.W.subIn K (.ref C) (.type "BaseException") = some true) (h2 : PySem.W.isClsIn K C = true) (h3 : PySem.W.typeIn K (.ref C) = some (.type "type")) (h4 : PySem.W.subIn K (.ref S) (.ref C) = some b) :
    PySem.W.exmOne K (.ref S) (.ref C) = some b := by
  have e1 : (PySem.W.subIn K (.ref C) (.type "BaseException") == some true) = true := by rw [h1] <;> rfl
  have e2 : ((PySem.W.clsIn K C).isSome && PySem.W.typeIn K (.ref C) == some (.type "type")) = true := by
    have h2' : (PySem.W.clsIn K C).isSome = true := h2
    rw [h2', h3] <;> rfl
  show (if (PySem.W.subIn K (.ref C) (.type "BaseException") == some true) = true then (if ((PySem.W.clsIn K C).isSome && PySem.W.typeIn K (.ref C) == some (.type "type")) = true then PySem.W.subIn K (.ref S) (.ref C) else none) else none) = some b
  rw [if_pos e1, if_pos e2]
  exact h4
theorem kit_cl {K : PySem.W.Frag} {S C : Addr} {b : Bool} (h2 : PySem.W.isClsIn K C = true) (h3 : PySem.W.typeIn K (.ref C) = some (.type "type")) (h4 : PySem.W.subIn K (.ref S) (.ref C) = some b) (h5 : S = C → b = true) :
    PySem.W.kitOne K (.ref S) (.ref C) = some b := by
  have e2 : ((PySem.W.clsIn K C).isSome && PySem.W.typeIn K (.ref C) == some (.type "type")) = true := by
    have h2' : (PySem.W.clsIn K C).isSome = true := h2
    rw [h2', h3] <;> rfl
  unfold PySem.W.kitOne
  by_cases e : S = C
  · rw [if_pos (by rw [e]; simp), h5 e]
  · rw [if_neg (by simpa using e)]
    show (if ((PySem.W.clsIn K C).isSome && PySem.W.typeIn K (.ref C) == some (.type "type")) = true then PySem.W.subIn K (.ref S) (.ref C) else none) = some b
    rw [if_pos e2]
    exact h4
theorem kit_bt {K : PySem.W.Frag} {S : Addr} {T : String} {b : Bool} (h4 : PySem.W.subIn K (.ref S) (.type T) = some b) (h : PySem.W.kitMeta T = true := by decide +kernel) : PySem.W.kitOne K (.ref S) (.type T) = some b := by
  unfold PySem.W.kitOne
  rw [if_neg (by simp)]
  show (if PySem.W.kitMeta T = true then PySem.W.subIn K (.ref S) (.type T) else none) = some b
  rw [if_pos h]
  exact h4
end DL

/-! The D layer, part 12: what a denotation answers. -/
namespace DL
open PySem L2
def wp {α : Type} (o : Option α) (Q : α → Prop) : Prop := ∃ r, o = some r ∧ Q r
theorem wp_some {α : Type} {r : α} {Q : α → Prop} : wp (some r) Q ↔ Q r := ⟨fun ⟨_, h, q⟩ => by cases h; exact q, fun q => ⟨r, rfl, q⟩⟩
theorem wp_mono {α : Type} {o : Option α} {Q Q' : α → Prop} (h : wp o Q) (i : ∀ r, Q r → Q' r) : wp o Q' := by
  obtain ⟨r, e, q⟩ := h
  exact ⟨r, e, i r q⟩
def kQ (h : Ms) (Q : Out → Prop) : Out → Prop
  | .nx G S => wp (h G S) Q
  | o => Q o
theorem kQ_nx {h : Ms} {Q : Out → Prop} {G : Sl} {S : Sto} : kQ h Q (.nx G S) ↔ wp (h G S) Q := Iff.rfl
theorem kQ_rt {h : Ms} {Q : Out → Prop} {x : SV} {S : Sto} : kQ h Q (.rt x S) ↔ Q (.rt x S) := Iff.rfl
theorem kQ_bk {h : Ms} {Q : Out → Prop} {G : Sl} {S : Sto} : kQ h Q (.bk G S) ↔ Q (.bk G S) := Iff.rfl
theorem kQ_ct {h : Ms} {Q : Out → Prop} {G : Sl} {S : Sto} : kQ h Q (.ct G S) ↔ Q (.ct G S) := Iff.rfl
theorem kQ_er {h : Ms} {Q : Out → Prop} {c : Str} {f : Option (Str × D)} {G : Sl} {S : Sto} : kQ h Q (.er c f G S) ↔ Q (.er c f G S) := Iff.rfl
theorem wp_seq {g h : Ms} {G : Sl} {S : Sto} {Q : Out → Prop} : wp (sSeq g h G S) Q ↔ wp (g G S) (kQ h Q) := by
  constructor
  · rintro ⟨r, e, q⟩
    unfold sSeq at e
    cases e1 : g G S with
    | none => rw [e1] at e; cases e
    | some o =>
      rw [e1] at e
      refine ⟨o, rfl, ?_⟩
      cases o with
      | nx G' S' => exact ⟨r, e, q⟩
      | _ => cases e; exact q
  · rintro ⟨o, e, q⟩
    unfold wp sSeq
    rw [e]
    cases o with
    | nx G' S' => exact q
    | _ => exact ⟨_, rfl, q⟩
/-- behind a turn of a loop -/
def kL (n : Nat) (J : Sl → Sto → Prop) (Q : Out → Prop) : Out → Prop
  | .nx G S => (S.take n).all (MO.below n) = true ∧ J (thawG S n G) (S.take n)
  | .ct G S => (S.take n).all (MO.below n) = true ∧ J (thawG S n G) (S.take n)
  | .bk G S => Q (.nx G S)
  | o => Q o
section
variable {n : Nat} {J : Sl → Sto → Prop} {Q : Out → Prop} {G : Sl} {S : Sto}
theorem kL_nx : kL n J Q (.nx G S) ↔ (S.take n).all (MO.below n) = true ∧ J (thawG S n G) (S.take n) := Iff.rfl
theorem kL_ct : kL n J Q (.ct G S) ↔ (S.take n).all (MO.below n) = true ∧ J (thawG S n G) (S.take n) := Iff.rfl
theorem kL_bk : kL n J Q (.bk G S) ↔ Q (.nx G S) := Iff.rfl
theorem kL_rt {x : SV} : kL n J Q (.rt x S) ↔ Q (.rt x S) := Iff.rfl
theorem kL_er {c : Str} {f : Option (Str × D)} : kL n J Q (.er c f G S) ↔ Q (.er c f G S) := Iff.rfl
end
/-- a loop by what holds ahead of its i-th turn -/
theorem wp_forL {n : Nat} {g : Mg} {b : Ms} {Q : Out → Prop} (I : Nat → Sl → Sto → Prop) : ∀ {ds : List D} {i : Nat} {G : Sl} {S : Sto}, I i G S →
    (∀ j d G S, ds[j]? = some d → I (i + j) G S → wp (g (.v d) G S) fun p => wp (b p.1 p.2) (kL n (I (i + j + 1)) Q)) → (∀ G S, I (i + ds.length) G S → Q (.nx G S)) → wp (forL n g b ds G S) Q
  | [], i, G, S, h0, _, fin => ⟨_, rfl, fin G S h0⟩
  | d :: ds, i, G, S, h0, step, fin => by
    obtain ⟨⟨G1, S1⟩, e1, o, e2, q⟩ := step 0 d G S rfl h0
    have next : ∀ G3 S3, I (i + 1) G3 S3 → wp (forL n g b ds G3 S3) Q := fun G3 S3 h => wp_forL I h
      (fun j d' G S hd hi => by
        have := step (j + 1) d' G S (by simpa using hd) (by rw [show i + (j + 1) = i + 1 + j by omega]; exact hi)
        rw [show i + (j + 1) + 1 = i + 1 + j + 1 by omega] at this
        exact this)
      fun G S hi => fin G S (by rw [List.length_cons, show i + (ds.length + 1) = i + 1 + ds.length by omega]; exact hi)
    unfold wp forL
    rw [e1]
    show ∃ r, (match b G1 S1 with
      | some (.nx G2 S2) => match cutG n G2 S2 with
        | some (G3, S3) => forL n g b ds G3 S3
        | none => none
      | some (.ct G2 S2) => match cutG n G2 S2 with
        | some (G3, S3) => forL n g b ds G3 S3
        | none => none
      | some (.bk G2 S2) => some (.nx G2 S2)
      | o => o) = some r ∧ Q r
    rw [e2]
    cases o with
    | nx G2 S2 =>
      obtain ⟨hc, hj⟩ := q
      show ∃ r, (match cutG n G2 S2 with
        | some (G3, S3) => forL n g b ds G3 S3
        | none => none) = some r ∧ Q r
      unfold cutG
      rw [if_pos hc]
      exact next _ _ hj
    | ct G2 S2 =>
      obtain ⟨hc, hj⟩ := q
      show ∃ r, (match cutG n G2 S2 with
        | some (G3, S3) => forL n g b ds G3 S3
        | none => none) = some r ∧ Q r
      unfold cutG
      rw [if_pos hc]
      exact next _ _ hj
    | bk G2 S2 => exact ⟨_, rfl, q⟩
    | rt x S2 => exact ⟨_, rfl, q⟩
    | er c f G2 S2 => exact ⟨_, rfl, q⟩
theorem wp_for {fi : Mm (List D)} {g : Mg} {b : Ms} {Q : Out → Prop} {G : Sl} {S S1 : Sto} {ds : List D} (I : Nat → Sl → Sto → Prop) (e : fi G S = some (.ok ds S1)) (h0 : I 0 G S1)
    (step : ∀ i d G S, ds[i]? = some d → I i G S → wp (g (.v d) G S) fun p => wp (b p.1 p.2) (kL S1.length (I (i + 1)) Q)) (fin : ∀ G S, I ds.length G S → Q (.nx G S)) : wp (sFor fi g b G S) Q := by
  have h := wp_forL (n := S1.length) (g := g) (b := b) (Q := Q) I (ds := ds) (i := 0) (G := G) (S := S1) h0 (fun j d G S hd hi => by rw [Nat.zero_add] at hi ⊢; exact step j d G S hd hi) (fun G S hi => fin G S (by rw [Nat.zero_add] at hi; exact hi))
  unfold wp sFor sE
  rw [e]
  exact h
/-- a while by a measure -/
theorem wp_whileL {n : Nat} {c : Mm Bool} {b : Ms} {Q : Out → Prop} (I : Nat → Sl → Sto → Prop)
    (step : ∀ m G S, I m G S → wp (c G S) fun r => match r with
      | .ok true S1 => wp (b G S1) (kL n (fun G' S' => ∃ m', m' < m ∧ I m' G' S') Q)
      | .ok false S1 => Q (.nx G S1)
      | .er d f S1 => Q (.er d f G S1)) : ∀ {k m : Nat} {G : Sl} {S : Sto}, m < k → I m G S → wp (whileL c b n k G S) Q
  | 0, m, G, S, h, _ => absurd h (Nat.not_lt_zero _)
  | k + 1, m, G, S, h, hi => by
    have nx : ∀ G3 S3, (∃ m', m' < m ∧ I m' G3 S3) → wp (whileL c b n k G3 S3) Q := fun G3 S3 ⟨m', h1, h2⟩ => wp_whileL I step (by omega) h2
    obtain ⟨r, e, q⟩ := step m G S hi
    unfold wp whileL
    rw [e]
    cases r with
    | er d f S1 => exact ⟨_, rfl, q⟩
    | ok t S1 =>
      cases t with
      | false => exact ⟨_, rfl, q⟩
      | true =>
        obtain ⟨o, e2, q⟩ := q
        show ∃ r, (match b G S1 with
          | some (.nx G2 S2) => match cutG n G2 S2 with
            | some (G3, S3) => whileL c b n k G3 S3
            | none => none
          | some (.ct G2 S2) => match cutG n G2 S2 with
            | some (G3, S3) => whileL c b n k G3 S3
            | none => none
          | some (.bk G2 S2) => some (.nx G2 S2)
          | o => o) = some r ∧ Q r
        rw [e2]
        cases o with
        | nx G2 S2 =>
          obtain ⟨hc, hj⟩ := q
          show ∃ r, (match cutG n G2 S2 with
            | some (G3, S3) => whileL c b n k G3 S3
            | none => none) = some r ∧ Q r
          unfold cutG
          rw [if_pos hc]
          exact nx _ _ hj
        | ct G2 S2 =>
          obtain ⟨hc, hj⟩ := q
          show ∃ r, (match cutG n G2 S2 with
            | some (G3, S3) => whileL c b n k G3 S3
            | none => none) = some r ∧ Q r
          unfold cutG
          rw [if_pos hc]
          exact nx _ _ hj
        | bk G2 S2 => exact ⟨_, rfl, q⟩
        | rt x S2 => exact ⟨_, rfl, q⟩
        | er c' f G2 S2 => exact ⟨_, rfl, q⟩
theorem wp_while {c : Mm Bool} {b : Ms} {Q : Out → Prop} {k m : Nat} {G : Sl} {S : Sto} (I : Nat → Sl → Sto → Prop) (h : m < k) (h0 : I m G S)
    (step : ∀ m G S', I m G S' → wp (c G S') fun r => match r with
      | .ok true S1 => wp (b G S1) (kL S.length (fun G' S' => ∃ m', m' < m ∧ I m' G' S') Q)
      | .ok false S1 => Q (.nx G S1)
      | .er d f S1 => Q (.er d f G S1)) : wp (sWhile k c b G S) Q := wp_whileL (n := S.length) I step h h0

/-! ### defs -/
def finO (n : Nat) : Out → Option (Rs SV)
  | .nx _ S' => finT n (.v .non) S'
  | .rt x S' => finT n x S'
  | .er c f _ S' => finE n c f S'
  | _ => none
theorem finO_nx {n : Nat} {G : Sl} {S : Sto} : finO n (.nx G S) = finT n (.v .non) S := rfl
theorem finO_rt {n : Nat} {x : SV} {S : Sto} : finO n (.rt x S) = finT n x S := rfl
theorem finO_er {n : Nat} {c : Str} {f : Option (Str × D)} {G : Sl} {S : Sto} : finO n (.er c f G S) = finE n c f S := rfl
theorem fnD_wp {n N : Nat} {body : Ms} {xs : List SV} {S : Sto} {Q : Rs SV → Prop} (hl : xs.length = n) (h : wp (body (xs.map some ++ List.replicate (N - n) none) S) fun o => wp (finO S.length o) Q) : wp (fnD n N body xs S) Q := by
  obtain ⟨o, e, q⟩ := h
  unfold fnD
  rw [if_pos hl, e]
  cases o <;> first | exact q | (obtain ⟨r, h, _⟩ := q; cases h; done)
theorem wp_eq {α : Type} {o : Option α} {r : α} (h : wp o (· = r)) : o = some r := by
  obtain ⟨r', e, q⟩ := h
  rw [e, q]

/-! ### comprehensions -/
/-- every turn adds one item, or none -/
theorem lcL_map {n : Nat} {g : Mg} {tt : Mm Bool} {fe : Mm SV} {G : Sl} {S : Sto} (f : D → Option D) (hn : S.length = n) (hb : ∀ acc : List D, (S ++ [MO.lst acc]).all (MO.below (n + 1)) = true) :
    ∀ {ds acc : List D}, (∀ d ∈ ds, ∀ acc, ∃ G1, g (.v d) G (S ++ [.lst acc]) = some (G1, S ++ [.lst acc]) ∧ ((f d = none ∧ tt G1 (S ++ [.lst acc]) = some (.ok false (S ++ [.lst acc]))) ∨ ∃ y, f d = some y ∧ tt G1 (S ++ [.lst acc]) = some (.ok true (S ++ [.lst acc])) ∧ fe G1 (S ++ [.lst acc]) = some (.ok (.v y) (S ++ [.lst acc])))) →
      acc.length + ds.length ≤ lineN → lcL n g tt fe G ds (S ++ [.lst acc]) = some (S ++ [.lst (acc ++ ds.filterMap f)])
  | [], acc, _, _ => by simp [lcL]
  | d :: ds, acc, h, hl => by
    obtain ⟨G1, e1, e2⟩ := h d List.mem_cons_self acc
    have ht : ∀ acc : List D, (S ++ [MO.lst acc]).take (n + 1) = S ++ [MO.lst acc] := fun acc => List.take_of_length_le (by simp [hn])
    rw [List.length_cons] at hl
    rcases e2 with ⟨e2, e3⟩ | ⟨y, e2, e3, e4⟩
    · simp only [lcL, e1, e3, ht, hb, if_true]
      rw [lcL_map f hn hb (fun d' hd => h d' (List.mem_cons_of_mem _ hd)) (by omega)]
      simp [e2]
    · have hset : (S ++ [MO.lst acc]).set n (.lst (acc ++ [y])) = S ++ [.lst (acc ++ [y])] := by
        rw [List.set_append_right _ _ (by omega)]
        simp [hn]
      have hget : (S ++ [MO.lst acc])[n]? = some (.lst acc) := by
        rw [List.getElem?_append_right (by omega)]
        simp [hn]
      simp only [lcL, e1, e3, e4, ht, hb, hget, thaw, hset, true_and]
      rw [if_pos (by omega), lcL_map f hn hb (fun d' hd => h d' (List.mem_cons_of_mem _ hd)) (by simp; omega)]
      simp [e2]
theorem mLc_eq {vs : List Nat} {fi : Mm (List D)} {g : Mg} {tt : Mm Bool} {fe : Mm SV} {G : Sl} {S S1 : Sto} {ds : List D} (f : D → Option D) (e : fi G S = some (.ok ds S1)) (hb : S1.all (MO.below S1.length) = true) (hb1 : S1.all (MO.below (S1.length + 1)) = true) (hl : ds.length ≤ lineN)
    (h : ∀ d ∈ ds, ∀ acc, ∃ G1, g (.v d) (wipeG G vs) (S1 ++ [.lst acc]) = some (G1, S1 ++ [.lst acc]) ∧ ((f d = none ∧ tt G1 (S1 ++ [.lst acc]) = some (.ok false (S1 ++ [.lst acc]))) ∨ ∃ y, f d = some y ∧ tt G1 (S1 ++ [.lst acc]) = some (.ok true (S1 ++ [.lst acc])) ∧ fe G1 (S1 ++ [.lst acc]) = some (.ok (.v y) (S1 ++ [.lst acc])))) :
    mLc vs fi g tt fe G S = some (.ok (.v (.lst (ds.filterMap f))) S1) := by
  have h1 := lcL_map (n := S1.length) (g := g) (tt := tt) (fe := fe) (G := wipeG G vs) (S := S1) f rfl (fun acc => by simp [hb1, MO.below]) (ds := ds) (acc := []) h (by simpa using hl)
  unfold mLc Mm.bind
  simp only [e, h1]
  have hg : (S1 ++ [MO.lst ([] ++ ds.filterMap f)])[S1.length]? = some (.lst (ds.filterMap f)) := by
    rw [List.getElem?_append_right (Nat.le_refl _)]
    simp
  have ht : (S1 ++ [MO.lst ([] ++ ds.filterMap f)]).take S1.length = S1 := List.take_left
  simp only [hg, ht, hb, if_true]
/-- .. one item each -/
theorem mLc_map {vs : List Nat} {fi : Mm (List D)} {g : Mg} {fe : Mm SV} {G : Sl} {S S1 : Sto} {ds : List D} (f : D → D) (e : fi G S = some (.ok ds S1)) (hb : S1.all (MO.below S1.length) = true) (hb1 : S1.all (MO.below (S1.length + 1)) = true) (hl : ds.length ≤ lineN)
    (h : ∀ d ∈ ds, ∀ acc, ∃ G1, g (.v d) (wipeG G vs) (S1 ++ [.lst acc]) = some (G1, S1 ++ [.lst acc]) ∧ fe G1 (S1 ++ [.lst acc]) = some (.ok (.v (f d)) (S1 ++ [.lst acc]))) :
    mLc vs fi g mYes fe G S = some (.ok (.v (.lst (ds.map f))) S1) := by
  rw [mLc_eq (fun d => some (f d)) e hb hb1 hl fun d hd acc => ?_]
  · simp
  · obtain ⟨G1, h1, h2⟩ := h d hd acc
    exact ⟨G1, h1, .inr ⟨_, rfl, rfl, h2⟩⟩

/-! ### numbers -/
theorem mulI_small {a b : Int} (ha : a.natAbs < 2 ^ 64) (hb : b.natAbs < 2 ^ 64) : mulI (.int a) (.int b) = some (.int (a * b)) := by
  have l : ∀ n : Nat, n < 2 ^ 64 → n.log2 < 64 := fun n h => by
    by_cases h0 : n = 0
    · subst h0; decide
    · exact (Nat.log2_lt h0).mpr h
  unfold mulI i2
  have h1 := l _ ha
  have h2 := l _ hb
  simp only
  rw [if_pos (by omega)]
theorem atI_nn {α : Type} {l : List α} {i : Int} (h0 : 0 ≤ i) (h : i < l.length) : L2.atI l i = l[i.toNat]? := by
  unfold L2.atI L2.ixN
  rw [if_pos h0, if_pos h]
  rfl
theorem atI_map {α β : Type} {f : α → β} {l : List α} {i : Int} (h0 : 0 ≤ i) (h : i < l.length) : ∃ x, l[i.toNat]? = some x ∧ L2.atI (l.map f) i = some (f x) := by
  have hl : i.toNat < l.length := by omega
  refine ⟨l[i.toNat], List.getElem?_eq_getElem hl, ?_⟩
  rw [atI_nn h0 (by simpa using h), List.getElem?_map, List.getElem?_eq_getElem hl]
  rfl
theorem lineN_one : 1 ≤ lineN := by decide
theorem lineN_pos : 0 < lineN := by decide
theorem lineN_eq : lineN = 16777216 := rfl
theorem rngD_get {lo : Int} {n i : Nat} {d : D} (h : (rngD lo n)[i]? = some d) : i < n ∧ d = .int (lo + i) := by
  unfold rngD at h
  rw [List.getElem?_map] at h
  cases e : (List.range n)[i]? with
  | none => rw [e] at h; cases h
  | some k =>
    obtain ⟨h1, h2⟩ := List.getElem?_eq_some_iff.mp e
    rw [e] at h
    cases h
    rw [List.length_range] at h1
    rw [List.getElem_range] at h2
    subst h2
    exact ⟨h1, rfl⟩
theorem rngD_len {lo : Int} {n : Nat} : (rngD lo n).length = n := by simp [rngD]
theorem boolsOf_map {α : Type} (f : α → Bool) : ∀ l : List α, boolsOf (l.map fun x => D.bl (f x)) = some (l.map f)
  | [] => rfl
  | x :: l => by simp [boolsOf, boolsOf_map f l]
theorem strsOf_map : ∀ l : List (List Nat), strsOf (l.map D.str) = some l
  | [] => rfl
  | x :: l => by simp [strsOf, strsOf_map l]
theorem allD_map {α : Type} (f : α → Bool) (l : List α) : allD [.lst (l.map fun x => D.bl (f x))] = some (.bl (l.all f)) := by
  unfold allD
  simp only [boolsOf_map, Option.map_some, List.all_map]
  rfl
theorem anyD_map {α : Type} (f : α → Bool) (l : List α) : anyD [.lst (l.map fun x => D.bl (f x))] = some (.bl (l.any f)) := by
  unfold anyD
  simp only [boolsOf_map, Option.map_some, List.any_map]
  rfl
theorem okDs_str {n : Nat} : ∀ {l : List (List Nat)}, (∀ s ∈ l, vcB s = true) → okDs n (l.map D.str) = true
  | [], _ => by cases n <;> rfl
  | s :: l, h => by
    have h1 := h s List.mem_cons_self
    have h2 := okDs_str (n := n) fun s' hs => h s' (List.mem_cons_of_mem _ hs)
    cases n <;> simp only [List.map_cons, okDs, okD, h1, h2, Bool.and_self]
/-- the first piece that is none of the wanted ones -/
theorem takeWhile_at {α : Type} {p : α → Bool} : ∀ {l : List α} {i : Nat} {x : α}, (∀ y ∈ l.take i, p y = true) → l[i]? = some x → p x = false → l.takeWhile p = l.take i
  | [], i, x, _, h, _ => by simp at h
  | a :: l, 0, x, _, h, hp => by
    cases h
    simp [List.takeWhile_cons, hp]
  | a :: l, i + 1, x, h1, h2, hp => by
    have ha : p a = true := h1 a (by simp)
    rw [List.takeWhile_cons, if_pos ha, List.take_succ_cons, takeWhile_at (fun y hy => h1 y (by rw [List.take_succ_cons]; exact List.mem_cons_of_mem _ hy)) (by simpa using h2) hp]
theorem mem_splitN {c : Nat} : ∀ {s p : List Nat}, p ∈ splitN c s → ∀ x ∈ p, x ∈ s
  | [], p, h, x, hx => by
    simp [splitN] at h
    subst h
    cases hx
  | a :: s, p, h, x, hx => by
    have hne := splitN_ne c s
    cases e : splitN c s with
    | nil => exact absurd e hne
    | cons q qs =>
      have ih := fun p hp => mem_splitN (s := s) (p := p) (c := c) hp
      simp only [splitN, e] at h
      by_cases hc : a = c
      · rw [if_pos hc] at h
        rcases List.mem_cons.mp h with rfl | h
        · cases hx
        · exact List.mem_cons_of_mem _ (ih p (by rw [e]; exact h) x hx)
      · rw [if_neg hc] at h
        rcases List.mem_cons.mp h with rfl | h
        · rcases List.mem_cons.mp hx with rfl | hx
          · exact List.mem_cons_self
          · exact List.mem_cons_of_mem _ (ih q (by rw [e]; exact List.mem_cons_self) x hx)
        · exact List.mem_cons_of_mem _ (ih p (by rw [e]; exact List.mem_cons_of_mem _ h) x hx)
theorem splitN_len {c : Nat} : ∀ s : List Nat, (splitN c s).length ≤ s.length + 1
  | [] => by simp [splitN]
  | a :: s => by
    have ih := splitN_len (c := c) s
    cases e : splitN c s with
    | nil => exact absurd e (splitN_ne c s)
    | cons q qs =>
      rw [e] at ih
      simp only [splitN, e]
      by_cases hc : a = c
      · rw [if_pos hc]; simp at ih ⊢; omega
      · rw [if_neg hc]; simp at ih ⊢; omega
theorem splitN_no {c : Nat} : ∀ {s : List Nat}, c ∉ s → splitN c s = [s]
  | [], _ => rfl
  | a :: s, h => by
    have h1 : a ≠ c := fun z => h (by rw [z]; exact List.mem_cons_self)
    simp only [splitN, if_neg h1, splitN_no (s := s) fun z => h (List.mem_cons_of_mem _ z)]
theorem splitN_app {c : Nat} {r : List Nat} : ∀ {s : List Nat}, c ∉ s → splitN c (s ++ c :: r) = s :: splitN c r
  | [], _ => by simp [splitN]
  | a :: s, h => by
    have h1 : a ≠ c := fun z => h (by rw [z]; exact List.mem_cons_self)
    simp only [List.cons_append, splitN, if_neg h1, splitN_app (s := s) fun z => h (List.mem_cons_of_mem _ z)]
theorem splitN_joinN {c : Nat} : ∀ {ps : List (List Nat)}, ps ≠ [] → (∀ p ∈ ps, c ∉ p) → splitN c (joinN [c] ps) = ps
  | [], h, _ => absurd rfl h
  | [p], _, h => by simp [joinN, splitN_no (h p (by simp))]
  | p :: q :: r, _, h => by
    have h1 := h p (by simp)
    have ih := splitN_joinN (c := c) (ps := q :: r) (by simp) fun x hx => h x (List.mem_cons_of_mem _ hx)
    simp only [joinN, List.append_assoc, List.singleton_append]
    rw [splitN_app h1, ih]
theorem cutD_len {α : Type} (xs : List α) (lo hi : Option Int) : (cutD xs lo hi).length ≤ xs.length := by
  unfold cutD
  simp only [List.length_take, List.length_drop]
  omega
theorem mem_cutD {α : Type} {xs : List α} {lo hi : Option Int} {x : α} (h : x ∈ cutD xs lo hi) : x ∈ xs := by
  unfold cutD at h
  exact List.mem_of_mem_drop (List.mem_of_mem_take h)
theorem vcB_of {s : List Nat} (h : ∀ c ∈ s, c < 1114112) : vcB s = true := by
  unfold vcB
  simpa using h
theorem vcB_mem {s : List Nat} (h : vcB s = true) {c : Nat} (hc : c ∈ s) : c < 1114112 := by
  unfold vcB at h
  exact of_decide_eq_true (List.all_eq_true.mp h c hc)
theorem vcB_app {s t : List Nat} (h : vcB s = true) (h2 : vcB t = true) : vcB (s ++ t) = true := by
  unfold vcB at *
  rw [List.all_append, h, h2]; rfl
theorem vcB_sub {s t : List Nat} (h : vcB s = true) (h2 : ∀ c ∈ t, c ∈ s) : vcB t = true := vcB_of fun c hc => vcB_mem h (h2 c hc)
theorem addS_small {s t : List Nat} (h : s.length + t.length ≤ lineN) : addS (.str s) (.str t) = some (.str (s ++ t)) := by
  unfold addS s2
  simp only
  rw [if_pos h]
theorem atI_mem {α : Type} {l : List α} {i : Int} (h0 : 0 ≤ i) (h : i < l.length) : ∃ x ∈ l, L2.atI l i = some x := by
  have hl : i.toNat < l.length := by omega
  exact ⟨l[i.toNat], List.getElem_mem hl, by rw [atI_nn h0 h, List.getElem?_eq_getElem hl]⟩
theorem addS_tup {a : List D} {y : D} : addS (.tup a) y = none := rfl
theorem addS_lst {a : List D} {y : D} : addS (.lst a) y = none := rfl
theorem addS_int {a : Int} {y : D} : addS (.int a) y = none := rfl
theorem cutD_map {α β : Type} (f : α → β) (l : List α) (lo hi : Option Int) : cutD (l.map f) lo hi = (cutD l lo hi).map f := by
  unfold cutD
  simp [List.map_take, List.map_drop]
end DL

/-! The D layer, part 13: new lists that are owned, stores into lists. -/
namespace DL
open PySem L2
section
variable {X : Cx} {W : WX} {a b e : Expr} {fa fb f : Mm SV} {pos : Pos}
/-- two lists put behind one another, as a new list that is owned -/
def mCatO (fa fb : Mm SV) : Mm SV := fa.bind fun x => fb.bind fun y => fun _ S => match rd S x, rd S y with
  | some (.lst us), some (.lst vs) => if us.length + vs.length ≤ lineN then some (.ok (.o S.length) (S ++ [.lst (us ++ vs)])) else none
  | _, _ => none
theorem se_catO (ha : SE X W a fa) (hb : SE X W b fb) : SE X W (.BinOp a .Add b pos) (mCatO fa fb) := by
  obtain ⟨ta, a1, a2⟩ := ha
  obtain ⟨tb, b1, b2⟩ := hb
  refine ⟨_, pe_op op_cat a1 b1, fun P L σ H G S R RG => ?_⟩
  refine At.bind (t := ta) (k := fun x σ H1 Q => tb σ H1 fun y H2 => rCat x y H2 Q) RG (a2 P L σ H G S R RG) fun P1 L1 H1 S1 x vx e1 l1 R1 RG1 rx => ?_
  refine At.bind (t := tb) (k := fun y σ H2 Q => rCat vx y H2 Q) RG1 (b2 P1 L1 σ H1 G S1 R1 RG1) fun P2 L2 H2 S2 y vy e2 l2 R2 RG2 ry => ?_
  intro r h Q q
  cases c1 : rd S2 x with
  | none => simp only [c1] at h; cases h
  | some dx =>
    cases c2 : rd S2 y with
    | none => simp only [c1, c2] at h; cases dx <;> cases h
    | some dy =>
      simp only [c1, c2] at h
      have r1 := rd_rep R2 (RepV.mono e2 l2 rx) c1
      have r2 := rd_rep R2 ry c2
      cases dx with
      | lst us =>
        cases dy with
        | lst vs =>
          simp only at h
          by_cases c : us.length + vs.length ≤ lineN
          · rw [if_pos c] at h
            cases h
            obtain ⟨p1, us', rfl, g1, g2⟩ := r1
            obtain ⟨p2, vs', rfl, k1, k2⟩ := r2
            refine ⟨p1, p2, us', vs', rfl, rfl, g1, k1, by rw [g2.len, k2.len, sizeLine_eq]; exact c, fun p hp => ?_⟩
            have R3 := R2.newO hp (o := .lst (us ++ vs)) (ho := .lst (us' ++ vs')) ⟨_, rfl, g2.app k2⟩
            refine q P2 (L2 ++ [p]) _ _ (Same.refl _) (LExt.app _ _) R3 ⟨p, rfl, ?_⟩
            rw [← R2.len]
            simp
          · rw [if_neg c] at h; cases h
        | _ => cases h
      | _ => cases h
/-- list(x), as a new list that is owned -/
def mListO (f : Mm SV) : Mm SV := f.bind fun x => fun _ S => match rd S x with
  | some d => match seqOf d with
    | some ds => some (.ok (.o S.length) (S ++ [.lst ds]))
    | none => none
  | none => none
theorem se_listO {p : Pos} (hg : Gl X "list") (hm : X.mg "list" = none) (hv : bootBuiltins "list" = some (.type "list")) (he : SE X W e f)
    (hst : starEach (e :: []) X.env = (false, eval e X.env) :: starEach [] X.env := by rfl) (hpl : (backTo pos (starEach [] X.env)).any (·.1) = false := by rfl) : SE X W (.Call (.Name "list" p) [e] [] pos) (mListO f) := by
  obtain ⟨t, a1, a2⟩ := he
  refine ⟨_, pe_callTy call_list_of hg hm hv (pa_cons a1 pa_nil hst) (by decide) (by decide) hst hpl, fun P L σ H G S R RG => ?_⟩
  refine At.bind (t := t) (k := fun x σ H1 (Q : VK) => ∃ p ys, [x] = [V.ref p] ∧ (SqL X.K H1 p ys ∨ SqT X.K H1 p ys) ∧ ∀ l, H1 l = none → Q (V.ref l) (upd H1 l (.lst ys))) RG (a2 P L σ H G S R RG) fun P1 L1 H1 S1 x vx e1 l1 R1 RG1 rx => ?_
  intro r h Q q
  cases c1 : rd S1 x with
  | none => simp only [c1] at h; cases h
  | some d =>
    simp only [c1] at h
    cases c2 : seqOf d with
    | none => simp only [c2] at h; cases h
    | some ds =>
      simp only [c2] at h
      cases h
      obtain ⟨p, us, rfl, k1, k2⟩ := seq_rep R1.fr (rd_rep R1 rx c1) c2
      refine ⟨p, us, rfl, k1, fun l hl => ?_⟩
      have R3 := R1.newO hl (o := .lst ds) (ho := .lst us) ⟨_, rfl, k2⟩
      refine q P1 (L1 ++ [l]) _ _ (Same.refl _) (LExt.app _ _) R3 ⟨l, rfl, ?_⟩
      rw [← R1.len]
      simp
/-- xs[i] as a target -/
def gItm (fo fi : Mm SV) : Mg := fun x G S => match fo G S with
  | some (.ok (.o i) S1) => match fi G S1 with
    | some (.ok (.v (.int k)) S2) => match x, S2[i]? with
      | .v d, some (.lst ds) => match L2.ixN ds.length k with
        | some j => some (G, S2.set i (.lst (ds.set j d)))
        | none => none
      | _, _ => none
    | _ => none
  | _ => none
def SubPlain (o i : Expr) (pos : Pos) (env : Env) : Prop := ∀ v, assign (.Subscript o i pos) env v = (do let ov ← holding [v] (eval o env); let iv ← holding [v, ov] (eval i env); standAt pos; holding [v, ov, iv] (setItem ov iv v); release [v, ov, iv] [])
theorem sg_item {o i : Expr} {fo fi : Mm SV} (ho : SE X W0 o fo) (hi : SE X W0 i fi) (ha : SubPlain o i pos X.env := by exact fun _ => rfl) : SG X (.Subscript o i pos) (gItm fo fi) := by
  obtain ⟨to, a1, a2⟩ := ho
  obtain ⟨ti, b1, b2⟩ := hi
  refine ⟨_, pg_sub a1 b1 set_list ha, fun P L σ H G S x v R RG rx G' S' e Q q => ?_⟩
  unfold gItm at e
  cases c1 : fo G S with
  | none => rw [c1] at e; cases e
  | some r1 =>
    rw [c1] at e
    cases r1 with
    | er c f S1 => cases e
    | ok xo S1 =>
      cases xo with
      | v _ => cases e
      | x _ _ _ => cases e
      | o k =>
        simp only at e
        refine a2 P L σ H G S R RG _ c1 _ fun P1 L1 H1 vo e1 l1 R1 ro => ?_
        have RG1 := RG.mono e1 l1
        cases c2 : fi G S1 with
        | none => rw [c2] at e; cases e
        | some r2 =>
          rw [c2] at e
          cases r2 with
          | er c f S2 => cases e
          | ok xi S2 =>
            cases xi with
            | o _ => cases e
            | x _ _ _ => cases e
            | v di =>
              cases di with
              | int z =>
                simp only at e
                refine b2 P1 L1 σ H1 G S1 R1 RG1 _ c2 _ fun P2 L2 H2 vi e2 l2 R2 ri => ?_
                cases x with
                | o _ => cases e
                | x _ _ _ => cases e
                | v d =>
                  cases c3 : S2[k]? with
                  | none => rw [c3] at e; cases e
                  | some mo =>
                    rw [c3] at e
                    cases mo with
                    | lst ds =>
                      simp only at e
                      cases c4 : _root_.L2.ixN ds.length z with
                      | none => rw [c4] at e; cases e
                      | some j =>
                        rw [c4] at e
                        cases e
                        obtain ⟨p, rfl, hp⟩ := RepV.mono e2 l2 ro
                        obtain ⟨mo', ho', g1, g2, g3⟩ := R2.of_at hp
                        rw [c3] at g1
                        cases g1
                        obtain ⟨us, rfl, g4⟩ := g3
                        cases ri
                        have rv : RepD X.K P2 d v := RepD.mono (e1.trans e2) rx
                        refine ⟨p, us, z, j, rfl, rfl, g2, by rw [g4.len]; exact c4, ?_⟩
                        have R3 := R2.write hp c3 rfl (o := .lst (ds.set j d)) (ho := .lst (us.set j v)) ⟨_, rfl, g4.set j rv⟩
                        exact q P2 L2 σ _ (e1.trans e2) (l1.trans l2) R3 (RG1.mono e2 l2)
                    | _ => cases e
              | _ => cases e
/-! ### s.index(one sign) -/
def idxN (c : Nat) : List Nat → Option Nat
  | [] => none
  | x :: r => if x = c then some 0 else (idxN c r).map (· + 1)
def minI : List D → Option D
  | [.int i, .int j] => some (.int (if j < i then j else i))
  | _ => none
def maxI : List D → Option D
  | [.int i, .int j] => some (.int (if j > i then j else i))
  | _ => none
def absI : List D → Option D
  | [.int i] => some (.int (if i < 0 then -i else i))
  | _ => none
theorem cd_min2 (hc : X.calm = true) : CallD X (.builtin "min") minI := ⟨_, call_min2 hc, fun P H xs vs d e rx h Q q => by
  match xs, h with
  | [.int i, .int j], h =>
    cases h
    obtain ⟨v, r, rfl, r1, v2, r', rfl, r2, r3⟩ := rx
    cases r3; cases r1; cases r2
    exact ⟨i, j, rfl, q P H _ .refl (by simp only [RepD])⟩⟩
theorem cd_max2 (hc : X.calm = true) : CallD X (.builtin "max") maxI := ⟨_, call_max2 hc, fun P H xs vs d e rx h Q q => by
  match xs, h with
  | [.int i, .int j], h =>
    cases h
    obtain ⟨v, r, rfl, r1, v2, r', rfl, r2, r3⟩ := rx
    cases r3; cases r1; cases r2
    exact ⟨i, j, rfl, q P H _ .refl (by simp only [RepD])⟩⟩
theorem cd_abs : CallD X (.builtin "abs") absI := ⟨_, call_abs, fun P H xs vs d e rx h Q q => by
  match xs, h with
  | [.int i], h =>
    cases h
    obtain ⟨v, r, rfl, r1, r2⟩ := rx
    cases r2; cases r1
    exact ⟨i, rfl, q P H _ .refl (by simp only [RepD])⟩⟩
end
theorem idxN_spec {c : Nat} : ∀ {s : List Nat} {i : Nat}, idxN c s = some i → s[i]? = some c ∧ ∀ k, k < i → s[k]? ≠ some c
  | [], i, h => by cases h
  | x :: r, i, h => by
    unfold idxN at h
    by_cases hx : x = c
    · rw [if_pos hx] at h
      cases h
      exact ⟨by simp [hx], fun k hk => absurd hk (Nat.not_lt_zero _)⟩
    · rw [if_neg hx] at h
      obtain ⟨j, h1, h2⟩ := Option.map_eq_some_iff.mp h
      subst h2
      obtain ⟨h3, h4⟩ := idxN_spec h1
      refine ⟨by simpa using h3, fun k hk => ?_⟩
      cases k with
      | zero => simpa using hx
      | succ k => simpa using h4 k (by omega)
theorem idxN_lt {c : Nat} {s : List Nat} {i : Nat} (h : idxN c s = some i) : i < s.length := (List.getElem?_eq_some_iff.mp (idxN_spec h).1).1
theorem at_one {c k : Nat} {s : List Nat} : PySem.StrLaws.At (mkS s) (mkS [c]) (mkS s).length k ↔ s[k]? = some c := by
  have e : (s.drop k).take 1 = [c] ↔ s[k]? = some c := by
    rw [← List.head?_drop]
    cases s.drop k with
    | nil => simp
    | cons a l => simp
  refine ⟨fun h => ?_, fun h => ?_⟩
  · have := PySem.StrLaws.at_take h
    exact e.mp this
  · exact PySem.StrLaws.take_at (x := mkS s) (y := mkS [c]) (by show 1 ≤ 1; decide) (e.mpr h)
def indexD : D → List D → Option D
  | .str s, [.str [c]] => (idxN c s).map fun i => .int (i : Nat)
  | _, _ => none
theorem md_index {X : Cx} : MtD X "str.index" indexD := ⟨_, mt_sindex, fun P H x xs vx vs d e rx rxs h Q q => by
  match x, xs, h with
  | .str s, [.str [c]], h =>
    obtain ⟨i, h1, h2⟩ := Option.map_eq_some_iff.mp h
    subst h2
    cases rx
    obtain ⟨v, r, rfl, r1, r2⟩ := rxs
    cases r2; cases r1
    obtain ⟨h3, h4⟩ := idxN_spec h1
    rcases PySem.StrLaws.occ_head (mkS s) (mkS [c]) 1 (Nat.le_refl 1) with ⟨_, hn⟩ | ⟨j, r, ho, ha, hm⟩
    · exact absurd (at_one.mpr h3) (hn i)
    · have hj : s[j]? = some c := at_one.mp ha
      have : j = i := by
        rcases Nat.lt_trichotomy j i with z | z | z
        · exact absurd hj (h4 j z)
        · exact z
        · exact absurd (at_one.mpr h3) (hm i z)
      subst this
      exact ⟨mkS s, mkS [c], j, r, rfl, rfl, ho, q P H _ .refl (by simp only [RepD])⟩⟩

/-- tuple(reversed(x)) -/
def mTupRev (f : Mm SV) : Mm SV := f.bind fun x => fun _ S => match rd S x with
  | some (.lst ds) => some (.ok (.v (.tup ds.reverse)) S)
  | some (.rol ds) => some (.ok (.v (.tup ds.reverse)) S)
  | _ => none
theorem se_tupRev {X : Cx} {W : WX} {e : Expr} {f : Mm SV} {p p2 pos pos2 : Pos} (hc : X.calm = true) (hg : Gl X "tuple") (hm : X.mg "tuple" = none) (hg2 : Gl X "reversed") (hm2 : X.mg "reversed" = none) (he : SE X W e f) (q1 : starEach [e] X.env = (false, eval e X.env) :: starEach [] X.env := by rfl)
    (q2 : starEach [.Call (.Name "reversed" p2) [e] [] pos2] X.env = (false, eval (.Call (.Name "reversed" p2) [e] [] pos2) X.env) :: starEach [] X.env := by rfl) : SE X W (.Call (.Name "tuple" p) [.Call (.Name "reversed" p2) [e] [] pos2] [] pos) (mTupRev f) := by
  obtain ⟨t, a1, a2⟩ := he
  refine ⟨_, RT.pe_tupRev hc hg hm hg2 hm2 a1 q1 q2, fun P L σ H G S R RG => ?_⟩
  refine At.bind (t := t) (k := fun v σ H1 (Q : VK) => ∃ (a : Addr) (xs : List V), v = .ref a ∧ SqL X.K H1 a xs ∧ ∀ q, H1 q = none → Q (.ref q) (upd H1 q (.tup xs.reverse))) RG (a2 P L σ H G S R RG) fun P1 L1 H1 S1 x vx e1 l1 R1 RG1 rx => ?_
  intro r h Q q
  have key : ∀ (a : Addr) (ds : List D) (us : List V), vx = .ref a → SqL X.K H1 a us → RepDs X.K P1 ds us → (some (Rs.ok (SV.v (.tup ds.reverse)) S1) = some r) → ∃ (a : Addr) (xs : List V), vx = .ref a ∧ SqL X.K H1 a xs ∧ ∀ q, H1 q = none → Q (.ref q) (upd H1 q (.tup xs.reverse)) := by
    intro a ds us h1 h2 h3 h4
    cases h4
    refine ⟨a, us, h1, h2, fun p hp => ?_⟩
    obtain ⟨R2, e2⟩ := (Grow.one (P := P1) (o := .tup us.reverse) hp).relH R1
    refine q _ L1 _ _ e2 (LExt.refl _) R2 ?_
    simp only [rV, RepV, RepD]
    exact ⟨p, us.reverse, rfl, SqT.of upd_same, (h3.mono e2).rev⟩
  cases c1 : rd S1 x with
  | none => simp only [c1] at h; cases h
  | some d =>
    simp only [c1] at h
    have rs := rd_rep R1 rx c1
    cases d with
    | lst ds =>
      obtain ⟨a, us, h1, h2, h3⟩ := rs
      exact key a ds us h1 (SqL.of h2) h3 h
    | rol ds =>
      have rs' : RepD X.K P1 (.rol ds) vx := rs
      simp only [RepD] at rs'
      obtain ⟨a, us, h1, h2, h3⟩ := rs'
      exact key a ds us h1 (R1.fr.seq h2) h3 h
    | _ => cases h
/-! ### stores that hold more -/
/-- no object of it speaks of one beyond it -/
def Cl (S : Sto) : Prop := ∀ n, S.length ≤ n → S.all (MO.below n) = true
theorem Cl.nil : Cl [] := fun _ _ => rfl
theorem Cl.lst {S : Sto} (h : Cl S) (ds : List D) : Cl (S ++ [.lst ds]) := fun n hn => by
  rw [List.length_append] at hn
  rw [List.all_append, h n (by omega)]
  rfl
theorem Cl.lst2 {S : Sto} (h : Cl S) (ds es : List D) : Cl (S ++ [.lst ds, .lst es]) := fun n hn => by
  rw [List.length_append] at hn
  rw [List.all_append, h n (by omega)]
  rfl
theorem app_take {α : Type} (S T : List α) (i : Nat) : (S ++ T).take (S.length + i) = S ++ T.take i := by
  rw [List.take_append, Nat.add_sub_cancel_left, List.take_of_length_le (by omega)]
theorem app_take0 {α : Type} (S T : List α) : (S ++ T).take S.length = S := List.take_left
theorem app_get {α : Type} (S T : List α) (i : Nat) : (S ++ T)[S.length + i]? = T[i]? := by
  rw [List.getElem?_append_right (by omega), Nat.add_sub_cancel_left]
theorem app_get0 {α : Type} (S T : List α) : (S ++ T)[S.length]? = T[0]? := app_get S T 0
theorem app_set {α : Type} (S T : List α) (i : Nat) (x : α) : (S ++ T).set (S.length + i) x = S ++ T.set i x := by
  rw [List.set_append_right _ _ (by omega), Nat.add_sub_cancel_left]
theorem app_set0 {α : Type} (S T : List α) (x : α) : (S ++ T).set S.length x = S ++ T.set 0 x := app_set S T 0 x

/-! ### parts from and to a place -/
theorem cut_take {α : Type} (w : List α) (a : Nat) : cutD w none (some (a : Int)) = w.take a := by
  unfold cutD
  rw [HT.sIx_none, HT.sIx_nat, List.drop_zero, Nat.sub_zero]
  by_cases h : a ≤ w.length
  · rw [Nat.min_eq_left h]
  · rw [Nat.min_eq_right (by omega), List.take_length, List.take_of_length_le (by omega)]
theorem cut_drop {α : Type} (w : List α) (a : Nat) : cutD w (some (a : Int)) none = w.drop a := by
  unfold cutD
  rw [HT.sIx_none, HT.sIx_nat]
  by_cases h : a ≤ w.length
  · rw [Nat.min_eq_left h, List.take_of_length_le (by simp)]
  · rw [Nat.min_eq_right (by omega), List.drop_length, List.drop_of_length_le (by omega), List.take_nil]
theorem cut_drop1 {α : Type} (w : List α) (a : Nat) : cutD w (some ((a : Int) + 1)) none = w.drop (a + 1) := cut_drop w (a + 1)
theorem atI_nat {α : Type} {w : List α} {a : Nat} {x : α} (h : w[a]? = some x) : L2.atI w (a : Int) = some x := by
  have hl := (List.getElem?_eq_some_iff.mp h).1
  rw [atI_nn (by omega) (by omega), Int.toNat_natCast, h]
theorem atD_tup (ds : List D) (i : Int) : atD (.tup ds) (.int i) = L2.atI ds i := rfl
theorem atD_lst (ds : List D) (i : Int) : atD (.lst ds) (.int i) = L2.atI ds i := rfl
theorem atD_rol (ds : List D) (i : Int) : atD (.rol ds) (.int i) = L2.atI ds i := rfl
theorem atD_str (s : List Nat) (i : Int) : atD (.str s) (.int i) = if s.length ≤ lineN then (L2.atI s i).map fun c => .str [c] else none := rfl
theorem slD_tup (lo hi : Option Int) (ds : List D) : slD lo hi (.tup ds) = some (.tup (cutD ds lo hi)) := rfl
theorem slD_lst (lo hi : Option Int) (ds : List D) : slD lo hi (.lst ds) = some (.lst (cutD ds lo hi)) := rfl
theorem slD_rol (lo hi : Option Int) (ds : List D) : slD lo hi (.rol ds) = some (.lst (cutD ds lo hi)) := rfl
theorem slD_str (lo hi : Option Int) (s : List Nat) : slD lo hi (.str s) = if s.length ≤ lineN then some (.str (cutD s lo hi)) else none := rfl
theorem lenD_str (s : List Nat) : lenD [.str s] = if s.length ≤ lineN then some (.int s.length) else none := rfl
theorem lenD_tup (ds : List D) : lenD [.tup ds] = some (.int ds.length) := rfl
theorem lenD_lst (ds : List D) : lenD [.lst ds] = some (.int ds.length) := rfl
theorem lenD_rol (ds : List D) : lenD [.rol ds] = some (.int ds.length) := rfl

/-! ### a tuple of lists that were owned: they stand still from now on -/
def frz : List SV → Sto → Option (List D × Sto)
  | [], S => some ([], S)
  | .v d :: xs, S => (frz xs S).map fun p => (d :: p.1, p.2)
  | .o i :: xs, S => match S[i]? with
    | some (.lst ds) => (frz xs (S.set i (.fz ds))).map fun p => (.lst ds :: p.1, p.2)
    | some (.fz ds) => (frz xs (S.set i (.fz ds))).map fun p => (.lst ds :: p.1, p.2)
    | _ => none
  | .x _ _ _ :: _, _ => none
theorem frz_rep {K : PySem.W.Frag} {mg : Str → Option Value} {L : List Addr} {H : Hp} : ∀ {xs : List SV} {vs : List V} {ds : List D} {P : Hp} {S S' : Sto}, RelH K mg P L H S → RepVs K P L xs vs → frz xs S = some (ds, S') → ∃ P', Same P P' ∧ RelH K mg P' L H S' ∧ RepDs K P' ds vs
  | [], vs, ds, P, S, S', R, r, h => by
    cases h
    cases r
    exact ⟨P, Same.refl _, R, RepDs.nil⟩
  | .v d :: xs, vs, ds, P, S, S', R, r, h => by
    obtain ⟨v, r', rfl, q1, q2⟩ := r
    obtain ⟨p, h1, h2⟩ := Option.map_eq_some_iff.mp h
    cases h2
    obtain ⟨P', e, R', rd'⟩ := frz_rep R q2 (by rw [h1])
    exact ⟨P', e, R', RepDs.cons (RepD.mono e q1) rd'⟩
  | .o i :: xs, vs, ds, P, S, S', R, r, h => by
    obtain ⟨v, r', rfl, ⟨a, rfl, ha⟩, q2⟩ := r
    obtain ⟨o, ho, h1, h2, h3⟩ := R.of_at ha
    simp only [frz, h1] at h
    cases o with
    | lst es =>
      obtain ⟨us, rfl, q⟩ := h3
      obtain ⟨p, h4, h5⟩ := Option.map_eq_some_iff.mp h
      cases h5
      obtain ⟨R2, e2⟩ := R.kill ha h2 q
      obtain ⟨P', e, R', rd'⟩ := frz_rep R2 (RepVs.mono e2 (LExt.refl _) q2) (by rw [h4])
      refine ⟨P', e2.trans e, R', RepDs.cons ?_ rd'⟩
      simp only [RepD]
      refine ⟨a, us, rfl, e _ _ ?_, q.mono (e2.trans e)⟩
      show (if a = a then some (HO.lst us) else P a) = some (HO.lst us)
      rw [if_pos rfl]
    | fz es =>
      obtain ⟨us, rfl, q⟩ := h3
      obtain ⟨p, h4, h5⟩ := Option.map_eq_some_iff.mp h
      cases h5
      obtain ⟨R2, e2⟩ := R.kill ha h2 q
      obtain ⟨P', e, R', rd'⟩ := frz_rep R2 (RepVs.mono e2 (LExt.refl _) q2) (by rw [h4])
      refine ⟨P', e2.trans e, R', RepDs.cons ?_ rd'⟩
      simp only [RepD]
      refine ⟨a, us, rfl, e _ _ ?_, q.mono (e2.trans e)⟩
      show (if a = a then some (HO.lst us) else P a) = some (HO.lst us)
      rw [if_pos rfl]
    | _ => cases h
  | .x _ _ _ :: xs, vs, ds, P, S, S', R, r, h => by cases h
def mTupZ (g : Mm (List SV)) : Mm SV := g.bind fun xs => fun _ S => match frz xs S with
  | some (ds, S') => if ds.length ≤ lineN then some (.ok (.v (.tup ds)) S') else none
  | none => none
theorem se_tupZ {X : Cx} {W : WX} {es : List Expr} {g : Mm (List SV)} {pos : Pos} {k} (h : SA X W es g) : SE X W (.Tuple es k pos) (mTupZ g) := by
  obtain ⟨t, h1, h2⟩ := h
  refine ⟨_, pe_tup h1, fun P L σ H G S R RG => ?_⟩
  refine At.bind (t := t) (k := fun xs σ H1 Q => xs.length ≤ sizeLine ∧ ∀ p, H1 p = none → Q (V.ref p) (upd H1 p (.tup xs))) RG (h2 P L σ H G S R RG) fun P1 L1 H1 S1 x y e1 l1 R1 RG1 rx => ?_
  intro r h Q q
  cases e2 : frz x S1 with
  | none => simp only [e2] at h; cases h
  | some p =>
    obtain ⟨ds, S2⟩ := p
    simp only [e2] at h
    by_cases c : ds.length ≤ lineN
    · rw [if_pos c] at h
      cases h
      obtain ⟨P2, e3, R2, rd'⟩ := frz_rep R1 rx e2
      refine ⟨by rw [rd'.len, sizeLine_eq]; exact c, fun p hp => ?_⟩
      obtain ⟨R3, e4⟩ := (Grow.one (P := P2) (o := .tup y) hp).relH R2
      refine q _ L1 _ _ (e3.trans e4) (LExt.refl _) R3 ?_
      simp only [rV, RepV, RepD]
      exact ⟨p, y, rfl, SqT.of upd_same, rd'.mono e4⟩
    · rw [if_neg c] at h; cases h
end DL

/-! The D layer, part 14: try with clauses of both kinds, some of which name the error. -/
namespace L2
open PySem PySem.Spec PyProof.Rows
/-- a clause: the class, the name's slot if it has one, the suite -/
abbrev Cla := Value × Option Nat × (Addr → Value → Option Addr → TS)
/-- behind a suite that had a name -/
def Ends.drop (D : Ends) (i : Nat) : Ends := ⟨fun s h => D.nx (s.set i none) h, D.rt, fun s h => D.bk (s.set i none) h, fun s h => D.ct (s.set i none) h⟩
def suiteW (D : Ends) (o : Option Nat) (ts : TS) (a : Addr) (σ : St) (H : Hp) : Prop := match o with
  | none => ts D σ H
  | some i => ts (D.drop i) (σ.set i (some (.ref a))) H
def wCla (K : PySem.W.Frag) (W : WX) (D : Ends) : List Cla → WX
  | [] => W
  | c :: r => fun cls d σ H => ∃ b, PySem.W.exmOne K cls c.1 = some b ∧ (b = true → ∀ a, H a = none → suiteW D c.2.1 (c.2.2 a cls d) a σ H) ∧ (b = false → wCla K W D r cls d σ H)
def SuiteP (X : Cx) (st : List Stmt) (ts : Addr → Value → Option Addr → TS) : Prop :=
  ∀ (a : Addr) (oe : Obj) (cls : Value) (d : Option Addr) (pn : List (Addr × Obj)), Zc cls d oe → (∃ vs, oe.data = .fields vs) → PSs (X.suite a ((a, oe) :: pn)) st (ts a cls d)
inductive ClaOk (X : Cx) : List ExceptHandler → List Cla → Prop
  | nil : ClaOk X [] []
  | plain {x : Str} {c : Value} {ts : Addr → Value → Option Addr → TS} {b₀ : Stmt} {st : List Stmt} {np p : Pos} {hs : List ExceptHandler} {l : List Cla} (hc : Names X x c) (h : SuiteP X (b₀ :: st) ts) (r : ClaOk X hs l) : ClaOk X (.ExceptHandler (some (.Name x np)) none (b₀ :: st) p :: hs) ((c, none, ts) :: l)
  | named {x n : Str} {i : Nat} {c : Value} {ts : Addr → Value → Option Addr → TS} {b₀ : Stmt} {st : List Stmt} {np p : Pos} {hs : List ExceptHandler} {l : List Cla} (hc : Names X x c) (hi : X.N[i]? = some n) (hl : X.env.kindOf n = some .local) (h : SuiteP X (b₀ :: st) ts) (r : ClaOk X hs l) :
      ClaOk X (.ExceptHandler (some (.Name x np)) (some n) (b₀ :: st) p :: hs) ((c, some i, ts) :: l)
section
variable {X : Cx} {body : List Stmt} {h0 : ExceptHandler} {hds : List ExceptHandler} {l : List Cla} {pos : Pos} {tb : WX → TS} {W : WX}
theorem ps_try_cla (st1 : X.stack = X.env :: X.outer) (fr1 : X.env.frame = some X.env.locals) (nd : X.N.Nodup) (tk : Takes X W)
    (hb : ∀ (W : WX) (pn : List (Addr × Obj)) (xe : Value → Shared → Prop), Takes (X.tr pn xe) W → PassesOwn (model X.prog X.w) X.A X.env xe → PSs (X.tr pn xe) body (tb W))
    (hh : ClaOk X (h0 :: hds) l) : PS X (.Try body (h0 :: hds) [] [] pos) (fun D σ H => tb (wCla X.K W D l) D σ H) := by
  constructor
  intro pins s σ H D I hw
  have okX := I.ok
  have frA : X.A.frames = some (X.env :: X.outer) := okX.frames.trans (by rw [st1])
  apply wpAny_Try_except
  refine wpAny_mono ((hb (wCla X.K W D l) (X.pn ++ pins)
      (fun e s1 => wpAny (model X.prog X.w) X.A (noteFrame e X.env)
        (fun _ s2 => wpAny (model X.prog X.w) X.A (setFlight e none)
          (fun _ s3 => wpAny (model X.prog X.w) X.A (handleBy e X.env (h0 :: hds)) (SP X pins D) X.xe s3) X.xe s2) X.xe s1)
      ?caught PassesOwn.looking).run [] s σ H D (I.toTry _) hw) ?done (fun e s1 z => z)
  case done =>
    intro f s1 hsp
    match f, hsp with
    | .next, ⟨σ1, H1, J, q⟩ => exact wpAny_execs_nil ⟨σ1, H1, J.ofTry okX, q⟩
    | .brk, ⟨σ1, H1, J, q⟩ => exact ⟨σ1, H1, J.ofTry okX, q⟩
    | .cont, ⟨σ1, H1, J, q⟩ => exact ⟨σ1, H1, J.ofTry okX, q⟩
    | .ret u, ⟨v, σ1, H1, J, r, q⟩ => exact ⟨v, σ1, H1, J.ofTry okX, r, q⟩
  case caught =>
    rintro u s1 ⟨a, B, sI, pins1, σ1, H1, cls, d, rfl, J1, nb, up, sky, na, os, ag, w⟩
    have J : Inv X pins σ1 H1 sI := J1.ofTry okX
    rw [st1] at sky
    show wpAny (model X.prog X.w) X.A (noteFrame (.ref a) X.env) _ _ _
    refine Sky.land Zc.steady frA fr1 sky ?_
    intro h3 fl3 up3
    have J3 : Inv X pins σ1 H1 { s1 with heap := h3 } := J.landed nb fl3.1 (up.trans up3) os ag
    obtain ⟨oe, vs, eo, ez, ed⟩ := fl3.there
    have out : a ∉ frs (X.env :: X.outer) := by
      intro hm
      obtain ⟨_, o1, e1, no⟩ := fl3.2.2.1.mem hm
      cases eo.symm.trans e1
      exact no _ ed
    have aL : a ≠ X.env.locals := by
      rintro rfl
      exact out (List.mem_filterMap.mpr ⟨X.env, by simp, fr1⟩)
    have aF : a ∉ X.fs := by
      intro hm
      obtain ⟨e, he, q⟩ := List.mem_filterMap.mp hm
      exact out (List.mem_filterMap.mpr ⟨e, by simp [he], q⟩)
    have S3 := J3.suite eo ed na aL aF
    -- the test of one clause, and what follows it
    have clause : ∀ {x : Str} {c : Value} {np : Pos} {b : Bool} {Q : Value → Shared → Prop} {E : Value → Shared → Prop}, Names X x c → Q c { s1 with heap := h3 } →
        wpAny (model X.prog X.w) (X.A.mark (some (.ref a))) (eval (.Name x np) X.env) Q E { s1 with heap := h3 } := by
      rintro x c np b Q E ⟨hg, hd, hm | ⟨hm, hv, hn⟩⟩ q
      · exact ld_glob (X := X.suite a ((a, oe) :: (X.pn ++ pins))) S3 hg hm q hd
      · exact ld_blt (X := X.suite a ((a, oe) :: (X.pn ++ pins))) S3 hg hm hv q hn hd
    have ty : PySem.W.Looks (model X.prog X.w) h3 (typeOf (.ref a)) cls := by
      intro A Q E s k q
      exact wpAny_typeOf_ref (k _ _ eo) (by rw [ez.1]; exact q)
    have all : ∀ {hs : List ExceptHandler} {l : List Cla}, ClaOk X hs l → wCla X.K W D l cls d σ1 H1 → wpAny (model X.prog X.w) X.A (handleBy (.ref a) X.env hs) (SP X pins D) X.xe { s1 with heap := h3 } := by
      intro hs l ok
      induction ok with
      | nil =>
        intro w
        apply wpAny_handleBy_nil
        obtain ⟨_, _, _, o2, v2, T, oT, t2, g1, g2, g3, g4, g5⟩ := id fl3
        unfold PySem.passOn
        refine wpAny_bind (wpAny_field g1 g3 g4 ?_)
        rw [if_neg (show ¬ ((Value.ref T == Value.none) = true) by simp)]
        have up1 : wpAny (model X.prog X.w) X.A (setFlight (.ref a) X.env.frame) (fun _ s4 => wpAny (model X.prog X.w) X.A (throw (.ref a) : Sem Flow) (SP X pins D) X.xe s4) X.xe { s1 with heap := h3 } := by
          rw [fr1]
          refine HandSPX.setFlight_upZ fl3 fun h4 fl4 up4 => wpAny_throw (tk _ _ ?_)
          refine ⟨a, B, sI, pins, σ1, H1, cls, d, rfl, J, nb, (up.trans up3).trans up4, .inr (.inr ?_), na, os, ag, w⟩
          rw [st1]
          exact fl4
        first
          | exact wpAny_bind up1
          | exact wpAny_bind (wpAny_pure (wpAny_bind up1))
      | @plain x c ts b0 st np p hs l hc hsu r ih =>
        rintro ⟨b, e1, yes, no⟩
        refine wpAny_handleBy_cons (codeAny_handlers_test ?_) (fun q => by cases q)
        refine clause (b := b) hc ((PySem.W.exm_one (M := model X.prog X.w) J3.kIn ty e1).here ?_)
        cases b with
        | false =>
          show wpAny _ X.A (handleBy (.ref a) X.env hs) _ _ _
          exact ih (no rfl)
        | true =>
          apply codeAny_handlers_suite
          refine HandSPX.lands_againZ fl3 fun h4 fl4 up4 => ?_
          have J4 : Inv X pins σ1 H1 { s1 with heap := h4 } := J.landed nb fl4.1 ((up.trans up3).trans up4) os ag
          obtain ⟨o4, v4, eo4, ez4, ed4⟩ := fl4.there
          refine wpAny_mono ((hsu a o4 cls d (X.pn ++ pins) ez4 ⟨_, ed4⟩).run [] _ _ H1 _ (J4.suite eo4 ed4 na aL aF) (yes rfl a na)) ?_ (fun _ _ z => z.elim)
          intro f s6 hsp
          match f, hsp with
          | .next, ⟨σ6, H6, S6, q⟩ => exact ⟨_, _, S6.unsuite okX, q⟩
          | .brk, ⟨σ6, H6, S6, q⟩ => exact ⟨_, _, S6.unsuite okX, q⟩
          | .cont, ⟨σ6, H6, S6, q⟩ => exact ⟨_, _, S6.unsuite okX, q⟩
          | .ret u, ⟨v6, σ6, H6, S6, r6, q⟩ => exact ⟨_, _, _, S6.unsuite okX, r6, q⟩
      | @named x n i c ts b0 st np p hs l hc hi hln hsu r ih =>
        rintro ⟨b, e1, yes, no⟩
        refine wpAny_handleBy_cons (codeAny_handlers_test ?_) (fun q => by cases q)
        refine clause (b := b) hc ((PySem.W.exm_one (M := model X.prog X.w) J3.kIn ty e1).here ?_)
        cases b with
        | false =>
          show wpAny _ X.A (handleBy (.ref a) X.env hs) _ _ _
          exact ih (no rfl)
        | true =>
          apply codeAny_handlers_suite_as
          refine HandSPX.lands_againZ fl3 fun h4 fl4 up4 => ?_
          have J4 : Inv X pins σ1 H1 { s1 with heap := h4 } := J.landed nb fl4.1 ((up.trans up3).trans up4) os ag
          obtain ⟨o4, v4, eo4, ez4, ed4⟩ := fl4.there
          refine store_ok (X := X.suite a ((a, o4) :: (X.pn ++ pins))) (v := .ref a) (J4.suite eo4 ed4 na aL aF) nd hi (.inl hln) rfl (fun s5 S5 => ?_) (.inr hln)
          refine wpAny_mono ((hsu a o4 cls d (X.pn ++ pins) ez4 ⟨_, ed4⟩).run [] s5 _ H1 _ S5 (yes rfl a na)) ?_ (fun _ _ z => z.elim)
          intro f s6 hsp
          match f, hsp with
          | .next, ⟨σ6, H6, S6, q⟩ => exact gone_ok (S6.unsuite okX) nd hi hln fun s7 J7 => ⟨_, _, J7, q⟩
          | .brk, ⟨σ6, H6, S6, q⟩ => exact gone_ok (S6.unsuite okX) nd hi hln fun s7 J7 => ⟨_, _, J7, q⟩
          | .cont, ⟨σ6, H6, S6, q⟩ => exact gone_ok (S6.unsuite okX) nd hi hln fun s7 J7 => ⟨_, _, J7, q⟩
          | .ret u, ⟨v6, σ6, H6, S6, r6, q⟩ => exact gone_ok (S6.unsuite okX) nd hi hln fun s7 J7 => ⟨_, _, _, J7, r6, q⟩
    exact all hh w
end
end L2

/-! The D layer, part 15: try with clauses of both kinds. -/
namespace DL
open PySem L2
abbrev ClD := Str × Option Nat × Suite
def sHandC (T : Catches) (c : Str) (f : Option (Str × D)) : List ClD → Ms
  | [] => fun G S => some (.er c f G S)
  | (c', none, h) :: r => fun G S => match T c c' with
    | some true => noEr (h 0 none c f) G S
    | some false => sHandC T c f r G S
    | none => none
  | (c', some i, h) :: r => fun G S => match T c c' with
    | some true => (noEr (h 0 none c f) (G.set i (some (.x 0 none f))) S).map (unAs i)
    | some false => sHandC T c f r G S
    | none => none
def sTryC (T : Catches) (b : Ms) (l : List ClD) : Ms := fun G S => match b G S with
  | some (.er c f G' S') => sHandC T c f l G' S'
  | o => o
def suC (X : Cx) (T : Catches) (x : Str) (h : Suite) : Addr → Value → Option Addr → TS := fun a cls d => fun Dn σ H => ∃ C c f, cls = .ref C ∧ X.mg c = some (.ref C) ∧ T c x = some true ∧ tsOf X.K X.mg W0 (h a d c f) Dn σ H
inductive ClDOk (X : Cx) (T : Catches) : List ExceptHandler → List ClD → List Cla → Prop
  | nil : ClDOk X T [] [] []
  | plain {x : Str} {C : Addr} {g : Ms} {b₀ : Stmt} {st : List Stmt} {np p : Pos} {hs : List ExceptHandler} {l : List ClD} {m : List Cla} (hg : Gl X x) (hm : X.mg x = some (.ref C)) (hd : (x == ("__debug__" : Str)) = false) (h : SSu X (b₀ :: st) g) (r : ClDOk X T hs l m) :
      ClDOk X T (.ExceptHandler (some (.Name x np)) none (b₀ :: st) p :: hs) ((x, none, fun _ _ _ _ => g) :: l) ((.ref C, none, suC X T x fun _ _ _ _ => g) :: m)
  | named {x n : Str} {i : Nat} {C : Addr} {h : Suite} {b₀ : Stmt} {st : List Stmt} {np p : Pos} {hs : List ExceptHandler} {l : List ClD} {m : List Cla} (hi : X.N[i]? = some n) (hl : X.env.kindOf n = some .local) (hg : Gl X x) (hm : X.mg x = some (.ref C)) (hd : (x == ("__debug__" : Str)) = false)
      (ind : IndA i T x h) (hh : SSa X (b₀ :: st) T x h) (r : ClDOk X T hs l m) :
      ClDOk X T (.ExceptHandler (some (.Name x np)) (some n) (b₀ :: st) p :: hs) ((x, some i, h) :: l) ((.ref C, some i, suC X T x h) :: m)
section
variable {X : Cx} {W : WX} {T : Catches}
theorem ClDOk.ok {hds : List ExceptHandler} {l : List ClD} {m : List Cla} (h : ClDOk X T hds l m) : ClaOk X hds m := by
  induction h with
  | nil => exact .nil
  | plain hg hm hd hsu _ ih =>
    refine .plain ⟨hg, hd, .inl hm⟩ (fun a oe cls d pn hz hf => ⟨fun pins s σ H D I hh => ?_⟩) ih
    obtain ⟨C, c, f, rfl, _, _, hh'⟩ := hh
    exact (hsu a oe _ d pn hz hf).pss.run pins s σ H D I hh'
  | named hi hl hg hm hd ind hsu _ ih =>
    refine .named ⟨hg, hd, .inl hm⟩ hi hl (fun a oe cls d pn hz hf => ⟨fun pins s σ H D I hh => ?_⟩) ih
    obtain ⟨C, c, f, rfl, hc, ht, hh'⟩ := hh
    exact (hsu a oe C d pn c f hz hf hc ht).pss.run pins s σ H D I hh'
theorem handC_ok (TC : CatOk X.K X.mg T) {P : Hp} {L : List Addr} {σ : St} {H : Hp} {G : Sl} {S : Sto} {c : Str} {f : Option (Str × D)} {C : Addr} {dx : Option Addr} (R : RelH X.K X.mg P L H S) (RG : RelG X.K P L σ G) (ex : ExcR X.K X.mg P c f H C dx) {Dn : Ends} {o : Out}
    {hds : List ExceptHandler} {l : List ClD} {m : List Cla} (hk : ClDOk X T hds l m) (e : sHandC T c f l G S = some o) (q : PostS X.K X.mg W P L o Dn) : wCla X.K W Dn m (.ref C) dx σ H := by
  induction hk with
  | nil =>
    cases e
    exact q P L σ H C dx (Same.refl _) (LExt.refl _) R RG ex
  | @plain x C' g b₀ st np p hs l m hg hm hd hsu _ ih =>
    simp only [sHandC] at e
    cases e2 : T c x with
    | none => rw [e2] at e; cases e
    | some bb =>
      rw [e2] at e
      refine ⟨bb, TC.ok c x bb C C' e2 ex.1 hm, ?_, ?_⟩
      · intro hbb
        subst hbb
        intro a ha
        obtain ⟨h1, h2⟩ := noEr_of e
        exact ⟨C, c, f, rfl, ex.1, e2, P, L, G, S, o, R, RG, h1, q.noW h2⟩
      · intro hbb
        subst hbb
        exact ih e
  | @named x n i C' h b₀ st np p hs l m hi hl hg hm hd ind hsu _ ih =>
    simp only [sHandC] at e
    cases e2 : T c x with
    | none => rw [e2] at e; cases e
    | some bb =>
      rw [e2] at e
      refine ⟨bb, TC.ok c x bb C C' e2 ex.1 hm, ?_, ?_⟩
      · intro hbb
        subst hbb
        intro a ha
        obtain ⟨o2, h1, h2⟩ := Option.map_eq_some_iff.mp e
        obtain ⟨h3, h4⟩ := noEr_of h1
        have hx := ind a dx c f G S e2 (fun z => by subst z; exact ex.2)
        rw [h3, Option.map_some, h2] at hx
        obtain ⟨o3, h5, h6⟩ := Option.map_eq_some_iff.mp hx
        have rx : RepV X.K P L (.x a dx f) (.ref a) := ⟨rfl, fun n d z => by
          subst z
          obtain ⟨aa, u, k1, k2, k3⟩ := ex.2
          exact ⟨aa, u, k1, k2, k3⟩⟩
        refine ⟨C, c, f, rfl, ex.1, e2, P, L, _, S, o3, R, RG.set' rx, h5, ?_⟩
        have ne3 : ∀ c f G S, o3 ≠ .er c f G S := by
          have := unAs_er (i := i) h4
          rw [h2, ← h6] at this
          intro c f G S z
          subst z
          exact this c f G S rfl
        refine postS_unAs (W := W) ne3 ?_
        rw [h6]
        exact q
      · intro hbb
        subst hbb
        exact ih e
theorem ss_try_c {body : List Stmt} {h0 : ExceptHandler} {hds : List ExceptHandler} {l : List ClD} {m : List Cla} {b : Ms} {pos : Pos} (TC : CatOk X.K X.mg T) (hs : X.stack = X.env :: X.outer) (hf : X.env.frame = some X.env.locals) (hN : X.N.Nodup) (tk : Takes X W)
    (hb : ∀ (W : WX) (pn : List (Addr × Obj)) (xe : Value → Shared → Prop), Takes (X.tr pn xe) W → PassesOwn (model X.prog X.w) X.A X.env xe → SSs (X.tr pn xe) W body b)
    (hh : ClDOk X T (h0 :: hds) l m) : SS X W (.Try body (h0 :: hds) [] [] pos) (sTryC T b l) := by
  refine ⟨_, ps_try_cla (tb := fun W => tsOf X.K X.mg W b) hs hf hN tk (fun W pn xe tk' ho => (hb W pn xe tk' ho).pss) hh.ok, fun P L σ H G S R RG o e Dn q => ?_⟩
  unfold sTryC at e
  cases e1 : b G S with
  | none => rw [e1] at e; cases e
  | some o1 =>
    rw [e1] at e
    refine ⟨P, L, G, S, o1, R, RG, e1, ?_⟩
    cases o1 with
    | nx G' S' => cases e; exact q
    | rt x S' => cases e; exact q
    | bk G' S' => cases e; exact q
    | ct G' S' => cases e; exact q
    | er c f G' S' => exact fun P' L' σ' H' C dx e2 l2 R2 RG2 ex => handC_ok TC R2 RG2 ex hh e (q.mono e2 l2)
end

/-! ### isinstance(n, X), n a caught error that holds nothing -/
def mIsZ (a : Addr) (d : Option Addr) (i : Nat) (b : Bool) : Mm SV := fun G S => match G[i]? with
  | some (some (.x a' d' none)) => if a' = a ∧ d' = d ∧ d = none then some (.ok (.v (.bl b)) S) else none
  | _ => none
theorem se_isZ {X : Cx} {W : WX} {a D : Addr} {oe : Obj} {d : Option Addr} {pn : List (Addr × Obj)} {x : Str} {e2 : Expr} {cv : Value} {c : V} {b : Bool} {pos p p1 : Pos} (i : Nat) (C : ExcC X.K D) (hz : Zc (.ref D) d oe) (hf : ∃ vs, oe.data = .fields vs)
    (he : PE (X.suite a ((a, oe) :: pn)) e2 (tC c)) (hc : ∀ u, RelV c u → u = cv) (hk : PySem.W.kitOne X.K (.ref D) cv = some b) (hm : X.mg "isinstance" = none) (hg : Gl (X.suite a ((a, oe) :: pn)) "isinstance" := by rfl)
    (hN : X.N[i]? = some x := by rfl) (hv : Vis X.env.scope x := by first | exact Or.inl rfl | exact Or.inr (Or.inl rfl) | exact Or.inr (Or.inr rfl)) (hd : (x == ("__debug__" : Str)) = false := by decide) (hcd : (x == ("__classdict__" : Str)) = false := by decide)
    (hst : starEach (.Name x p1 :: [e2]) X.env = (false, eval (.Name x p1) X.env) :: starEach [e2] X.env := by rfl) (hst2 : starEach (e2 :: []) X.env = (false, eval e2 X.env) :: starEach [] X.env := by rfl)
    (hpl : (backTo pos (starEach [e2] X.env)).any (·.1) = false := by rfl) :
    SE (X.suite a ((a, oe) :: pn)) W (.Call (.Name "isinstance" p) [.Name x p1, e2] [] pos) (mIsZ a d i b) := by
  by_cases hd0 : d = none
  · subst hd0
    refine ⟨_, pe_callB (call_isE C hz hf) hg hm (by decide +kernel) (pa_cons (pe_var (i := i) hN hv hd hcd) (pa_cons he pa_nil hst2) hst) (by decide) (by decide) hst hpl, fun P L σ H G S R RG r h Q q => ?_⟩
    unfold mIsZ at h
    cases e1 : G[i]? with
    | none => rw [e1] at h; cases h
    | some g =>
      rw [e1] at h
      cases g with
      | none => cases h
      | some xv =>
        cases xv with
        | v _ => cases h
        | o _ => cases h
        | x a' d' f =>
          cases f with
          | some _ => cases h
          | none =>
            simp only at h
            by_cases cc : a' = a ∧ d' = none ∧ True
            · rw [if_pos cc] at h
              cases h
              obtain ⟨rfl, rfl, _⟩ := cc
              obtain ⟨v, h1, h2, h3⟩ := RG.2 i _ e1
              subst h2
              refine ⟨_, h1, c, cv, b, rfl, hc, hk, ?_⟩
              exact q P L H _ (Same.refl _) (LExt.refl _) R (by simp only [rV, RepV, RepD])
            · rw [if_neg cc] at h; cases h
  · refine ⟨fun _ _ _ => False, ⟨fun pins s σ H Q I h => h.elim⟩, fun P L σ H G S R RG r h => ?_⟩
    unfold mIsZ at h
    split at h
    · rw [if_neg (fun z => hd0 z.2.2)] at h; cases h
    · cases h

/-! ### a display of a dict: written texts as keys -/
def repPr (K : PySem.W.Frag) (ks : List Str) : Hp → List Addr → List SV → List (V × V) → Prop := fun P L xs ps => ∃ vs, RepVs K P L xs vs ∧ vs.length = ks.length ∧ ps = (ks.map V.str).zip vs
def SD (X : Cx) (W : WX) (pos : Pos) (ks : List Str) (keys : List (Option Expr)) (vals : List Expr) (f : Mm (List SV)) : Prop := ∃ trs, PPs X pos keys vals trs ∧ EvR X.K X.mg (repPr X.K ks) W (tPairs trs) f
section
variable {X : Cx} {W : WX} {pos : Pos} {ks : List Str} {keys : List (Option Expr)} {vals : List Expr} {f : Mm (List SV)}
theorem sd_nil : SD X W pos [] [] [] mNil := ⟨[], pps_nil, fun P L σ H G S R RG r h Q q => by
  cases h
  exact q P L H [] (Same.refl _) (LExt.refl _) R ⟨[], rfl, rfl, rfl⟩⟩
theorem sd_cons {k : Str} {j : Nat} {kp : Pos} {v : Expr} {fv : Mm SV} (hv : SE X W v fv) (hr : SD X W pos ks keys vals f) : SD X W pos (k :: ks) (some (.Constant (.str k) j kp) :: keys) (v :: vals) (mCons fv f) := by
  obtain ⟨t, a1, a2⟩ := hv
  obtain ⟨trs, b1, b2⟩ := hr
  refine ⟨(tC (.str k), t) :: trs, pps_cons pe_str a1 b1, fun P L σ H G S R RG => ?_⟩
  show At X.K X.mg (repPr X.K (k :: ks)) W P L σ H (fun σ H Q => t σ H fun y H2 => tPairs trs σ H2 fun ps H3 => Q ((V.str k, y) :: ps) H3) _
  refine At.bind (t := t) (k := fun y σ H2 (Q : List (V × V) → Hp → Prop) => tPairs trs σ H2 fun ps H3 => Q ((V.str k, y) :: ps) H3) RG (a2 P L σ H G S R RG) fun P1 L1 H1 S1 x y e1 l1 R1 RG1 rx => ?_
  refine At.bind (t := tPairs trs) (k := fun ps σ H3 (Q : List (V × V) → Hp → Prop) => Q ((V.str k, y) :: ps) H3) RG1 (b2 P1 L1 σ H1 G S1 R1 RG1) fun P2 L2 H2 S2 xs ps e2 l2 R2 RG2 rps => ?_
  obtain ⟨vs, q1, q2, rfl⟩ := rps
  exact At.ret R2 ⟨y :: vs, ⟨y, vs, rfl, RepV.mono e2 l2 rx, q1⟩, by simp [q2], rfl⟩
def kN (ks : List Str) : List DKey := ks.map fun k => .inr (lit k)
def dk0 : Option MO → Bool
  | some (.dk [] []) => true
  | _ => false
theorem dk0_eq {o : Option MO} (h : dk0 o = true) : o = some (.dk [] []) := by
  unfold dk0 at h
  split at h
  · rfl
  · cases h
/-- a new dict, frozen -/
def mDisp (ks : List Str) (f : Mm (List SV)) : Mm SV := fun G S => match f G (S ++ [.dk [] []]) with
  | some (.ok xs S2) => match datas xs with
    | some ds => if dk0 S2[S.length]? = true ∧ ks.Nodup ∧ ks.length ≤ 15 ∧ (S2.take S.length).all (MO.below S.length) = true then some (.ok (.v (.dk (kN ks) ds)) (S2.take S.length)) else none
    | none => none
  | _ => none
/-- .. owned -/
def mDispO (ks : List Str) (f : Mm (List SV)) : Mm SV := fun G S => match f G (S ++ [.dk [] []]) with
  | some (.ok xs S2) => match datas xs with
    | some ds => if dk0 S2[S.length]? = true ∧ ks.Nodup ∧ ks.length ≤ 15 then some (.ok (.o S.length) (S2.set S.length (.dk (kN ks) ds))) else none
    | none => none
  | _ => none
theorem merge_zip : ∀ {ks : List Str} {vs : List V} {acc : List (L2.Key × V)}, ks.Nodup → (∀ k ∈ ks, (Sum.inr k : L2.Key) ∉ acc.map (·.1)) → mergeK acc ((ks.map fun k => (Sum.inr k : L2.Key)).zip vs) = acc ++ (ks.map fun k => (Sum.inr k : L2.Key)).zip vs
  | [], vs, acc, _, _ => by simp [mergeK]
  | k :: ks, [], acc, _, _ => by simp [mergeK]
  | k :: ks, v :: vs, acc, nd, h => by
    have h1 : valV acc (Sum.inr k : L2.Key) = none := by
      cases e : valV acc (Sum.inr k : L2.Key) with
      | none => rfl
      | some w => exact absurd (valV_in e) (h k List.mem_cons_self)
    show mergeK (putK acc (Sum.inr k) v) ((ks.map fun k => (Sum.inr k : L2.Key)).zip vs) = _
    rw [putK_new _ h1, merge_zip (List.nodup_cons.mp nd).2, List.append_assoc]
    · rfl
    · intro k' hk' hm
      rw [List.map_append, List.mem_append] at hm
      rcases hm with hm | hm
      · exact h k' (List.mem_cons_of_mem _ hk') hm
      · simp at hm
        subst hm
        exact (List.nodup_cons.mp nd).1 hk'
theorem ks_map (ks : List Str) : (ks.map fun k => (Sum.inr k : L2.Key)) = (kN ks).map kS := by
  unfold kN
  rw [List.map_map]
  apply List.map_congr_left
  intro k _
  show (Sum.inr k : L2.Key) = kS (.inr (lit k))
  simp only [kS, mkS_lit]
theorem zip_kv (ks : List Str) (vs : List V) : (ks.map V.str).zip vs = (((ks.map fun k => (Sum.inr k : L2.Key)).zip vs).map fun kv => (kV kv.1, kv.2)) := by
  induction ks generalizing vs with
  | nil => rfl
  | cons k ks ih =>
    cases vs with
    | nil => rfl
    | cons v vs => simp only [List.map_cons, List.zip_cons_cons, ih vs]; rfl
theorem disp_core {P : Hp} {L : List Addr} {σ : St} {H : Hp} {G : Sl} {S S2 : Sto} {xs : List SV} {ds : List D} {trs : List (TE × TE)} (b2 : EvR X.K X.mg (repPr X.K ks) W (tPairs trs) f) (R : RelH X.K X.mg P L H S) (RG : RelG X.K P L σ G)
    (e1 : f G (S ++ [.dk [] []]) = some (.ok xs S2)) (e2 : datas xs = some ds) (e3 : S2[S.length]? = some (.dk [] [])) (nd : ks.Nodup) (h15 : ks.length ≤ 15) {Q : VK}
    (q : ∀ P' L' H' p, Same P P' → LExt (L ++ [p]) L' → RelH X.K X.mg P' L' H' (S2.set S.length (.dk (kN ks) ds)) → Q (.ref p) H') : tDisp trs σ H Q := by
  intro p hp
  have R1 := R.newO hp (o := .dk [] []) (ho := .dK []) ⟨[], rfl, rfl, RepDs.nil⟩
  have RG1 : RelG X.K P (L ++ [p]) σ G := RG.mono (Same.refl _) (LExt.app _ _)
  refine b2 P (L ++ [p]) σ (upd H p (.dK [])) G (S ++ [.dk [] []]) R1 RG1 _ e1 _ ?_
  intro P' L' H' ps s1 l1 R2 rps
  obtain ⟨vs, q1, q2, rfl⟩ := rps
  have hat : L'[S.length]? = some p := l1 _ _ (by rw [← R.len]; simp)
  obtain ⟨mo, ho, g1, g2, g3⟩ := R2.of_at hat
  rw [e3] at g1
  cases g1
  obtain ⟨kvs0, rfl, g4, g5⟩ := g3
  have hk0 : kvs0 = [] := by
    cases kvs0 with
    | nil => rfl
    | cons _ _ => simp at g4
  subst hk0
  have rds := datas_rep e2 q1
  refine ⟨g2, (ks.map fun k => (Sum.inr k : L2.Key)).zip vs, zip_kv ks vs, by simp; omega, ?_⟩
  rw [merge_zip nd (fun _ _ => by simp), List.nil_append]
  have hf : ((ks.map fun k => (Sum.inr k : L2.Key)).zip vs).map (·.1) = (kN ks).map kS := by
    rw [← ks_map, List.map_fst_zip (by simp; omega)]
  have hs : ((ks.map fun k => (Sum.inr k : L2.Key)).zip vs).map (·.2) = vs := List.map_snd_zip (by simp; omega)
  exact q P' L' _ p s1 l1 (R2.write hat e3 rfl (o := .dk (kN ks) ds) (ho := .dK _) ⟨_, rfl, hf, by rw [hs]; exact rds⟩)
theorem se_dispO (h : SD X W pos ks keys vals f) (hall : keys.all (·.isSome) = true) (hl : keys.length = vals.length) (h0 : keys ≠ []) (h15 : keys.length ≤ 15) : SE X W (.Dict keys vals pos) (mDispO ks f) := by
  obtain ⟨trs, b1, b2⟩ := h
  refine ⟨_, pe_disp b1 hall hl h0 h15, fun P L σ H G S R RG r h Q q => ?_⟩
  unfold mDispO at h
  cases e1 : f G (S ++ [.dk [] []]) with
  | none => rw [e1] at h; cases h
  | some r1 =>
    rw [e1] at h
    cases r1 with
    | er c f' S2 => cases h
    | ok xs S2 =>
      simp only at h
      cases e2 : datas xs with
      | none => rw [e2] at h; cases h
      | some ds =>
        rw [e2] at h
        simp only at h
        by_cases c : dk0 S2[S.length]? = true ∧ ks.Nodup ∧ ks.length ≤ 15
        · rw [if_pos c] at h
          cases h
          refine disp_core b2 R RG e1 e2 (dk0_eq c.1) c.2.1 c.2.2 fun P' L' H' p s1 l1 R' => ?_
          exact q P' L' H' _ s1 ((LExt.app _ _).trans l1) R' ⟨p, rfl, l1 _ _ (by rw [← R.len]; simp)⟩
        · rw [if_neg c] at h; cases h
theorem se_disp (h : SD X W pos ks keys vals f) (hall : keys.all (·.isSome) = true) (hl : keys.length = vals.length) (h0 : keys ≠ []) (h15 : keys.length ≤ 15) : SE X W (.Dict keys vals pos) (mDisp ks f) := by
  obtain ⟨trs, b1, b2⟩ := h
  refine ⟨_, pe_disp b1 hall hl h0 h15, fun P L σ H G S R RG r h Q q => ?_⟩
  unfold mDisp at h
  cases e1 : f G (S ++ [.dk [] []]) with
  | none => rw [e1] at h; cases h
  | some r1 =>
    rw [e1] at h
    cases r1 with
    | er c f' S2 => cases h
    | ok xs S2 =>
      simp only at h
      cases e2 : datas xs with
      | none => rw [e2] at h; cases h
      | some ds =>
        rw [e2] at h
        simp only at h
        by_cases c : dk0 S2[S.length]? = true ∧ ks.Nodup ∧ ks.length ≤ 15 ∧ (S2.take S.length).all (MO.below S.length) = true
        · rw [if_pos c] at h
          cases h
          refine disp_core b2 R RG e1 e2 (dk0_eq c.1) c.2.1 c.2.2.1 fun P' L' H' p s1 l1 R' => ?_
          have hlt : S.length < S2.length := by
            have := dk0_eq c.1
            exact (List.getElem?_eq_some_iff.mp this).1
          have htk : (S2.set S.length (.dk (kN ks) ds)).take S.length = S2.take S.length := by
            rw [List.take_set]
            exact List.set_eq_of_length_le (by simp; omega)
          have R3 := R'.cut S.length (by rw [htk]; exact c.2.2.2)
          rw [htk] at R3
          have hat : L'[S.length]? = some p := l1 _ _ (by rw [← R.len]; simp)
          have hL : L'.take S.length = L := by
            have := ((LExt.app L [p]).trans l1).take_eq
            rw [← R.len]
            exact this
          rw [hL] at R3
          have hget : (S2.set S.length (.dk (kN ks) ds))[S.length]? = some (.dk (kN ks) ds) := List.getElem?_set_self hlt
          have := thaw_rep R' (n := S.length) (x := .o S.length) (y := .v (.dk (kN ks) ds)) (v := .ref p) (by simp [thaw, snapO, hget]) ⟨p, rfl, hat⟩
          exact q _ L H' _ (s1.trans (still_same R' _)) (LExt.refl _) R3 this
        · rw [if_neg c] at h; cases h
end
end DL

/-! Printed by gen.py: what each def is denoted by, and that it keeps it. -/
namespace G
open PySem L2 DL
def topS (i : Nat) : Stmt := PySem.Challenge.pw_fourthword_k56_edits_of_triples.main.body.getD i (.Pass ⟨0, 0, 0, 0⟩)
abbrev s_is_integer : Stmt := topS 6
abbrev N_is_integer : List Str := ["thing"]
theorem sc_is_integer : FnScope N_is_integer ["thing"] (defScope s_is_integer) := ⟨rfl, rfl, rfl, by decide +kernel, rfl, by decide +kernel, by decide +kernel⟩
abbrev s_is_within : Stmt := topS 7
abbrev N_is_within : List Str := ["thing", "low", "high"]
theorem sc_is_within : FnScope N_is_within ["thing", "low", "high"] (defScope s_is_within) := ⟨rfl, rfl, rfl, by decide +kernel, rfl, by decide +kernel, by decide +kernel⟩
abbrev s_is_tuple : Stmt := topS 8
abbrev N_is_tuple : List Str := ["thing", "least", "most"]
theorem sc_is_tuple : FnScope N_is_tuple ["thing", "least", "most"] (defScope s_is_tuple) := ⟨rfl, rfl, rfl, by decide +kernel, rfl, by decide +kernel, by decide +kernel⟩
abbrev s_is_word : Stmt := topS 9
abbrev N_is_word : List Str := ["thing", "sign"]
theorem sc_is_word : FnScope N_is_word ["thing"] (defScope s_is_word) := ⟨rfl, rfl, rfl, by decide +kernel, rfl, by decide +kernel, by decide +kernel⟩
abbrev s_is_triple : Stmt := topS 15
abbrev N_is_triple : List Str := ["thing", "word"]
theorem sc_is_triple : FnScope N_is_triple ["thing"] (defScope s_is_triple) := ⟨rfl, rfl, rfl, by decide +kernel, rfl, by decide +kernel, by decide +kernel⟩
abbrev s_check_triple : Stmt := topS 16
abbrev N_check_triple : List Str := ["triple"]
theorem sc_check_triple : FnScope N_check_triple ["triple"] (defScope s_check_triple) := ⟨rfl, rfl, rfl, by decide +kernel, rfl, by decide +kernel, by decide +kernel⟩
abbrev s_is_letter : Stmt := topS 17
abbrev N_is_letter : List Str := ["thing"]
theorem sc_is_letter : FnScope N_is_letter ["thing"] (defScope s_is_letter) := ⟨rfl, rfl, rfl, by decide +kernel, rfl, by decide +kernel, by decide +kernel⟩
abbrev s_raw_is_edit : Stmt := topS 18
abbrev N_raw_is_edit : List Str := ["triple", "thing", "many"]
theorem sc_raw_is_edit : FnScope N_raw_is_edit ["triple", "thing"] (defScope s_raw_is_edit) := ⟨rfl, rfl, rfl, by decide +kernel, rfl, by decide +kernel, by decide +kernel⟩
abbrev s_is_edit : Stmt := topS 19
abbrev N_is_edit : List Str := ["triple", "thing"]
theorem sc_is_edit : FnScope N_is_edit ["triple", "thing"] (defScope s_is_edit) := ⟨rfl, rfl, rfl, by decide +kernel, rfl, by decide +kernel, by decide +kernel⟩
abbrev s_raw_edited : Stmt := topS 20
abbrev N_raw_edited : List Str := ["triple", "edit", "place", "at", "word"]
theorem sc_raw_edited : FnScope N_raw_edited ["triple", "edit"] (defScope s_raw_edited) := ⟨rfl, rfl, rfl, by decide +kernel, rfl, by decide +kernel, by decide +kernel⟩
abbrev s_check_edit : Stmt := topS 21
abbrev N_check_edit : List Str := ["triple", "edit"]
theorem sc_check_edit : FnScope N_check_edit ["triple", "edit"] (defScope s_check_edit) := ⟨rfl, rfl, rfl, by decide +kernel, rfl, by decide +kernel, by decide +kernel⟩
abbrev s_edited : Stmt := topS 22
abbrev N_edited : List Str := ["triple", "edit"]
theorem sc_edited : FnScope N_edited ["triple", "edit"] (defScope s_edited) := ⟨rfl, rfl, rfl, by decide +kernel, rfl, by decide +kernel, by decide +kernel⟩
abbrev s__law_numbers : Stmt := topS 24
abbrev N__law_numbers : List Str := ["script", "thing", "cell", "rest", "found", "k", "number"]
theorem sc__law_numbers : FnScope N__law_numbers ["script", "thing"] (defScope s__law_numbers) := ⟨rfl, rfl, rfl, by decide +kernel, rfl, by decide +kernel, by decide +kernel⟩
abbrev s__law_letters : Stmt := topS 25
abbrev N__law_letters : List Str := ["number", "found", "rest", "k", "left", "letter"]
theorem sc__law_letters : FnScope N__law_letters ["number"] (defScope s__law_letters) := ⟨rfl, rfl, rfl, by decide +kernel, rfl, by decide +kernel, by decide +kernel⟩
abbrev s__law_woven : Stmt := topS 26
abbrev N__law_woven : List Str := ["xs", "many", "letters", "words", "moves", "k", "number", "one", "other", "letter"]
theorem sc__law_woven : FnScope N__law_woven ["xs", "many", "letters"] (defScope s__law_woven) := ⟨rfl, rfl, rfl, by decide +kernel, rfl, by decide +kernel, by decide +kernel⟩
abbrev s__law_triple : Stmt := topS 27
abbrev N__law_triple : List Str := ["script", "base", "xs", "ys", "letters", "words", "moves", "x", "at"]
theorem sc__law_triple : FnScope N__law_triple ["script", "base"] (defScope s__law_triple) := ⟨rfl, rfl, rfl, by decide +kernel, rfl, by decide +kernel, by decide +kernel⟩
abbrev s__law_edit : Stmt := topS 28
abbrev N__law_edit : List Str := ["triple", "number", "letters", "at", "place", "word", "letter", "spot", "way", "others", "one"]
theorem sc__law_edit : FnScope N__law_edit ["triple", "number", "letters"] (defScope s__law_edit) := ⟨rfl, rfl, rfl, by decide +kernel, rfl, by decide +kernel, by decide +kernel⟩
abbrev s__law_edited : Stmt := topS 29
abbrev N__law_edited : List Str := ["triple", "edit", "at", "word", "spot"]
theorem sc__law_edited : FnScope N__law_edited ["triple", "edit"] (defScope s__law_edited) := ⟨rfl, rfl, rfl, by decide +kernel, rfl, by decide +kernel, by decide +kernel⟩
abbrev s__law_same : Stmt := topS 30
abbrev N__law_same : List Str := ["found", "due", "pairs", "depth", "below", "one", "other", "k"]
theorem sc__law_same : FnScope N__law_same ["found", "due"] (defScope s__law_same) := ⟨rfl, rfl, rfl, by decide +kernel, rfl, by decide +kernel, by decide +kernel⟩
abbrev s__law_told : Stmt := topS 31
abbrev N__law_told : List Str := ["triple", "edit", "word", "found", "e"]
theorem sc__law_told : FnScope N__law_told ["triple", "edit"] (defScope s__law_told) := ⟨rfl, rfl, rfl, by decide +kernel, rfl, by decide +kernel, by decide +kernel⟩
abbrev s__law_refused : Stmt := topS 32
abbrev N__law_refused : List Str := ["triple", "refused"]
theorem sc__law_refused : FnScope N__law_refused ["triple"] (defScope s__law_refused) := ⟨rfl, rfl, rfl, by decide +kernel, rfl, by decide +kernel, by decide +kernel⟩
abbrev s__law_odd : Stmt := topS 33
abbrev N__law_odd : List Str := ["triple", "edit", "number", "at", "size", "place", "odd"]
theorem sc__law_odd : FnScope N__law_odd ["triple", "edit", "number"] (defScope s__law_odd) := ⟨rfl, rfl, rfl, by decide +kernel, rfl, by decide +kernel, by decide +kernel⟩
abbrev s__law_no_triple : Stmt := topS 34
abbrev N__law_no_triple : List Str := ["triple", "number", "x", "y", "z", "odd"]
theorem sc__law_no_triple : FnScope N__law_no_triple ["triple", "number"] (defScope s__law_no_triple) := ⟨rfl, rfl, rfl, by decide +kernel, rfl, by decide +kernel, by decide +kernel⟩
abbrev s_law : Stmt := topS 35
abbrev N_law : List Str := ["script", "k", "triple", "xs", "letters", "m", "edit", "due", "odd", "bad"]
theorem sc_law : FnScope N_law ["script"] (defScope s_law) := ⟨rfl, rfl, rfl, by decide +kernel, rfl, by decide +kernel, by decide +kernel⟩
theorem bb_all : bootBuiltins "all" = some (.builtin "all") := by decide +kernel
theorem bb_isinstance : bootBuiltins "isinstance" = some (.builtin "isinstance") := by decide +kernel
theorem bb_len : bootBuiltins "len" = some (.builtin "len") := by decide +kernel

theorem bt_bool : bootBuiltins "bool" = some (.type "bool") := by decide +kernel
theorem bt_int : bootBuiltins "int" = some (.type "int") := by decide +kernel
theorem bt_list : bootBuiltins "list" = some (.type "list") := by decide +kernel
theorem bt_str : bootBuiltins "str" = some (.type "str") := by decide +kernel
theorem bt_tuple : bootBuiltins "tuple" = some (.type "tuple") := by decide +kernel
def c_PLACES : D := (.str [120, 121, 122])
def c_CUT : D := (.str [99, 117, 116])
def c_LETTERS : D := (.str [97, 98, 99, 100, 101, 102, 103, 104, 105, 106, 107, 108, 109, 110, 111, 112, 113, 114, 115, 116, 117, 118, 119, 120, 121, 122])
def c_TURN : D := (.str [116, 117, 114, 110])
def c_PUT : D := (.str [112, 117, 116])
def tab : List ((Str × Str) × Bool) := [(("NoEdit", "NoEdit"), true), (("NoEdit", "NoTriple"), false), (("NoTriple", "NoEdit"), false), (("NoTriple", "NoTriple"), true)]
def excT (c c' : Str) : Option Bool := tab.lookup (c, c')
theorem cat_NoEdit_NoEdit : excT "NoEdit" "NoEdit" = some true := by decide +kernel
theorem cat_NoEdit_NoTriple : excT "NoEdit" "NoTriple" = some false := by decide +kernel
theorem cat_NoTriple_NoEdit : excT "NoTriple" "NoEdit" = some false := by decide +kernel
theorem cat_NoTriple_NoTriple : excT "NoTriple" "NoTriple" = some true := by decide +kernel
theorem tabl_NoEdit_NoEdit : List.lookup (("NoEdit" : Str), ("NoEdit" : Str)) tab = some true := by decide +kernel
theorem tabl_NoEdit_NoTriple : List.lookup (("NoEdit" : Str), ("NoTriple" : Str)) tab = some false := by decide +kernel
theorem tabl_NoTriple_NoEdit : List.lookup (("NoTriple" : Str), ("NoEdit" : Str)) tab = some false := by decide +kernel
theorem tabl_NoTriple_NoTriple : List.lookup (("NoTriple" : Str), ("NoTriple" : Str)) tab = some true := by decide +kernel
theorem excT_NoEdit {c : Str} (h : excT c "NoEdit" = some true) : c = "NoEdit" := tab_inv (l := tab) (by decide +kernel) h
theorem excT_NoTriple {c : Str} (h : excT c "NoTriple" = some true) : c = "NoTriple" := tab_inv (l := tab) (by decide +kernel) h
structure Ad where
  f_is_integer : Addr
  fd_is_integer : FuncData
  f_is_within : Addr
  fd_is_within : FuncData
  f_is_tuple : Addr
  fd_is_tuple : FuncData
  f_is_word : Addr
  fd_is_word : FuncData
  f_is_triple : Addr
  fd_is_triple : FuncData
  f_check_triple : Addr
  fd_check_triple : FuncData
  f_is_letter : Addr
  fd_is_letter : FuncData
  f_raw_is_edit : Addr
  fd_raw_is_edit : FuncData
  f_is_edit : Addr
  fd_is_edit : FuncData
  f_raw_edited : Addr
  fd_raw_edited : FuncData
  f_check_edit : Addr
  fd_check_edit : FuncData
  f_edited : Addr
  fd_edited : FuncData
  f__law_numbers : Addr
  fd__law_numbers : FuncData
  f__law_letters : Addr
  fd__law_letters : FuncData
  f__law_woven : Addr
  fd__law_woven : FuncData
  f__law_triple : Addr
  fd__law_triple : FuncData
  f__law_edit : Addr
  fd__law_edit : FuncData
  f__law_edited : Addr
  fd__law_edited : FuncData
  f__law_same : Addr
  fd__law_same : FuncData
  f__law_told : Addr
  fd__law_told : FuncData
  f__law_refused : Addr
  fd__law_refused : FuncData
  f__law_odd : Addr
  fd__law_odd : FuncData
  f__law_no_triple : Addr
  fd__law_no_triple : FuncData
  f_law : Addr
  fd_law : FuncData
  c_FourthError : Addr
  c_NoEdit : Addr
  c_NoTriple : Addr
structure Txt (P : Program) (w : World) (K : PySem.W.Frag) (mg : Str → Option Value) (base : Heap) (A : Ad) : Prop where
  F_is_integer : Fun K "is_integer" "is_integer" s_is_integer A.f_is_integer A.fd_is_integer
  m_is_integer : mg "is_integer" = some (.ref A.f_is_integer)
  b_is_integer : Binds K A.fd_is_integer ["thing"] []
  F_is_within : Fun K "is_within" "is_within" s_is_within A.f_is_within A.fd_is_within
  m_is_within : mg "is_within" = some (.ref A.f_is_within)
  b_is_within : Binds K A.fd_is_within ["thing", "low", "high"] []
  F_is_tuple : Fun K "is_tuple" "is_tuple" s_is_tuple A.f_is_tuple A.fd_is_tuple
  m_is_tuple : mg "is_tuple" = some (.ref A.f_is_tuple)
  b_is_tuple : Binds K A.fd_is_tuple ["thing", "least", "most"] []
  F_is_word : Fun K "is_word" "is_word" s_is_word A.f_is_word A.fd_is_word
  m_is_word : mg "is_word" = some (.ref A.f_is_word)
  b_is_word : Binds K A.fd_is_word ["thing"] []
  F_is_triple : Fun K "is_triple" "is_triple" s_is_triple A.f_is_triple A.fd_is_triple
  m_is_triple : mg "is_triple" = some (.ref A.f_is_triple)
  b_is_triple : Binds K A.fd_is_triple ["thing"] []
  F_check_triple : Fun K "check_triple" "check_triple" s_check_triple A.f_check_triple A.fd_check_triple
  m_check_triple : mg "check_triple" = some (.ref A.f_check_triple)
  b_check_triple : Binds K A.fd_check_triple ["triple"] []
  F_is_letter : Fun K "is_letter" "is_letter" s_is_letter A.f_is_letter A.fd_is_letter
  m_is_letter : mg "is_letter" = some (.ref A.f_is_letter)
  b_is_letter : Binds K A.fd_is_letter ["thing"] []
  F_raw_is_edit : Fun K "raw_is_edit" "raw_is_edit" s_raw_is_edit A.f_raw_is_edit A.fd_raw_is_edit
  m_raw_is_edit : mg "raw_is_edit" = some (.ref A.f_raw_is_edit)
  b_raw_is_edit : Binds K A.fd_raw_is_edit ["triple", "thing"] []
  F_is_edit : Fun K "is_edit" "is_edit" s_is_edit A.f_is_edit A.fd_is_edit
  m_is_edit : mg "is_edit" = some (.ref A.f_is_edit)
  b_is_edit : Binds K A.fd_is_edit ["triple", "thing"] []
  F_raw_edited : Fun K "raw_edited" "raw_edited" s_raw_edited A.f_raw_edited A.fd_raw_edited
  m_raw_edited : mg "raw_edited" = some (.ref A.f_raw_edited)
  b_raw_edited : Binds K A.fd_raw_edited ["triple", "edit"] []
  F_check_edit : Fun K "check_edit" "check_edit" s_check_edit A.f_check_edit A.fd_check_edit
  m_check_edit : mg "check_edit" = some (.ref A.f_check_edit)
  b_check_edit : Binds K A.fd_check_edit ["triple", "edit"] []
  F_edited : Fun K "edited" "edited" s_edited A.f_edited A.fd_edited
  m_edited : mg "edited" = some (.ref A.f_edited)
  b_edited : Binds K A.fd_edited ["triple", "edit"] []
  F__law_numbers : Fun K "_law_numbers" "_law_numbers" s__law_numbers A.f__law_numbers A.fd__law_numbers
  m__law_numbers : mg "_law_numbers" = some (.ref A.f__law_numbers)
  b__law_numbers : Binds K A.fd__law_numbers ["script", "thing"] []
  F__law_letters : Fun K "_law_letters" "_law_letters" s__law_letters A.f__law_letters A.fd__law_letters
  m__law_letters : mg "_law_letters" = some (.ref A.f__law_letters)
  b__law_letters : Binds K A.fd__law_letters ["number"] []
  F__law_woven : Fun K "_law_woven" "_law_woven" s__law_woven A.f__law_woven A.fd__law_woven
  m__law_woven : mg "_law_woven" = some (.ref A.f__law_woven)
  b__law_woven : Binds K A.fd__law_woven ["xs", "many", "letters"] []
  F__law_triple : Fun K "_law_triple" "_law_triple" s__law_triple A.f__law_triple A.fd__law_triple
  m__law_triple : mg "_law_triple" = some (.ref A.f__law_triple)
  b__law_triple : Binds K A.fd__law_triple ["script", "base"] []
  F__law_edit : Fun K "_law_edit" "_law_edit" s__law_edit A.f__law_edit A.fd__law_edit
  m__law_edit : mg "_law_edit" = some (.ref A.f__law_edit)
  b__law_edit : Binds K A.fd__law_edit ["triple", "number", "letters"] []
  F__law_edited : Fun K "_law_edited" "_law_edited" s__law_edited A.f__law_edited A.fd__law_edited
  m__law_edited : mg "_law_edited" = some (.ref A.f__law_edited)
  b__law_edited : Binds K A.fd__law_edited ["triple", "edit"] []
  F__law_same : Fun K "_law_same" "_law_same" s__law_same A.f__law_same A.fd__law_same
  m__law_same : mg "_law_same" = some (.ref A.f__law_same)
  b__law_same : Binds K A.fd__law_same ["found", "due"] []
  F__law_told : Fun K "_law_told" "_law_told" s__law_told A.f__law_told A.fd__law_told
  m__law_told : mg "_law_told" = some (.ref A.f__law_told)
  b__law_told : Binds K A.fd__law_told ["triple", "edit"] []
  F__law_refused : Fun K "_law_refused" "_law_refused" s__law_refused A.f__law_refused A.fd__law_refused
  m__law_refused : mg "_law_refused" = some (.ref A.f__law_refused)
  b__law_refused : Binds K A.fd__law_refused ["triple"] []
  F__law_odd : Fun K "_law_odd" "_law_odd" s__law_odd A.f__law_odd A.fd__law_odd
  m__law_odd : mg "_law_odd" = some (.ref A.f__law_odd)
  b__law_odd : Binds K A.fd__law_odd ["triple", "edit", "number"] []
  F__law_no_triple : Fun K "_law_no_triple" "_law_no_triple" s__law_no_triple A.f__law_no_triple A.fd__law_no_triple
  m__law_no_triple : mg "_law_no_triple" = some (.ref A.f__law_no_triple)
  b__law_no_triple : Binds K A.fd__law_no_triple ["triple", "number"] []
  F_law : Fun K "law" "law" s_law A.f_law A.fd_law
  m_law : mg "law" = some (.ref A.f_law)
  b_law : Binds K A.fd_law ["script"] []
  n_ValueError : mg "ValueError" = none
  n_all : mg "all" = none
  n_bool : mg "bool" = none
  n_int : mg "int" = none
  n_isinstance : mg "isinstance" = none
  n_len : mg "len" = none
  n_list : mg "list" = none
  n_range : mg "range" = none
  n_str : mg "str" = none
  n_tuple : mg "tuple" = none
  g_CUT : GlobD K mg "CUT" c_CUT
  g_LETTERS : GlobD K mg "LETTERS" c_LETTERS
  g_PLACES : GlobD K mg "PLACES" c_PLACES
  g_PUT : GlobD K mg "PUT" c_PUT
  g_TURN : GlobD K mg "TURN" c_TURN
  m_FourthError : mg "FourthError" = some (.ref A.c_FourthError)
  m_NoEdit : mg "NoEdit" = some (.ref A.c_NoEdit)
  m_NoTriple : mg "NoTriple" = some (.ref A.c_NoTriple)
  r_NoEdit : RaisC K A.c_NoEdit
  r_NoTriple : RaisC K A.c_NoTriple
  xc_NoTriple : ExcC K A.c_NoTriple
  e_NoEdit_NoEdit : PySem.W.exmOne K (.ref A.c_NoEdit) (.ref A.c_NoEdit) = some true
  e_NoEdit_NoTriple : PySem.W.exmOne K (.ref A.c_NoEdit) (.ref A.c_NoTriple) = some false
  e_NoTriple_NoEdit : PySem.W.exmOne K (.ref A.c_NoTriple) (.ref A.c_NoEdit) = some false
  e_NoTriple_NoTriple : PySem.W.exmOne K (.ref A.c_NoTriple) (.ref A.c_NoTriple) = some true
  ki_NoTriple_FourthError : PySem.W.kitOne K (.ref A.c_NoTriple) (.ref A.c_FourthError) = some true
  ki_NoTriple_NoEdit : PySem.W.kitOne K (.ref A.c_NoTriple) (.ref A.c_NoEdit) = some false
  ki_NoTriple_ValueError : PySem.W.kitOne K (.ref A.c_NoTriple) (.type "ValueError") = some true
section
variable {P : Program} {w : World} {K : PySem.W.Frag} {mg : Str → Option Value} {base : Heap} {A : Ad}
theorem catOk (T : Txt P w K mg base A) : CatOk K mg excT := catOk_of fun p hp => by
  simp only [tab, List.mem_cons, List.not_mem_nil, or_false] at hp
  rcases hp with rfl | rfl | rfl | rfl
  · exact fun C C' h1 h2 => by cases (T.m_NoEdit).symm.trans h1; cases (T.m_NoEdit).symm.trans h2; exact T.e_NoEdit_NoEdit
  · exact fun C C' h1 h2 => by cases (T.m_NoEdit).symm.trans h1; cases (T.m_NoTriple).symm.trans h2; exact T.e_NoEdit_NoTriple
  · exact fun C C' h1 h2 => by cases (T.m_NoTriple).symm.trans h1; cases (T.m_NoEdit).symm.trans h2; exact T.e_NoTriple_NoEdit
  · exact fun C C' h1 h2 => by cases (T.m_NoTriple).symm.trans h1; cases (T.m_NoTriple).symm.trans h2; exact T.e_NoTriple_NoTriple
def su_is_integer_0_0 : Ms := (sRet (vAnd (mIsI .int (mVar 0)) (vNot (mIsI .bool (mVar 0)))))
def den_is_integer : Fn := fnD 1 1 su_is_integer_0_0
theorem ok_is_integer (T : Txt P w K mg base A) : FnOk P w K mg base (L2.CX P w) 1 A.f_is_integer A.fd_is_integer ["thing"] (spD K mg den_is_integer) :=
  fn_D T.F_is_integer sc_is_integer fun cdv A0 outer s H E hr =>
  (sss_one (ss_ret (se_and (se_isi .int rfl T.n_isinstance rfl T.n_int bt_int (se_v 0) bb_isinstance) (se_one (se_not (se_isi .bool rfl T.n_isinstance rfl T.n_bool bt_bool (se_v 0) bb_isinstance))))))
def su_is_within_0_0 : Ms := (sRet (vAnd (mCall den_is_integer (mCons (mVar 0) mNil)) (mChain leI leI (mVar 1) (mVar 0) (mVar 2))))
def den_is_within : Fn := fnD 3 3 su_is_within_0_0
theorem ok_is_within (T : Txt P w K mg base A) : FnOk P w K mg base (L2.CX P w) 2 A.f_is_within A.fd_is_within ["thing", "low", "high"] (spD K mg den_is_within) :=
  fn_D T.F_is_within sc_is_within fun cdv A0 outer s H E hr =>
  (sss_one (ss_ret (se_and (se_call (ok_is_integer T) (hr.mono (by decide)) rfl T.m_is_integer T.F_is_integer.kp T.b_is_integer (takes_of rfl rfl rfl rfl) (sa_cons (se_v 0) sa_nil)) (se_one (se_chain od_leI od_leI (se_v 1) (se_v 0) (se_v 2))))))
def su_is_tuple_0_0 : Ms := (sRet (vAnd (mIsI .tup (mVar 0)) (mChain leI leI (mVar 1) (mCB lenD (mCons (mVar 0) mNil)) (mVar 2))))
def den_is_tuple : Fn := fnD 3 3 su_is_tuple_0_0
theorem ok_is_tuple (T : Txt P w K mg base A) : FnOk P w K mg base (L2.CX P w) 1 A.f_is_tuple A.fd_is_tuple ["thing", "least", "most"] (spD K mg den_is_tuple) :=
  fn_D T.F_is_tuple sc_is_tuple fun cdv A0 outer s H E hr =>
  (sss_one (ss_ret (se_and (se_isi .tup rfl T.n_isinstance rfl T.n_tuple bt_tuple (se_v 0) bb_isinstance) (se_one (se_chain od_leI od_leI (se_v 1) (se_callB cd_len rfl T.n_len bb_len (sa_cons (se_v 0) sa_nil)) (se_v 2))))))
def lc_is_word_0 : Mm SV := mLc [1] ((mVar 0).bind mSrc) (gSet 1) mYes (bin inD (mVar 1) (Mm.ret (.v c_LETTERS)))
def su_is_word_0_0 : Ms := (sRet (vAnd (mIsI .str (mVar 0)) (mCB allD (mCons lc_is_word_0 mNil))))
def den_is_word : Fn := fnD 1 2 su_is_word_0_0
theorem ok_is_word (T : Txt P w K mg base A) : FnOk P w K mg base (L2.CX P w) 1 A.f_is_word A.fd_is_word ["thing"] (spD K mg den_is_word) :=
  fn_D T.F_is_word sc_is_word fun cdv A0 outer s H E hr =>
  (sss_one (ss_ret (se_and (se_isi .str rfl T.n_isinstance rfl T.n_str bt_str (se_v 0) bb_isinstance) (se_one (se_callB (cd_all rfl) rfl T.n_all bb_all (sa_cons (se_lc (own := [("sign", 1)]) rfl sc_is_word.nd (si_any (se_v 0)) (blkOk_by (own := [("sign", 1)]) (N := N_is_word) (sc := defScope s_is_word) (by decide +kernel)) (fun _ _ _ _ _ => (sgw_name 1 (by decide) sc_is_word.nd rfl (by first | exact Or.inl rfl | exact Or.inr rfl))) (fun _ _ _ _ _ => sts_nil) (fun _ _ _ _ _ => (se_cmp od_in (se_v 1) (se_globD T.g_LETTERS)))) sa_nil))))))
def lc_is_triple_0 : Mm SV := mLc [1] ((mVar 0).bind mSrc) (gSet 1) mYes (mCall den_is_word (mCons (mVar 1) mNil))
def su_is_triple_0_0 : Ms := (sRet (vAnd (mCall den_is_tuple (mCons (mVar 0) (mCons (Mm.ret (.v (.int 3))) (mCons (Mm.ret (.v (.int 3))) mNil)))) (mCB allD (mCons lc_is_triple_0 mNil))))
def den_is_triple : Fn := fnD 1 2 su_is_triple_0_0
theorem ok_is_triple (T : Txt P w K mg base A) : FnOk P w K mg base (L2.CX P w) 2 A.f_is_triple A.fd_is_triple ["thing"] (spD K mg den_is_triple) :=
  fn_D T.F_is_triple sc_is_triple fun cdv A0 outer s H E hr =>
  (sss_one (ss_ret (se_and (se_call (ok_is_tuple T) (hr.mono (by decide)) rfl T.m_is_tuple T.F_is_tuple.kp T.b_is_tuple (takes_of rfl rfl rfl rfl) (sa_cons (se_v 0) (sa_cons se_int (sa_cons se_int sa_nil)))) (se_one (se_callB (cd_all rfl) rfl T.n_all bb_all (sa_cons (se_lc (own := [("word", 1)]) rfl sc_is_triple.nd (si_any (se_v 0)) (blkOk_by (own := [("word", 1)]) (N := N_is_triple) (sc := defScope s_is_triple) (by decide +kernel)) (fun _ _ _ _ _ => (sgw_name 1 (by decide) sc_is_triple.nd rfl (by first | exact Or.inl rfl | exact Or.inr rfl))) (fun _ _ _ _ _ => sts_nil) (fun _ _ _ _ _ => (se_call (ok_is_word T) (hr.mono (by decide)) rfl T.m_is_word T.F_is_word.kp T.b_is_word takes0 (sa_cons (se_v 1) sa_nil)))) sa_nil))))))
def su_check_triple_1_0 : Ms := (sRaise "NoTriple")
def su_check_triple_0_0 : Ms := (sIf (mNot ((mCall den_is_triple (mCons (mVar 0) mNil)).bind asT))
  su_check_triple_1_0
  sNext)
def den_check_triple : Fn := fnD 1 1 su_check_triple_0_0
theorem ok_check_triple (T : Txt P w K mg base A) : FnOk P w K mg base (L2.CX P w) 3 A.f_check_triple A.fd_check_triple ["triple"] (spD K mg den_check_triple) :=
  fn_D T.F_check_triple sc_check_triple fun cdv A0 outer s H E hr =>
  (sss_one (ss_if (st_not (st_truth (se_call (ok_is_triple T) (hr.mono (by decide)) rfl T.m_is_triple T.F_is_triple.kp T.b_is_triple (takes_of rfl rfl rfl rfl) (sa_cons (se_v 0) sa_nil))))
  (sss_one (ss_raise PySem.F.excBase_ValueError T.r_NoTriple.xP T.m_NoTriple T.r_NoTriple.kP (raises_own T.r_NoTriple.bP T.r_NoTriple.tP) rfl (takes_of rfl rfl rfl rfl) rfl))
  sss_nil))
def su_is_letter_0_0 : Ms := (sRet (vAnd (mIsI .str (mVar 0)) (vAnd (bin eqD (mCB lenD (mCons (mVar 0) mNil)) (Mm.ret (.v (.int 1)))) (bin inD (mVar 0) (Mm.ret (.v c_LETTERS))))))
def den_is_letter : Fn := fnD 1 1 su_is_letter_0_0
theorem ok_is_letter (T : Txt P w K mg base A) : FnOk P w K mg base (L2.CX P w) 1 A.f_is_letter A.fd_is_letter ["thing"] (spD K mg den_is_letter) :=
  fn_D T.F_is_letter sc_is_letter fun cdv A0 outer s H E hr =>
  (sss_one (ss_ret (se_and (se_isi .str rfl T.n_isinstance rfl T.n_str bt_str (se_v 0) bb_isinstance) (se_and (se_cmp (od_eq hr.units) (se_callB cd_len rfl T.n_len bb_len (sa_cons (se_v 0) sa_nil)) se_int) (se_one (se_cmp od_in (se_v 0) (se_globD T.g_LETTERS)))))))
def su_raw_is_edit_1_0 : Ms := (sRet (Mm.ret (.v (.bl false))))
def su_raw_is_edit_2_0 : Ms := (sRet (Mm.ret (.v (.bl false))))
def su_raw_is_edit_3_0 : Ms := (sRet (vAnd (bin eqD (mCB lenD (mCons (mVar 1) mNil)) (Mm.ret (.v (.int 3)))) (mCall den_is_within (mCons (bin atD (mVar 1) (Mm.ret (.v (.int 2)))) (mCons (Mm.ret (.v (.int 0))) (mCons (bin subI (mVar 2) (Mm.ret (.v (.int 1)))) mNil))))))
def su_raw_is_edit_4_0 : Ms := (sRet (Mm.ret (.v (.bl false))))
def su_raw_is_edit_0_5 : Ms := (sRet (mCall den_is_within (mCons (bin atD (mVar 1) (Mm.ret (.v (.int 2)))) (mCons (Mm.ret (.v (.int 0))) (mCons (mIf ((bin eqD (bin atD (mVar 1) (Mm.ret (.v (.int 1)))) (Mm.ret (.v c_PUT))).bind asB) (mVar 2) (bin subI (mVar 2) (Mm.ret (.v (.int 1))))) mNil)))))
def su_raw_is_edit_0_4 : Ms := (sSeq (sIf (mOr ((bin niD (bin atD (mVar 1) (Mm.ret (.v (.int 1)))) (mTup (mCons (Mm.ret (.v c_PUT)) (mCons (Mm.ret (.v c_TURN)) mNil)))).bind asB) (mOr ((bin neD (mCB lenD (mCons (mVar 1) mNil)) (Mm.ret (.v (.int 4)))).bind asB) (mNot ((mCall den_is_letter (mCons (bin atD (mVar 1) (Mm.ret (.v (.int 3)))) mNil)).bind asT))))
  su_raw_is_edit_4_0
  sNext) su_raw_is_edit_0_5)
def su_raw_is_edit_0_3 : Ms := (sSeq (sIf ((bin eqD (bin atD (mVar 1) (Mm.ret (.v (.int 1)))) (Mm.ret (.v c_CUT))).bind asB)
  su_raw_is_edit_3_0
  sNext) su_raw_is_edit_0_4)
def su_raw_is_edit_0_2 : Ms := (sSeq (sIf (mNot ((mIsI .str (bin atD (mVar 1) (Mm.ret (.v (.int 1))))).bind asT))
  su_raw_is_edit_2_0
  sNext) su_raw_is_edit_0_3)
def su_raw_is_edit_0_1 : Ms := (sSeq (sAsg (mCB lenD (mCons (bin atD (mVar 0) (mMt .str indexD (Mm.ret (.v c_PLACES)) (mCons (bin atD (mVar 1) (Mm.ret (.v (.int 0)))) mNil))) mNil)) (gSet 2)) su_raw_is_edit_0_2)
def su_raw_is_edit_0_0 : Ms := (sSeq (sIf (mOr (mNot ((mCall den_is_tuple (mCons (mVar 1) (mCons (Mm.ret (.v (.int 3))) (mCons (Mm.ret (.v (.int 4))) mNil)))).bind asT)) (mOr (mNot ((mCall den_is_letter (mCons (bin atD (mVar 1) (Mm.ret (.v (.int 0)))) mNil)).bind asT)) ((bin niD (bin atD (mVar 1) (Mm.ret (.v (.int 0)))) (Mm.ret (.v c_PLACES))).bind asB)))
  su_raw_is_edit_1_0
  sNext) su_raw_is_edit_0_1)
def den_raw_is_edit : Fn := fnD 2 3 su_raw_is_edit_0_0
theorem ok_raw_is_edit (T : Txt P w K mg base A) : FnOk P w K mg base (L2.CX P w) 3 A.f_raw_is_edit A.fd_raw_is_edit ["triple", "thing"] (spD K mg den_raw_is_edit) :=
  fn_D T.F_raw_is_edit sc_raw_is_edit fun cdv A0 outer s H E hr =>
  (sss_cons (ss_if (st_w (sw_or (st_not (st_truth (se_call (ok_is_tuple T) (hr.mono (by decide)) rfl T.m_is_tuple T.F_is_tuple.kp T.b_is_tuple (takes_of rfl rfl rfl rfl) (sa_cons (se_v 1) (sa_cons se_int (sa_cons se_int sa_nil)))))) (sw_or (st_not (st_truth (se_call (ok_is_letter T) (hr.mono (by decide)) rfl T.m_is_letter T.F_is_letter.kp T.b_is_letter (takes_of rfl rfl rfl rfl) (sa_cons (se_ix ixd_seq (se_v 1) se_int) sa_nil)))) (sw_or1 (st_cmp od_ni (se_ix ixd_seq (se_v 1) se_int) (se_globD T.g_PLACES))))))
  (sss_one (ss_ret se_bl))
  sss_nil)
  (sss_cons (ss_set 2 sc_raw_is_edit.nd rfl (by first | exact Or.inl rfl | exact Or.inr rfl) (se_callB cd_len rfl T.n_len bb_len (sa_cons (se_ix ixd_seq (se_v 0) (se_mt .str PySem.F.plainAttrs_str PySem.F.slot_str_index PySem.F.type_str_index md_index (se_globD T.g_PLACES) (sa_cons (se_ix ixd_seq (se_v 1) se_int) sa_nil))) sa_nil)))
  (sss_cons (ss_if (st_not (st_truth (se_isi .str rfl T.n_isinstance rfl T.n_str bt_str (se_ix ixd_seq (se_v 1) se_int) bb_isinstance)))
  (sss_one (ss_ret se_bl))
  sss_nil)
  (sss_cons (ss_if (st_cmp (od_eq hr.units) (se_ix ixd_seq (se_v 1) se_int) (se_globD T.g_CUT))
  (sss_one (ss_ret (se_and (se_cmp (od_eq hr.units) (se_callB cd_len rfl T.n_len bb_len (sa_cons (se_v 1) sa_nil)) se_int) (se_one (se_call (ok_is_within T) (hr.mono (by decide)) rfl T.m_is_within T.F_is_within.kp T.b_is_within (takes_of rfl rfl rfl rfl) (sa_cons (se_ix ixd_seq (se_v 1) se_int) (sa_cons se_int (sa_cons (se_bin od_subI (se_v 2) se_int) sa_nil))))))))
  sss_nil)
  (sss_cons (ss_if (st_w (sw_or (st_cmp od_ni (se_ix ixd_seq (se_v 1) se_int) (se_tup (sa_cons (se_globD T.g_PUT) (sa_cons (se_globD T.g_TURN) sa_nil)))) (sw_or (st_cmp (od_ne hr.units) (se_callB cd_len rfl T.n_len bb_len (sa_cons (se_v 1) sa_nil)) se_int) (sw_or1 (st_not (st_truth (se_call (ok_is_letter T) (hr.mono (by decide)) rfl T.m_is_letter T.F_is_letter.kp T.b_is_letter (takes_of rfl rfl rfl rfl) (sa_cons (se_ix ixd_seq (se_v 1) se_int) sa_nil))))))))
  (sss_one (ss_ret se_bl))
  sss_nil)
  (sss_one (ss_ret (se_call (ok_is_within T) (hr.mono (by decide)) rfl T.m_is_within T.F_is_within.kp T.b_is_within (takes_of rfl rfl rfl rfl) (sa_cons (se_ix ixd_seq (se_v 1) se_int) (sa_cons se_int (sa_cons (se_ifExp (st_cmp (od_eq hr.units) (se_ix ixd_seq (se_v 1) se_int) (se_globD T.g_PUT)) (se_v 2) (se_bin od_subI (se_v 2) se_int)) sa_nil)))))))))))
def su_is_edit_0_1 : Ms := (sRet (mCall den_raw_is_edit (mCons (mVar 0) (mCons (mVar 1) mNil))))
def su_is_edit_0_0 : Ms := (sSeq (sDrop (mCall den_check_triple (mCons (mVar 0) mNil))) su_is_edit_0_1)
def den_is_edit : Fn := fnD 2 2 su_is_edit_0_0
theorem ok_is_edit (T : Txt P w K mg base A) : FnOk P w K mg base (L2.CX P w) 4 A.f_is_edit A.fd_is_edit ["triple", "thing"] (spD K mg den_is_edit) :=
  fn_D T.F_is_edit sc_is_edit fun cdv A0 outer s H E hr =>
  (sss_cons (ss_expr (se_call (ok_check_triple T) (hr.mono (by decide)) rfl T.m_check_triple T.F_check_triple.kp T.b_check_triple (takes_of rfl rfl rfl rfl) (sa_cons (se_v 0) sa_nil)))
  (sss_one (ss_ret (se_call (ok_raw_is_edit T) (hr.mono (by decide)) rfl T.m_raw_is_edit T.F_raw_is_edit.kp T.b_raw_is_edit (takes_of rfl rfl rfl rfl) (sa_cons (se_v 0) (sa_cons (se_v 1) sa_nil))))))
def su_raw_edited_1_0 : Ms := (sAsg (bin addD (bin addD (mSl (mVar 4) mNoPart ((mVar 3).bind asI)) (bin atD (mVar 1) (Mm.ret (.v (.int 3))))) (mSl (mVar 4) ((mVar 3).bind asI) mNoPart)) (gSet 4))
def su_raw_edited_2_0 : Ms := (sAsg (bin addD (bin addD (mSl (mVar 4) mNoPart ((mVar 3).bind asI)) (mIf ((bin eqD (bin atD (mVar 1) (Mm.ret (.v (.int 1)))) (Mm.ret (.v c_TURN))).bind asB) (bin atD (mVar 1) (Mm.ret (.v (.int 3)))) (Mm.ret (.v (.str []))))) (mSl (mVar 4) ((bin addD (mVar 3) (Mm.ret (.v (.int 1)))).bind asI) mNoPart)) (gSet 4))
def su_raw_edited_0_3 : Ms := (sRet (bin addD (bin addD (mSl (mVar 0) mNoPart ((mVar 2).bind asI)) (mTup (mCons (mVar 4) mNil))) (mSl (mVar 0) ((bin addD (mVar 2) (Mm.ret (.v (.int 1)))).bind asI) mNoPart)))
def su_raw_edited_0_2 : Ms := (sSeq (sIf ((bin eqD (bin atD (mVar 1) (Mm.ret (.v (.int 1)))) (Mm.ret (.v c_PUT))).bind asB)
  su_raw_edited_1_0
  su_raw_edited_2_0) su_raw_edited_0_3)
def su_raw_edited_0_1 : Ms := (sSeq (sAsg (bin atD (mVar 0) (mVar 2)) (gSet 4)) su_raw_edited_0_2)
def su_raw_edited_0_0 : Ms := (sSeq (sPar 2 3 (mCons (mMt .str indexD (Mm.ret (.v c_PLACES)) (mCons (bin atD (mVar 1) (Mm.ret (.v (.int 0)))) mNil)) (mCons (bin atD (mVar 1) (Mm.ret (.v (.int 2)))) mNil))) su_raw_edited_0_1)
def den_raw_edited : Fn := fnD 2 5 su_raw_edited_0_0
theorem ok_raw_edited (T : Txt P w K mg base A) : FnOk P w K mg base (L2.CX P w) 1 A.f_raw_edited A.fd_raw_edited ["triple", "edit"] (spD K mg den_raw_edited) :=
  fn_D T.F_raw_edited sc_raw_edited fun cdv A0 outer s H E hr =>
  (sss_cons (ss_par 2 3 rfl sc_raw_edited.nd rfl rfl (by decide) rfl rfl (sa_cons (se_mt .str PySem.F.plainAttrs_str PySem.F.slot_str_index PySem.F.type_str_index md_index (se_globD T.g_PLACES) (sa_cons (se_ix ixd_seq (se_v 1) se_int) sa_nil)) (sa_cons (se_ix ixd_seq (se_v 1) se_int) sa_nil)) rfl)
  (sss_cons (ss_set 4 sc_raw_edited.nd rfl (by first | exact Or.inl rfl | exact Or.inr rfl) (se_ix ixd_seq (se_v 0) (se_v 2)))
  (sss_cons (ss_if (st_cmp (od_eq hr.units) (se_ix ixd_seq (se_v 1) se_int) (se_globD T.g_PUT))
  (sss_one (ss_set 4 sc_raw_edited.nd rfl (by first | exact Or.inl rfl | exact Or.inr rfl) (se_bin od_add (se_bin od_add (se_slice (se_v 4) so_none (so_some (se_v 3))) (se_ix ixd_seq (se_v 1) se_int)) (se_slice (se_v 4) (so_some (se_v 3)) so_none))))
  (sss_one (ss_set 4 sc_raw_edited.nd rfl (by first | exact Or.inl rfl | exact Or.inr rfl) (se_bin od_add (se_bin od_add (se_slice (se_v 4) so_none (so_some (se_v 3))) (se_ifExp (st_cmp (od_eq hr.units) (se_ix ixd_seq (se_v 1) se_int) (se_globD T.g_TURN)) (se_ix ixd_seq (se_v 1) se_int) (se_strL []))) (se_slice (se_v 4) (so_some (se_bin od_add (se_v 3) se_int)) so_none)))))
  (sss_one (ss_ret (se_bin od_add (se_bin od_add (se_slice (se_v 0) so_none (so_some (se_v 2))) (se_tup (sa_cons (se_v 4) sa_nil))) (se_slice (se_v 0) (so_some (se_bin od_add (se_v 2) se_int)) so_none)))))))
def su_check_edit_1_0 : Ms := (sRaise "NoEdit")
def su_check_edit_0_0 : Ms := (sIf (mNot ((mCall den_raw_is_edit (mCons (mVar 0) (mCons (mVar 1) mNil))).bind asT))
  su_check_edit_1_0
  sNext)
def den_check_edit : Fn := fnD 2 2 su_check_edit_0_0
theorem ok_check_edit (T : Txt P w K mg base A) : FnOk P w K mg base (L2.CX P w) 4 A.f_check_edit A.fd_check_edit ["triple", "edit"] (spD K mg den_check_edit) :=
  fn_D T.F_check_edit sc_check_edit fun cdv A0 outer s H E hr =>
  (sss_one (ss_if (st_not (st_truth (se_call (ok_raw_is_edit T) (hr.mono (by decide)) rfl T.m_raw_is_edit T.F_raw_is_edit.kp T.b_raw_is_edit (takes_of rfl rfl rfl rfl) (sa_cons (se_v 0) (sa_cons (se_v 1) sa_nil)))))
  (sss_one (ss_raise PySem.F.excBase_ValueError T.r_NoEdit.xP T.m_NoEdit T.r_NoEdit.kP (raises_own T.r_NoEdit.bP T.r_NoEdit.tP) rfl (takes_of rfl rfl rfl rfl) rfl))
  sss_nil))
def su_edited_0_2 : Ms := (sRet (mCall den_raw_edited (mCons (mVar 0) (mCons (mVar 1) mNil))))
def su_edited_0_1 : Ms := (sSeq (sDrop (mCall den_check_edit (mCons (mVar 0) (mCons (mVar 1) mNil)))) su_edited_0_2)
def su_edited_0_0 : Ms := (sSeq (sDrop (mCall den_check_triple (mCons (mVar 0) mNil))) su_edited_0_1)
def den_edited : Fn := fnD 2 2 su_edited_0_0
theorem ok_edited (T : Txt P w K mg base A) : FnOk P w K mg base (L2.CX P w) 5 A.f_edited A.fd_edited ["triple", "edit"] (spD K mg den_edited) :=
  fn_D T.F_edited sc_edited fun cdv A0 outer s H E hr =>
  (sss_cons (ss_expr (se_call (ok_check_triple T) (hr.mono (by decide)) rfl T.m_check_triple T.F_check_triple.kp T.b_check_triple (takes_of rfl rfl rfl rfl) (sa_cons (se_v 0) sa_nil)))
  (sss_cons (ss_expr (se_call (ok_check_edit T) (hr.mono (by decide)) rfl T.m_check_edit T.F_check_edit.kp T.b_check_edit (takes_of rfl rfl rfl rfl) (sa_cons (se_v 0) (sa_cons (se_v 1) sa_nil))))
  (sss_one (ss_ret (se_call (ok_raw_edited T) (hr.mono (by decide)) rfl T.m_raw_edited T.F_raw_edited.kp T.b_raw_edited (takes_of rfl rfl rfl rfl) (sa_cons (se_v 0) (sa_cons (se_v 1) sa_nil)))))))
def su__law_numbers_1_0 : Ms := (sAsg (mCB intD (mCons (bin atD (mVar 0) (bin modI (mVar 1) (mCB lenD (mCons (mVar 0) mNil)))) mNil)) (gSet 2))
def su__law_numbers_2_0 : Ms := (sAsg (mVar 2) (gSet 3))
def su__law_numbers_4_1 : Ms := (sAsg (bin divI (mVar 3) (Mm.ret (.v (.int 1000000007)))) (gSet 3))
def su__law_numbers_4_0 : Ms := (sSeq (sAsg (bin modI (mVar 3) (Mm.ret (.v (.int 1000000007)))) (gSet 6)) su__law_numbers_4_1)
def su__law_numbers_3_4 : Ms := (sDrop (mApp (mVar 4) (mVar 6)))
def su__law_numbers_3_3 : Ms := (sSeq (sIf ((bin gtI (mVar 3) (Mm.ret (.v (.int 0)))).bind asB)
  su__law_numbers_4_0
  sNext) su__law_numbers_3_4)
def su__law_numbers_3_2 : Ms := (sSeq (sAsg (bin modI (bin mulD (mVar 6) (bin addD (bin divI (mVar 6) (Mm.ret (.v (.int 2003)))) (Mm.ret (.v (.int 40692))))) (Mm.ret (.v (.int 2147483399)))) (gSet 6)) su__law_numbers_3_3)
def su__law_numbers_3_1 : Ms := (sSeq (sAsg (bin modI (bin mulD (mVar 6) (bin addD (bin divI (mVar 6) (Mm.ret (.v (.int 1009)))) (Mm.ret (.v (.int 69621))))) (Mm.ret (.v (.int 2147483647)))) (gSet 6)) su__law_numbers_3_2)
def su__law_numbers_3_0 : Ms := (sSeq (sAsg (bin modI (bin mulD (bin addD (bin addD (bin addD (bin modI (mVar 2) (Mm.ret (.v (.int 2147483629)))) (bin mulD (Mm.ret (.v (.int 7919))) (mVar 5))) (bin mulD (Mm.ret (.v (.int 611953))) (mVar 1))) (Mm.ret (.v (.int 1)))) (Mm.ret (.v (.int 48271)))) (Mm.ret (.v (.int 2147483647)))) (gSet 6)) su__law_numbers_3_1)
def su__law_numbers_0_6 : Ms := (sRet (mVar 4))
def su__law_numbers_0_5 : Ms := (sSeq (sFor ((mCons (Mm.ret (.v (.int 40))) mNil).bind rng1) (gSet 5)
  su__law_numbers_3_0) su__law_numbers_0_6)
def su__law_numbers_0_4 : Ms := (sSeq (sAsg (mOwn mNil) (gSet 4)) su__law_numbers_0_5)
def su__law_numbers_0_3 : Ms := (sSeq (sIf (mAnd ((bin ltI (mVar 1) (mCB lenD (mCons (mVar 0) mNil))).bind asB) ((bin geI (mVar 2) (bin powI (Mm.ret (.v (.int 10))) (Mm.ret (.v (.int 18))))).bind asB))
  su__law_numbers_2_0
  sNext) su__law_numbers_0_4)
def su__law_numbers_0_2 : Ms := (sSeq (sAsg (Mm.ret (.v (.int 0))) (gSet 3)) su__law_numbers_0_3)
def su__law_numbers_0_1 : Ms := (sSeq (sIf ((bin gtI (mCB lenD (mCons (mVar 0) mNil)) (Mm.ret (.v (.int 0)))).bind asB)
  su__law_numbers_1_0
  sNext) su__law_numbers_0_2)
def su__law_numbers_0_0 : Ms := (sSeq (sAsg (Mm.ret (.v (.int 0))) (gSet 2)) su__law_numbers_0_1)
def den__law_numbers : Fn := fnD 2 7 su__law_numbers_0_0
theorem ok__law_numbers (T : Txt P w K mg base A) : FnOk P w K mg base (L2.CX P w) 1 A.f__law_numbers A.fd__law_numbers ["script", "thing"] (spD K mg den__law_numbers) :=
  fn_D T.F__law_numbers sc__law_numbers fun cdv A0 outer s H E hr =>
  (sss_cons (ss_set 2 sc__law_numbers.nd rfl (by first | exact Or.inl rfl | exact Or.inr rfl) se_int)
  (sss_cons (ss_if (st_cmp od_gtI (se_callB cd_len rfl T.n_len bb_len (sa_cons (se_v 0) sa_nil)) se_int)
  (sss_one (ss_set 2 sc__law_numbers.nd rfl (by first | exact Or.inl rfl | exact Or.inr rfl) (se_callTy cd_int rfl T.n_int bt_int (sa_cons (se_ix ixd_seq (se_v 0) (se_bin od_modI (se_v 1) (se_callB cd_len rfl T.n_len bb_len (sa_cons (se_v 0) sa_nil)))) sa_nil))))
  sss_nil)
  (sss_cons (ss_set 3 sc__law_numbers.nd rfl (by first | exact Or.inl rfl | exact Or.inr rfl) se_int)
  (sss_cons (ss_if (st_w (sw_and (st_cmp od_ltI (se_v 1) (se_callB cd_len rfl T.n_len bb_len (sa_cons (se_v 0) sa_nil))) (sw_and1 (st_cmp od_geI (se_v 2) (se_bin od_powI se_int se_int)))))
  (sss_one (ss_set 3 sc__law_numbers.nd rfl (by first | exact Or.inl rfl | exact Or.inr rfl) (se_v 2)))
  sss_nil)
  (sss_cons (ss_set 4 sc__law_numbers.nd rfl (by first | exact Or.inl rfl | exact Or.inr rfl) (se_own sa_nil))
  (sss_cons (ss_for (passes_of rfl) rfl (si_range1 rfl T.n_range (sa_cons se_int sa_nil)) (sg_name 5 sc__law_numbers.nd rfl (by first | exact Or.inl rfl | exact Or.inr rfl))
  (sss_cons (ss_set 6 sc__law_numbers.nd rfl (by first | exact Or.inl rfl | exact Or.inr rfl) (se_bin od_modI (se_bin od_mul (se_bin od_add (se_bin od_add (se_bin od_add (se_bin od_modI (se_v 2) se_int) (se_bin od_mul se_int (se_v 5))) (se_bin od_mul se_int (se_v 1))) se_int) se_int) se_int))
  (sss_cons (ss_set 6 sc__law_numbers.nd rfl (by first | exact Or.inl rfl | exact Or.inr rfl) (se_bin od_modI (se_bin od_mul (se_v 6) (se_bin od_add (se_bin od_divI (se_v 6) se_int) se_int)) se_int))
  (sss_cons (ss_set 6 sc__law_numbers.nd rfl (by first | exact Or.inl rfl | exact Or.inr rfl) (se_bin od_modI (se_bin od_mul (se_v 6) (se_bin od_add (se_bin od_divI (se_v 6) se_int) se_int)) se_int))
  (sss_cons (ss_if (st_cmp od_gtI (se_v 3) se_int)
  (sss_cons (ss_set 6 sc__law_numbers.nd rfl (by first | exact Or.inl rfl | exact Or.inr rfl) (se_bin od_modI (se_v 3) se_int))
  (sss_one (ss_set 3 sc__law_numbers.nd rfl (by first | exact Or.inl rfl | exact Or.inr rfl) (se_bin od_divI (se_v 3) se_int))))
  sss_nil)
  (sss_one (ss_expr (se_append (se_v 4) (se_v 6)))))))))
  (sss_one (ss_ret (se_v 4)))))))))
def lc__law_letters_0 : Mm SV := mLc [5] ((Mm.ret (.v (.str [97, 98, 99, 100, 101, 102, 103, 104, 105, 106, 107, 108, 109, 110, 111, 112, 113, 114, 115, 116, 117, 118, 119, 120, 121, 122]))).bind mSrc) (gSet 5) ((bin niD (mVar 5) (mVar 1)).bind asB) (mVar 5)
def su__law_letters_1_2 : Ms := (sAsg (bin divI (mVar 2) (Mm.ret (.v (.int 26)))) (gSet 2))
def su__law_letters_1_1 : Ms := (sSeq (sAsg (bin addD (mVar 1) (bin atD (mVar 4) (bin modI (mVar 2) (mCB lenD (mCons (mVar 4) mNil))))) (gSet 1)) su__law_letters_1_2)
def su__law_letters_1_0 : Ms := (sSeq (sAsg lc__law_letters_0 (gSet 4)) su__law_letters_1_1)
def su__law_letters_0_3 : Ms := (sRet (mVar 1))
def su__law_letters_0_2 : Ms := (sSeq (sFor ((mCons (bin addD (Mm.ret (.v (.int 2))) (bin modI (mVar 0) (Mm.ret (.v (.int 2))))) mNil).bind rng1) (gSet 3)
  su__law_letters_1_0) su__law_letters_0_3)
def su__law_letters_0_1 : Ms := (sSeq (sAsg (bin divI (mVar 0) (Mm.ret (.v (.int 3)))) (gSet 2)) su__law_letters_0_2)
def su__law_letters_0_0 : Ms := (sSeq (sAsg (Mm.ret (.v (.str []))) (gSet 1)) su__law_letters_0_1)
def den__law_letters : Fn := fnD 1 6 su__law_letters_0_0
theorem ok__law_letters (T : Txt P w K mg base A) : FnOk P w K mg base (L2.CX P w) 1 A.f__law_letters A.fd__law_letters ["number"] (spD K mg den__law_letters) :=
  fn_D T.F__law_letters sc__law_letters fun cdv A0 outer s H E hr =>
  (sss_cons (ss_set 1 sc__law_letters.nd rfl (by first | exact Or.inl rfl | exact Or.inr rfl) (se_strL []))
  (sss_cons (ss_set 2 sc__law_letters.nd rfl (by first | exact Or.inl rfl | exact Or.inr rfl) (se_bin od_divI (se_v 0) se_int))
  (sss_cons (ss_for (passes_of rfl) rfl (si_range1 rfl T.n_range (sa_cons (se_bin od_add se_int (se_bin od_modI (se_v 0) se_int)) sa_nil)) (sg_name 3 sc__law_letters.nd rfl (by first | exact Or.inl rfl | exact Or.inr rfl))
  (sss_cons (ss_setLc 4 (own := [("letter", 5)]) rfl sc__law_letters.nd rfl rfl (sw_true rfl rfl rfl (by decide +kernel)) (si_any (se_strL [97, 98, 99, 100, 101, 102, 103, 104, 105, 106, 107, 108, 109, 110, 111, 112, 113, 114, 115, 116, 117, 118, 119, 120, 121, 122])) (blkOk_by (own := [("letter", 5)]) (N := N__law_letters) (sc := defScope s__law_letters) (by decide +kernel)) (fun _ _ _ _ _ => (sgw_name 5 (by decide) sc__law_letters.nd rfl (by first | exact Or.inl rfl | exact Or.inr rfl))) (fun _ _ _ _ _ => (sts_one (st_cmp od_ni (se_v 5) (se_v 1)))) (fun _ _ _ _ _ => (se_v 5)))
  (sss_cons (ss_set 1 sc__law_letters.nd rfl (by first | exact Or.inl rfl | exact Or.inr rfl) (se_bin od_add (se_v 1) (se_ix ixd_seq (se_v 4) (se_bin od_modI (se_v 2) (se_callB cd_len rfl T.n_len bb_len (sa_cons (se_v 4) sa_nil))))))
  (sss_one (ss_set 2 sc__law_letters.nd rfl (by first | exact Or.inl rfl | exact Or.inr rfl) (se_bin od_divI (se_v 2) se_int))))))
  (sss_one (ss_ret (se_v 1))))))
def su__law_woven_1_5 : Ms := (sDrop (mApp (mVar 4) (bin atD (mLst (mCons (Mm.ret (.v (.str [120, 121]))) (mCons (Mm.ret (.v (.str [120, 122]))) (mCons (Mm.ret (.v (.str [116, 121]))) (mCons (Mm.ret (.v (.str [116, 122]))) mNil))))) (bin modI (mVar 6) (Mm.ret (.v (.int 4)))))))
def su__law_woven_1_4 : Ms := (sSeq (sAsg (bin addD (bin atD (mVar 3) (mVar 8)) (mVar 9)) (gItm (mVar 3) (mVar 8))) su__law_woven_1_5)
def su__law_woven_1_3 : Ms := (sSeq (sAsg (bin addD (bin atD (mVar 3) (mVar 7)) (mVar 9)) (gItm (mVar 3) (mVar 7))) su__law_woven_1_4)
def su__law_woven_1_2 : Ms := (sSeq (sAsg (bin atD (mVar 2) (bin modI (bin divI (mVar 6) (Mm.ret (.v (.int 4)))) (mCB lenD (mCons (mVar 2) mNil)))) (gSet 9)) su__law_woven_1_3)
def su__law_woven_1_1 : Ms := (sSeq (sAsg (bin atD (mLst (mCons (mTup (mCons (Mm.ret (.v (.int 0))) (mCons (Mm.ret (.v (.int 1))) mNil))) (mCons (mTup (mCons (Mm.ret (.v (.int 0))) (mCons (Mm.ret (.v (.int 2))) mNil))) (mCons (mTup (mCons (Mm.ret (.v (.int 3))) (mCons (Mm.ret (.v (.int 1))) mNil))) (mCons (mTup (mCons (Mm.ret (.v (.int 3))) (mCons (Mm.ret (.v (.int 2))) mNil))) mNil))))) (bin modI (mVar 6) (Mm.ret (.v (.int 4))))) (gTupD (gsCons (gSet 7) (gsCons (gSet 8) gsNil)))) su__law_woven_1_2)
def su__law_woven_1_0 : Ms := (sSeq (sAsg (bin divI (bin atD (mVar 0) (bin modI (mVar 5) (Mm.ret (.v (.int 40))))) (bin atD (mLst (mCons (Mm.ret (.v (.int 1))) (mCons (Mm.ret (.v (.int 101))) (mCons (Mm.ret (.v (.int 10007))) mNil)))) (bin modI (bin divI (mVar 5) (Mm.ret (.v (.int 40)))) (Mm.ret (.v (.int 3)))))) (gSet 6)) su__law_woven_1_1)
def su__law_woven_0_3 : Ms := (sRet (mTupZ (mCons (mVar 3) (mCons (mVar 4) mNil))))
def su__law_woven_0_2 : Ms := (sSeq (sFor ((mCons (mVar 1) mNil).bind rng1) (gSet 5)
  su__law_woven_1_0) su__law_woven_0_3)
def su__law_woven_0_1 : Ms := (sSeq (sAsg (mOwn mNil) (gSet 4)) su__law_woven_0_2)
def su__law_woven_0_0 : Ms := (sSeq (sAsg (mOwn (mCons (Mm.ret (.v (.str []))) (mCons (Mm.ret (.v (.str []))) (mCons (Mm.ret (.v (.str []))) (mCons (Mm.ret (.v (.str []))) mNil))))) (gSet 3)) su__law_woven_0_1)
def den__law_woven : Fn := fnD 3 10 su__law_woven_0_0
theorem ok__law_woven (T : Txt P w K mg base A) : FnOk P w K mg base (L2.CX P w) 1 A.f__law_woven A.fd__law_woven ["xs", "many", "letters"] (spD K mg den__law_woven) :=
  fn_D T.F__law_woven sc__law_woven fun cdv A0 outer s H E hr =>
  (sss_cons (ss_set 3 sc__law_woven.nd rfl (by first | exact Or.inl rfl | exact Or.inr rfl) (se_own (sa_cons (se_strL []) (sa_cons (se_strL []) (sa_cons (se_strL []) (sa_cons (se_strL []) sa_nil))))))
  (sss_cons (ss_set 4 sc__law_woven.nd rfl (by first | exact Or.inl rfl | exact Or.inr rfl) (se_own sa_nil))
  (sss_cons (ss_for (passes_of rfl) rfl (si_range1 rfl T.n_range (sa_cons (se_v 1) sa_nil)) (sg_name 5 sc__law_woven.nd rfl (by first | exact Or.inl rfl | exact Or.inr rfl))
  (sss_cons (ss_set 6 sc__law_woven.nd rfl (by first | exact Or.inl rfl | exact Or.inr rfl) (se_bin od_divI (se_ix ixd_seq (se_v 0) (se_bin od_modI (se_v 5) se_int)) (se_ix ixd_seq (se_lst (sa_cons se_int (sa_cons se_int (sa_cons se_int sa_nil)))) (se_bin od_modI (se_bin od_divI (se_v 5) se_int) se_int))))
  (sss_cons (ss_asg (se_ix ixd_seq (se_lst (sa_cons (se_tup (sa_cons se_int (sa_cons se_int sa_nil))) (sa_cons (se_tup (sa_cons se_int (sa_cons se_int sa_nil))) (sa_cons (se_tup (sa_cons se_int (sa_cons se_int sa_nil))) (sa_cons (se_tup (sa_cons se_int (sa_cons se_int sa_nil))) sa_nil))))) (se_bin od_modI (se_v 6) se_int)) (sg_tup rfl (sgs_cons (sg_name 7 sc__law_woven.nd rfl (by first | exact Or.inl rfl | exact Or.inr rfl)) (sgs_cons (sg_name 8 sc__law_woven.nd rfl (by first | exact Or.inl rfl | exact Or.inr rfl)) sgs_nil))))
  (sss_cons (ss_set 9 sc__law_woven.nd rfl (by first | exact Or.inl rfl | exact Or.inr rfl) (se_ix ixd_seq (se_v 2) (se_bin od_modI (se_bin od_divI (se_v 6) se_int) (se_callB cd_len rfl T.n_len bb_len (sa_cons (se_v 2) sa_nil)))))
  (sss_cons (ss_asg (se_bin od_add (se_ix ixd_seq (se_v 3) (se_v 7)) (se_v 9)) (sg_item (se_v 3) (se_v 7)))
  (sss_cons (ss_asg (se_bin od_add (se_ix ixd_seq (se_v 3) (se_v 8)) (se_v 9)) (sg_item (se_v 3) (se_v 8)))
  (sss_one (ss_expr (se_append (se_v 4) (se_ix ixd_seq (se_lst (sa_cons (se_strL [120, 121]) (sa_cons (se_strL [120, 122]) (sa_cons (se_strL [116, 121]) (sa_cons (se_strL [116, 122]) sa_nil))))) (se_bin od_modI (se_v 6) se_int)))))))))))
  (sss_one (ss_ret (se_tupZ (sa_cons (se_v 3) (sa_cons (se_v 4) sa_nil))))))))
def su__law_triple_1_1 : Ms := (sAsg (bin addD (bin addD (mSl (mVar 7) mNoPart ((mVar 8).bind asI)) (bin atD (mVar 4) (bin modI (bin atD (mVar 3) (Mm.ret (.v (.int 4)))) (mCB lenD (mCons (mVar 4) mNil))))) (mSl (mVar 7) ((bin addD (mVar 8) (Mm.ret (.v (.int 1)))).bind asI) mNoPart)) (gSet 7))
def su__law_triple_1_0 : Ms := (sSeq (sAsg (bin modI (bin atD (mVar 3) (Mm.ret (.v (.int 3)))) (mCB lenD (mCons (mVar 7) mNil))) (gSet 8)) su__law_triple_1_1)
def su__law_triple_0_6 : Ms := (sRet (mTup (mCons (mVar 7) (mCons (bin atD (mVar 5) (Mm.ret (.v (.int 1)))) (mCons (bin atD (mVar 5) (Mm.ret (.v (.int 2)))) mNil)))))
def su__law_triple_0_5 : Ms := (sSeq (sIf (mAnd ((bin eqD (bin modI (bin atD (mVar 3) (Mm.ret (.v (.int 2)))) (Mm.ret (.v (.int 3)))) (Mm.ret (.v (.int 0)))).bind asB) ((bin neD (mVar 7) (Mm.ret (.v (.str [])))).bind asB))
  su__law_triple_1_0
  sNext) su__law_triple_0_6)
def su__law_triple_0_4 : Ms := (sSeq (sAsg (bin atD (mVar 5) (Mm.ret (.v (.int 0)))) (gSet 7)) su__law_triple_0_5)
def su__law_triple_0_3 : Ms := (sSeq (sAsg (mCall den__law_woven (mCons (mVar 2) (mCons (bin atD (mLst (mCons (Mm.ret (.v (.int 2))) (mCons (Mm.ret (.v (.int 4))) (mCons (Mm.ret (.v (.int 6))) (mCons (Mm.ret (.v (.int 9))) mNil))))) (bin modI (bin atD (mVar 3) (Mm.ret (.v (.int 1)))) (Mm.ret (.v (.int 4))))) (mCons (mVar 4) mNil)))) (gTupD (gsCons (gSet 5) (gsCons (gSet 6) gsNil)))) su__law_triple_0_4)
def su__law_triple_0_2 : Ms := (sSeq (sAsg (mCall den__law_letters (mCons (bin atD (mVar 3) (Mm.ret (.v (.int 0)))) mNil)) (gSet 4)) su__law_triple_0_3)
def su__law_triple_0_1 : Ms := (sSeq (sAsg (mCall den__law_numbers (mCons (mVar 0) (mCons (bin addD (mVar 1) (Mm.ret (.v (.int 1)))) mNil))) (gSet 3)) su__law_triple_0_2)
def su__law_triple_0_0 : Ms := (sSeq (sAsg (mCall den__law_numbers (mCons (mVar 0) (mCons (mVar 1) mNil))) (gSet 2)) su__law_triple_0_1)
def den__law_triple : Fn := fnD 2 9 su__law_triple_0_0
theorem ok__law_triple (T : Txt P w K mg base A) : FnOk P w K mg base (L2.CX P w) 2 A.f__law_triple A.fd__law_triple ["script", "base"] (spD K mg den__law_triple) :=
  fn_D T.F__law_triple sc__law_triple fun cdv A0 outer s H E hr =>
  (sss_cons (ss_set 2 sc__law_triple.nd rfl (by first | exact Or.inl rfl | exact Or.inr rfl) (se_call (ok__law_numbers T) (hr.mono (by decide)) rfl T.m__law_numbers T.F__law_numbers.kp T.b__law_numbers (takes_of rfl rfl rfl rfl) (sa_cons (se_v 0) (sa_cons (se_v 1) sa_nil))))
  (sss_cons (ss_set 3 sc__law_triple.nd rfl (by first | exact Or.inl rfl | exact Or.inr rfl) (se_call (ok__law_numbers T) (hr.mono (by decide)) rfl T.m__law_numbers T.F__law_numbers.kp T.b__law_numbers (takes_of rfl rfl rfl rfl) (sa_cons (se_v 0) (sa_cons (se_bin od_add (se_v 1) se_int) sa_nil))))
  (sss_cons (ss_set 4 sc__law_triple.nd rfl (by first | exact Or.inl rfl | exact Or.inr rfl) (se_call (ok__law_letters T) (hr.mono (by decide)) rfl T.m__law_letters T.F__law_letters.kp T.b__law_letters (takes_of rfl rfl rfl rfl) (sa_cons (se_ix ixd_seq (se_v 3) se_int) sa_nil)))
  (sss_cons (ss_asg (se_call (ok__law_woven T) (hr.mono (by decide)) rfl T.m__law_woven T.F__law_woven.kp T.b__law_woven (takes_of rfl rfl rfl rfl) (sa_cons (se_v 2) (sa_cons (se_ix ixd_seq (se_lst (sa_cons se_int (sa_cons se_int (sa_cons se_int (sa_cons se_int sa_nil))))) (se_bin od_modI (se_ix ixd_seq (se_v 3) se_int) se_int)) (sa_cons (se_v 4) sa_nil)))) (sg_tup rfl (sgs_cons (sg_name 5 sc__law_triple.nd rfl (by first | exact Or.inl rfl | exact Or.inr rfl)) (sgs_cons (sg_name 6 sc__law_triple.nd rfl (by first | exact Or.inl rfl | exact Or.inr rfl)) sgs_nil))))
  (sss_cons (ss_set 7 sc__law_triple.nd rfl (by first | exact Or.inl rfl | exact Or.inr rfl) (se_ix ixd_seq (se_v 5) se_int))
  (sss_cons (ss_if (st_w (sw_and (st_cmp (od_eq hr.units) (se_bin od_modI (se_ix ixd_seq (se_v 3) se_int) se_int) se_int) (sw_and1 (st_cmp (od_ne hr.units) (se_v 7) (se_strL [])))))
  (sss_cons (ss_set 8 sc__law_triple.nd rfl (by first | exact Or.inl rfl | exact Or.inr rfl) (se_bin od_modI (se_ix ixd_seq (se_v 3) se_int) (se_callB cd_len rfl T.n_len bb_len (sa_cons (se_v 7) sa_nil))))
  (sss_one (ss_set 7 sc__law_triple.nd rfl (by first | exact Or.inl rfl | exact Or.inr rfl) (se_bin od_add (se_bin od_add (se_slice (se_v 7) so_none (so_some (se_v 8))) (se_ix ixd_seq (se_v 4) (se_bin od_modI (se_ix ixd_seq (se_v 3) se_int) (se_callB cd_len rfl T.n_len bb_len (sa_cons (se_v 4) sa_nil))))) (se_slice (se_v 7) (so_some (se_bin od_add (se_v 8) se_int)) so_none)))))
  sss_nil)
  (sss_one (ss_ret (se_tup (sa_cons (se_v 7) (sa_cons (se_ix ixd_seq (se_v 5) se_int) (sa_cons (se_ix ixd_seq (se_v 5) se_int) sa_nil))))))))))))
def su__law_edit_1_0 : Ms := (sRet (mTup (mCons (mVar 4) (mCons (Mm.ret (.v (.str [99, 117, 116]))) (mCons (bin modI (mVar 7) (mCB lenD (mCons (mVar 5) mNil))) mNil)))))
def lc__law_edit_0 : Mm SV := mLc [10] ((bin addD (mVar 2) (Mm.ret (.v (.str [97, 98])))).bind mSrc) (gSet 10) ((bin neD (mVar 10) (bin atD (mVar 5) (mVar 7))).bind asB) (mVar 10)
def su__law_edit_2_2 : Ms := (sRet (mTup (mCons (mVar 4) (mCons (Mm.ret (.v (.str [116, 117, 114, 110]))) (mCons (mVar 7) (mCons (bin atD (mVar 9) (bin modI (bin divI (mVar 1) (Mm.ret (.v (.int 512)))) (mCB lenD (mCons (mVar 9) mNil)))) mNil))))))
def su__law_edit_2_1 : Ms := (sSeq (sAsg lc__law_edit_0 (gSet 9)) su__law_edit_2_2)
def su__law_edit_2_0 : Ms := (sSeq (sAsg (bin modI (mVar 7) (mCB lenD (mCons (mVar 5) mNil))) (gSet 7)) su__law_edit_2_1)
def su__law_edit_3_0 : Ms := (sRet (mTup (mCons (mVar 4) (mCons (Mm.ret (.v (.str [112, 117, 116]))) (mCons (mVar 7) (mCons (mVar 6) mNil))))))
def su__law_edit_0_9 : Ms := (sRet (mTup (mCons (mVar 4) (mCons (Mm.ret (.v (.str [99, 117, 116]))) (mCons (bin modI (mVar 7) (mCB lenD (mCons (mVar 5) mNil))) mNil)))))
def su__law_edit_0_8 : Ms := (sSeq (sIf ((bin ltI (mCB lenD (mCons (mVar 5) mNil)) (Mm.ret (.v (.int 8)))).bind asB)
  su__law_edit_3_0
  sNext) su__law_edit_0_9)
def su__law_edit_0_7 : Ms := (sSeq (sIf (mAnd ((bin eqD (mVar 8) (Mm.ret (.v (.int 1)))).bind asB) ((bin neD (mVar 5) (Mm.ret (.v (.str [])))).bind asB))
  su__law_edit_2_0
  sNext) su__law_edit_0_8)
def su__law_edit_0_6 : Ms := (sSeq (sIf (mAnd ((bin eqD (mVar 8) (Mm.ret (.v (.int 0)))).bind asB) ((bin neD (mVar 5) (Mm.ret (.v (.str [])))).bind asB))
  su__law_edit_1_0
  sNext) su__law_edit_0_7)
def su__law_edit_0_5 : Ms := (sSeq (sAsg (bin modI (bin divI (mVar 1) (Mm.ret (.v (.int 3)))) (Mm.ret (.v (.int 4)))) (gSet 8)) su__law_edit_0_6)
def su__law_edit_0_4 : Ms := (sSeq (sAsg (bin modI (bin divI (mVar 1) (Mm.ret (.v (.int 4096)))) (bin addD (mCB lenD (mCons (mVar 5) mNil)) (Mm.ret (.v (.int 1))))) (gSet 7)) su__law_edit_0_5)
def su__law_edit_0_3 : Ms := (sSeq (sAsg (bin atD (mVar 2) (bin modI (bin divI (mVar 1) (Mm.ret (.v (.int 512)))) (mCB lenD (mCons (mVar 2) mNil)))) (gSet 6)) su__law_edit_0_4)
def su__law_edit_0_2 : Ms := (sSeq (sAsg (bin atD (mVar 0) (mVar 3)) (gSet 5)) su__law_edit_0_3)
def su__law_edit_0_1 : Ms := (sSeq (sAsg (bin atD (Mm.ret (.v (.str [120, 121, 122]))) (mVar 3)) (gSet 4)) su__law_edit_0_2)
def su__law_edit_0_0 : Ms := (sSeq (sAsg (bin modI (mVar 1) (Mm.ret (.v (.int 3)))) (gSet 3)) su__law_edit_0_1)
def den__law_edit : Fn := fnD 3 11 su__law_edit_0_0
theorem ok__law_edit (T : Txt P w K mg base A) : FnOk P w K mg base (L2.CX P w) 1 A.f__law_edit A.fd__law_edit ["triple", "number", "letters"] (spD K mg den__law_edit) :=
  fn_D T.F__law_edit sc__law_edit fun cdv A0 outer s H E hr =>
  (sss_cons (ss_set 3 sc__law_edit.nd rfl (by first | exact Or.inl rfl | exact Or.inr rfl) (se_bin od_modI (se_v 1) se_int))
  (sss_cons (ss_set 4 sc__law_edit.nd rfl (by first | exact Or.inl rfl | exact Or.inr rfl) (se_ix ixd_seq (se_strL [120, 121, 122]) (se_v 3)))
  (sss_cons (ss_set 5 sc__law_edit.nd rfl (by first | exact Or.inl rfl | exact Or.inr rfl) (se_ix ixd_seq (se_v 0) (se_v 3)))
  (sss_cons (ss_set 6 sc__law_edit.nd rfl (by first | exact Or.inl rfl | exact Or.inr rfl) (se_ix ixd_seq (se_v 2) (se_bin od_modI (se_bin od_divI (se_v 1) se_int) (se_callB cd_len rfl T.n_len bb_len (sa_cons (se_v 2) sa_nil)))))
  (sss_cons (ss_set 7 sc__law_edit.nd rfl (by first | exact Or.inl rfl | exact Or.inr rfl) (se_bin od_modI (se_bin od_divI (se_v 1) se_int) (se_bin od_add (se_callB cd_len rfl T.n_len bb_len (sa_cons (se_v 5) sa_nil)) se_int)))
  (sss_cons (ss_set 8 sc__law_edit.nd rfl (by first | exact Or.inl rfl | exact Or.inr rfl) (se_bin od_modI (se_bin od_divI (se_v 1) se_int) se_int))
  (sss_cons (ss_if (st_w (sw_and (st_cmp (od_eq hr.units) (se_v 8) se_int) (sw_and1 (st_cmp (od_ne hr.units) (se_v 5) (se_strL [])))))
  (sss_one (ss_ret (se_tup (sa_cons (se_v 4) (sa_cons (se_strL [99, 117, 116]) (sa_cons (se_bin od_modI (se_v 7) (se_callB cd_len rfl T.n_len bb_len (sa_cons (se_v 5) sa_nil))) sa_nil))))))
  sss_nil)
  (sss_cons (ss_if (st_w (sw_and (st_cmp (od_eq hr.units) (se_v 8) se_int) (sw_and1 (st_cmp (od_ne hr.units) (se_v 5) (se_strL [])))))
  (sss_cons (ss_set 7 sc__law_edit.nd rfl (by first | exact Or.inl rfl | exact Or.inr rfl) (se_bin od_modI (se_v 7) (se_callB cd_len rfl T.n_len bb_len (sa_cons (se_v 5) sa_nil))))
  (sss_cons (ss_setLc 9 (own := [("one", 10)]) rfl sc__law_edit.nd rfl rfl (sw_true rfl rfl rfl (by decide +kernel)) (si_any (se_bin od_add (se_v 2) (se_strL [97, 98]))) (blkOk_by (own := [("one", 10)]) (N := N__law_edit) (sc := defScope s__law_edit) (by decide +kernel)) (fun _ _ _ _ _ => (sgw_name 10 (by decide) sc__law_edit.nd rfl (by first | exact Or.inl rfl | exact Or.inr rfl))) (fun _ _ _ _ _ => (sts_one (st_cmp (od_ne hr.units) (se_v 10) (se_ix ixd_seq (se_v 5) (se_v 7))))) (fun _ _ _ _ _ => (se_v 10)))
  (sss_one (ss_ret (se_tup (sa_cons (se_v 4) (sa_cons (se_strL [116, 117, 114, 110]) (sa_cons (se_v 7) (sa_cons (se_ix ixd_seq (se_v 9) (se_bin od_modI (se_bin od_divI (se_v 1) se_int) (se_callB cd_len rfl T.n_len bb_len (sa_cons (se_v 9) sa_nil)))) sa_nil)))))))))
  sss_nil)
  (sss_cons (ss_if (st_cmp od_ltI (se_callB cd_len rfl T.n_len bb_len (sa_cons (se_v 5) sa_nil)) se_int)
  (sss_one (ss_ret (se_tup (sa_cons (se_v 4) (sa_cons (se_strL [112, 117, 116]) (sa_cons (se_v 7) (sa_cons (se_v 6) sa_nil)))))))
  sss_nil)
  (sss_one (ss_ret (se_tup (sa_cons (se_v 4) (sa_cons (se_strL [99, 117, 116]) (sa_cons (se_bin od_modI (se_v 7) (se_callB cd_len rfl T.n_len bb_len (sa_cons (se_v 5) sa_nil))) sa_nil)))))))))))))))
def su__law_edited_1_0 : Ms := (sAsg (bin addD (bin addD (mSl (mVar 3) mNoPart ((mVar 4).bind asI)) (bin atD (mVar 1) (Mm.ret (.v (.int 3))))) (mSl (mVar 3) ((mVar 4).bind asI) mNoPart)) (gSet 3))
def su__law_edited_3_0 : Ms := (sAsg (bin addD (mSl (mVar 3) mNoPart ((mVar 4).bind asI)) (mSl (mVar 3) ((bin addD (mVar 4) (Mm.ret (.v (.int 1)))).bind asI) mNoPart)) (gSet 3))
def su__law_edited_4_0 : Ms := (sAsg (bin addD (bin addD (mSl (mVar 3) mNoPart ((mVar 4).bind asI)) (bin atD (mVar 1) (Mm.ret (.v (.int 3))))) (mSl (mVar 3) ((bin addD (mVar 4) (Mm.ret (.v (.int 1)))).bind asI) mNoPart)) (gSet 3))
def su__law_edited_2_0 : Ms := (sIf ((bin eqD (bin atD (mVar 1) (Mm.ret (.v (.int 1)))) (Mm.ret (.v (.str [99, 117, 116])))).bind asB)
  su__law_edited_3_0
  su__law_edited_4_0)
def su__law_edited_0_4 : Ms := (sRet (bin addD (bin addD (mSl (mVar 0) mNoPart ((mVar 2).bind asI)) (mTup (mCons (mVar 3) mNil))) (mSl (mVar 0) ((bin addD (mVar 2) (Mm.ret (.v (.int 1)))).bind asI) mNoPart)))
def su__law_edited_0_3 : Ms := (sSeq (sIf ((bin eqD (bin atD (mVar 1) (Mm.ret (.v (.int 1)))) (Mm.ret (.v (.str [112, 117, 116])))).bind asB)
  su__law_edited_1_0
  su__law_edited_2_0) su__law_edited_0_4)
def su__law_edited_0_2 : Ms := (sSeq (sAsg (bin atD (mVar 1) (Mm.ret (.v (.int 2)))) (gSet 4)) su__law_edited_0_3)
def su__law_edited_0_1 : Ms := (sSeq (sAsg (bin atD (mVar 0) (mVar 2)) (gSet 3)) su__law_edited_0_2)
def su__law_edited_0_0 : Ms := (sSeq (sAsg (mMt .str indexD (Mm.ret (.v (.str [120, 121, 122]))) (mCons (bin atD (mVar 1) (Mm.ret (.v (.int 0)))) mNil)) (gSet 2)) su__law_edited_0_1)
def den__law_edited : Fn := fnD 2 5 su__law_edited_0_0
theorem ok__law_edited (T : Txt P w K mg base A) : FnOk P w K mg base (L2.CX P w) 1 A.f__law_edited A.fd__law_edited ["triple", "edit"] (spD K mg den__law_edited) :=
  fn_D T.F__law_edited sc__law_edited fun cdv A0 outer s H E hr =>
  (sss_cons (ss_set 2 sc__law_edited.nd rfl (by first | exact Or.inl rfl | exact Or.inr rfl) (se_mt .str PySem.F.plainAttrs_str PySem.F.slot_str_index PySem.F.type_str_index md_index (se_strL [120, 121, 122]) (sa_cons (se_ix ixd_seq (se_v 1) se_int) sa_nil)))
  (sss_cons (ss_set 3 sc__law_edited.nd rfl (by first | exact Or.inl rfl | exact Or.inr rfl) (se_ix ixd_seq (se_v 0) (se_v 2)))
  (sss_cons (ss_set 4 sc__law_edited.nd rfl (by first | exact Or.inl rfl | exact Or.inr rfl) (se_ix ixd_seq (se_v 1) se_int))
  (sss_cons (ss_if (st_cmp (od_eq hr.units) (se_ix ixd_seq (se_v 1) se_int) (se_strL [112, 117, 116]))
  (sss_one (ss_set 3 sc__law_edited.nd rfl (by first | exact Or.inl rfl | exact Or.inr rfl) (se_bin od_add (se_bin od_add (se_slice (se_v 3) so_none (so_some (se_v 4))) (se_ix ixd_seq (se_v 1) se_int)) (se_slice (se_v 3) (so_some (se_v 4)) so_none))))
  (sss_one (ss_if (st_cmp (od_eq hr.units) (se_ix ixd_seq (se_v 1) se_int) (se_strL [99, 117, 116]))
  (sss_one (ss_set 3 sc__law_edited.nd rfl (by first | exact Or.inl rfl | exact Or.inr rfl) (se_bin od_add (se_slice (se_v 3) so_none (so_some (se_v 4))) (se_slice (se_v 3) (so_some (se_bin od_add (se_v 4) se_int)) so_none))))
  (sss_one (ss_set 3 sc__law_edited.nd rfl (by first | exact Or.inl rfl | exact Or.inr rfl) (se_bin od_add (se_bin od_add (se_slice (se_v 3) so_none (so_some (se_v 4))) (se_ix ixd_seq (se_v 1) se_int)) (se_slice (se_v 3) (so_some (se_bin od_add (se_v 4) se_int)) so_none)))))))
  (sss_one (ss_ret (se_bin od_add (se_bin od_add (se_slice (se_v 0) so_none (so_some (se_v 2))) (se_tup (sa_cons (se_v 3) sa_nil))) (se_slice (se_v 0) (so_some (se_bin od_add (se_v 2) se_int)) so_none))))))))
def su__law_same_4_0 : Ms := (sRet (Mm.ret (.v (.bl false))))
def lc__law_same_0 : Mm SV := mLc [7] ((mCons (mCB lenD (mCons (mVar 6) mNil)) mNil).bind rng1) (gSet 7) mYes (mTup (mCons (bin atD (mVar 5) (mVar 7)) (mCons (bin atD (mVar 6) (mVar 7)) mNil)))
def su__law_same_3_1 : Ms := (sDrop (mExt (mVar 4) lc__law_same_0))
def su__law_same_3_0 : Ms := (sSeq (sIf (mOr (mNot ((mIsI .tup (mVar 5)).bind asT)) ((bin neD (mCB lenD (mCons (mVar 5) mNil)) (mCB lenD (mCons (mVar 6) mNil))).bind asB))
  su__law_same_4_0
  sNext) su__law_same_3_1)
def su__law_same_7_0 : Ms := (sRet (Mm.ret (.v (.bl false))))
def su__law_same_6_0 : Ms := (sIf ((bin notNone (mVar 5) (Mm.ret (.v .non))).bind asB)
  su__law_same_7_0
  sNext)
def su__law_same_9_0 : Ms := (sRet (Mm.ret (.v (.bl false))))
def su__law_same_11_0 : Ms := (sRet (Mm.ret (.v (.bl false))))
def su__law_same_13_0 : Ms := (sRet (Mm.ret (.v (.bl false))))
def su__law_same_12_0 : Ms := (sIf (mOr ((bin neD (mIsI .int (mVar 5)) (mIsI .int (mVar 6))).bind asB) ((bin neD (mVar 5) (mVar 6)).bind asB))
  su__law_same_13_0
  sNext)
def su__law_same_10_0 : Ms := (sIf ((bin neD (mIsI .str (mVar 5)) (mIsI .str (mVar 6))).bind asB)
  su__law_same_11_0
  su__law_same_12_0)
def su__law_same_8_0 : Ms := (sIf ((bin neD (mIsI .bool (mVar 5)) (mIsI .bool (mVar 6))).bind asB)
  su__law_same_9_0
  su__law_same_10_0)
def su__law_same_5_0 : Ms := (sIf ((bin isNone (mVar 6) (Mm.ret (.v .non))).bind asB)
  su__law_same_6_0
  su__law_same_8_0)
def su__law_same_2_0 : Ms := (sIf ((mIsI .tup (mVar 6)).bind asT)
  su__law_same_3_0
  su__law_same_5_0)
def su__law_same_1_2 : Ms := (sAsg (mVar 4) (gSet 2))
def su__law_same_1_1 : Ms := (sSeq (sFor ((mVar 2).bind mSrc) (gTupD (gsCons (gSet 5) (gsCons (gSet 6) gsNil)))
  su__law_same_2_0) su__law_same_1_2)
def su__law_same_1_0 : Ms := (sSeq (sAsg (mOwn mNil) (gSet 4)) su__law_same_1_1)
def su__law_same_0_2 : Ms := (sRet (bin eqD (mVar 2) (mLst mNil)))
def su__law_same_0_1 : Ms := (sSeq (sFor ((mCons (Mm.ret (.v (.int 30))) mNil).bind rng1) (gSet 3)
  su__law_same_1_0) su__law_same_0_2)
def su__law_same_0_0 : Ms := (sSeq (sAsg (mLst (mCons (mTup (mCons (mVar 0) (mCons (mVar 1) mNil))) mNil)) (gSet 2)) su__law_same_0_1)
def den__law_same : Fn := fnD 2 8 su__law_same_0_0
theorem ok__law_same (T : Txt P w K mg base A) : FnOk P w K mg base (L2.CX P w) 1 A.f__law_same A.fd__law_same ["found", "due"] (spD K mg den__law_same) :=
  fn_D T.F__law_same sc__law_same fun cdv A0 outer s H E hr =>
  (sss_cons (ss_set 2 sc__law_same.nd rfl (by first | exact Or.inl rfl | exact Or.inr rfl) (se_lst (sa_cons (se_tup (sa_cons (se_v 0) (sa_cons (se_v 1) sa_nil))) sa_nil)))
  (sss_cons (ss_for (passes_of rfl) rfl (si_range1 rfl T.n_range (sa_cons se_int sa_nil)) (sg_name 3 sc__law_same.nd rfl (by first | exact Or.inl rfl | exact Or.inr rfl))
  (sss_cons (ss_set 4 sc__law_same.nd rfl (by first | exact Or.inl rfl | exact Or.inr rfl) (se_own sa_nil))
  (sss_cons (ss_for (passes_of rfl) rfl (si_any (se_v 2)) (sg_tup rfl (sgs_cons (sg_name 5 sc__law_same.nd rfl (by first | exact Or.inl rfl | exact Or.inr rfl)) (sgs_cons (sg_name 6 sc__law_same.nd rfl (by first | exact Or.inl rfl | exact Or.inr rfl)) sgs_nil)))
  (sss_one (ss_if (st_truth (se_isi .tup rfl T.n_isinstance rfl T.n_tuple bt_tuple (se_v 6) bb_isinstance))
  (sss_cons (ss_if (st_w (sw_or (st_not (st_truth (se_isi .tup rfl T.n_isinstance rfl T.n_tuple bt_tuple (se_v 5) bb_isinstance))) (sw_or1 (st_cmp (od_ne hr.units) (se_callB cd_len rfl T.n_len bb_len (sa_cons (se_v 5) sa_nil)) (se_callB cd_len rfl T.n_len bb_len (sa_cons (se_v 6) sa_nil))))))
  (sss_one (ss_ret se_bl))
  sss_nil)
  (sss_one (ss_expr (se_extend (se_v 4) (se_lc (own := [("k", 7)]) rfl sc__law_same.nd (si_range1 rfl T.n_range (sa_cons (se_callB cd_len rfl T.n_len bb_len (sa_cons (se_v 6) sa_nil)) sa_nil)) (blkOk_by (own := [("k", 7)]) (N := N__law_same) (sc := defScope s__law_same) (by decide +kernel)) (fun _ _ _ _ _ => (sgw_name 7 (by decide) sc__law_same.nd rfl (by first | exact Or.inl rfl | exact Or.inr rfl))) (fun _ _ _ _ _ => sts_nil) (fun _ _ _ _ _ => (se_tup (sa_cons (se_ix ixd_seq (se_v 5) (se_v 7)) (sa_cons (se_ix ixd_seq (se_v 6) (se_v 7)) sa_nil)))))))))
  (sss_one (ss_if (st_cmp od_is (se_v 6) se_non)
  (sss_one (ss_if (st_cmp od_isnot (se_v 5) se_non)
  (sss_one (ss_ret se_bl))
  sss_nil))
  (sss_one (ss_if (st_cmp (od_ne hr.units) (se_isi .bool rfl T.n_isinstance rfl T.n_bool bt_bool (se_v 5) bb_isinstance) (se_isi .bool rfl T.n_isinstance rfl T.n_bool bt_bool (se_v 6) bb_isinstance))
  (sss_one (ss_ret se_bl))
  (sss_one (ss_if (st_cmp (od_ne hr.units) (se_isi .str rfl T.n_isinstance rfl T.n_str bt_str (se_v 5) bb_isinstance) (se_isi .str rfl T.n_isinstance rfl T.n_str bt_str (se_v 6) bb_isinstance))
  (sss_one (ss_ret se_bl))
  (sss_one (ss_if (st_w (sw_or (st_cmp (od_ne hr.units) (se_isi .int rfl T.n_isinstance rfl T.n_int bt_int (se_v 5) bb_isinstance) (se_isi .int rfl T.n_isinstance rfl T.n_int bt_int (se_v 6) bb_isinstance)) (sw_or1 (st_cmp (od_ne hr.units) (se_v 5) (se_v 6)))))
  (sss_one (ss_ret se_bl))
  sss_nil)))))))))))
  (sss_one (ss_set 2 sc__law_same.nd rfl (by first | exact Or.inl rfl | exact Or.inr rfl) (se_v 4))))))
  (sss_one (ss_ret (se_cmp (od_eq hr.units) (se_v 2) (se_lst sa_nil))))))
def su__law_told_1_0 : Ms := (sAsg (mCall den_edited (mCons (mVar 0) (mCons (mVar 1) mNil))) (gSet 3))
def su__law_told_2_0 : Ms := (sAsg (Mm.ret (.v (.str [78, 111, 69, 100, 105, 116]))) (gSet 2))
def su__law_told_4_0 (a : Addr) (d : Option Addr) : Ms := (sAsg (Mm.ret (.v (.str [111, 116, 104, 101, 114]))) (gSet 2))
def su__law_told_3_1 (a : Addr) (d : Option Addr) : Ms := (sIf (mOr (mNot ((mIsZ a d 4 true).bind asT)) (mOr (mNot ((mIsZ a d 4 true).bind asT)) ((mIsZ a d 4 false).bind asT)))
  (su__law_told_4_0 a d)
  sNext)
def su__law_told_3_0 (a : Addr) (d : Option Addr) : Ms := (sSeq (sAsg (Mm.ret (.v (.str [78, 111, 84, 114, 105, 112, 108, 101]))) (gSet 2)) (su__law_told_3_1 a d))
def su__law_told : Suite := fun a d c f =>
  (su__law_told_3_0 a d)
theorem ind__law_told : IndA 4 excT "NoTriple" su__law_told := fun a d c f G S _ hfd => by
  unfold su__law_told
  have c2 : ∀ (G : Sl) (x y : Option SV), (G.set 4 x).set 2 y = (G.set 2 y).set 4 x := fun G x y => List.set_comm x y (by decide)
  by_cases h2 : 2 < G.length <;> by_cases h4 : 4 < G.length <;> rcases f with _ | ⟨n1, y1⟩
  all_goals first | (obtain rfl := hfd rfl; simp [su__law_told_4_0, su__law_told_3_1, su__law_told_3_0, sSeq, sAsg, sE, sIf, sNext, mFld, mIsE, mIsZ, mNot, mOr, mAnd, asT, rd, truD, gSet, Mm.ret, Mm.bind, unAs, List.getElem?_set, List.length_set, *]; done) | (simp [su__law_told_4_0, su__law_told_3_1, su__law_told_3_0, sSeq, sAsg, sE, sIf, sNext, mFld, mIsE, mIsZ, mNot, mOr, mAnd, asT, rd, truD, gSet, Mm.ret, Mm.bind, unAs, List.getElem?_set, List.length_set, *]; done) | (by_cases hn : n1 = ("x" : Str) <;> simp [su__law_told_4_0, su__law_told_3_1, su__law_told_3_0, sSeq, sAsg, sE, sIf, sNext, mFld, mIsE, mIsZ, mNot, mOr, mAnd, asT, rd, truD, gSet, Mm.ret, Mm.bind, unAs, List.getElem?_set, List.length_set, *])

def su__law_told_0_3 : Ms := (sRet (mTup (mCons (mVar 2) (mCons (mVar 3) mNil))))
def su__law_told_0_2 : Ms := (sSeq (sTryC excT su__law_told_1_0 [("NoTriple", some 4, su__law_told), ("NoEdit", none, fun _ _ _ _ => su__law_told_2_0)]) su__law_told_0_3)
def su__law_told_0_1 : Ms := (sSeq (sAsg (Mm.ret (.v .non)) (gSet 3)) su__law_told_0_2)
def su__law_told_0_0 : Ms := (sSeq (sAsg (Mm.ret (.v (.str [116, 111, 108, 100]))) (gSet 2)) su__law_told_0_1)
def den__law_told : Fn := fnD 2 5 su__law_told_0_0
theorem ok__law_told (T : Txt P w K mg base A) : FnOk P w K mg base (L2.CX P w) 6 A.f__law_told A.fd__law_told ["triple", "edit"] (spD K mg den__law_told) :=
  fn_D T.F__law_told sc__law_told fun cdv A0 outer s H E hr =>
  (sss_cons (ss_set 2 sc__law_told.nd rfl (by first | exact Or.inl rfl | exact Or.inr rfl) (se_strL [116, 111, 108, 100]))
  (sss_cons (ss_set 3 sc__law_told.nd rfl (by first | exact Or.inl rfl | exact Or.inr rfl) se_non)
  (sss_cons (ss_try_c (l := [("NoTriple", some 4, su__law_told), ("NoEdit", none, fun _ _ _ _ => su__law_told_2_0)]) (catOk T) rfl rfl sc__law_told.nd (takes_of rfl rfl rfl rfl) (fun W pn xe tk po => (sss_one (ss_set 3 sc__law_told.nd rfl (by first | exact Or.inl rfl | exact Or.inr rfl) (se_call (ok_edited T) (hr.mono (by decide)) rfl T.m_edited T.F_edited.kp T.b_edited tk (sa_cons (se_v 0) (sa_cons (se_v 1) sa_nil))))))
  (.named rfl rfl rfl T.m_NoTriple (by decide) ind__law_told (fun a oe C d pn c f hz hff hc ht => by
    cases excT_NoTriple ht
    cases (T.m_NoTriple).symm.trans hc
    exact (sss_cons (ss_set 2 sc__law_told.nd rfl (by first | exact Or.inl rfl | exact Or.inr rfl) (se_strL [78, 111, 84, 114, 105, 112, 108, 101]))
  (sss_one (ss_if (st_w (sw_or (st_not (st_truth (se_isZ 4 T.xc_NoTriple hz hff (pe_glob (v := V.ref A.c_FourthError) rfl T.m_FourthError rfl) (fun _ r => r) T.ki_NoTriple_FourthError T.n_isinstance))) (sw_or (st_not (st_truth (se_isZ 4 T.xc_NoTriple hz hff (pe_bltn (v := V.ty "ValueError") rfl T.n_ValueError PyProof.Rows.Boot.«ValueError» rfl (by decide) (by decide)) (fun _ r => r) T.ki_NoTriple_ValueError T.n_isinstance))) (sw_or1 (st_truth (se_isZ 4 T.xc_NoTriple hz hff (pe_glob (v := V.ref A.c_NoEdit) rfl T.m_NoEdit rfl) (fun _ r => r) T.ki_NoTriple_NoEdit T.n_isinstance))))))
  (sss_one (ss_set 2 sc__law_told.nd rfl (by first | exact Or.inl rfl | exact Or.inr rfl) (se_strL [111, 116, 104, 101, 114])))
  sss_nil)))) (.plain rfl T.m_NoEdit (by decide) (fun a oe cls d pn hz hff => (sss_one (ss_set 2 sc__law_told.nd rfl (by first | exact Or.inl rfl | exact Or.inr rfl) (se_strL [78, 111, 69, 100, 105, 116])))) .nil)))
  (sss_one (ss_ret (se_tup (sa_cons (se_v 2) (sa_cons (se_v 3) sa_nil))))))))
def su__law_refused_1_0 : Ms := (sDrop (mCall den_is_edit (mCons (mVar 0) (mCons (mTup (mCons (Mm.ret (.v (.str [120]))) (mCons (Mm.ret (.v (.str [99, 117, 116]))) (mCons (Mm.ret (.v (.int 0))) mNil)))) mNil))))
def su__law_refused_2_0 : Ms := (sAsg (Mm.ret (.v (.bl true))) (gSet 1))
def su__law_refused_0_2 : Ms := (sRet (mVar 1))
def su__law_refused_0_1 : Ms := (sSeq (sTry excT su__law_refused_1_0 (("NoTriple", su__law_refused_2_0) :: [])) su__law_refused_0_2)
def su__law_refused_0_0 : Ms := (sSeq (sAsg (Mm.ret (.v (.bl false))) (gSet 1)) su__law_refused_0_1)
def den__law_refused : Fn := fnD 1 2 su__law_refused_0_0
theorem ok__law_refused (T : Txt P w K mg base A) : FnOk P w K mg base (L2.CX P w) 5 A.f__law_refused A.fd__law_refused ["triple"] (spD K mg den__law_refused) :=
  fn_D T.F__law_refused sc__law_refused fun cdv A0 outer s H E hr =>
  (sss_cons (ss_set 1 sc__law_refused.nd rfl (by first | exact Or.inl rfl | exact Or.inr rfl) se_bl)
  (sss_cons (ss_try (l := [("NoTriple", A.c_NoTriple, su__law_refused_2_0)]) (catOk T) rfl rfl (takes_of rfl rfl rfl rfl) (fun W pn xe tk po => (sss_one (ss_expr (se_call (ok_is_edit T) (hr.mono (by decide)) rfl T.m_is_edit T.F_is_edit.kp T.b_is_edit tk (sa_cons (se_v 0) (sa_cons (se_tup (sa_cons (se_strL [120]) (sa_cons (se_strL [99, 117, 116]) (sa_cons se_int sa_nil)))) sa_nil)))))) (.cons rfl T.m_NoTriple (by decide) (fun a oe cls d pn hz hff => (sss_one (ss_set 1 sc__law_refused.nd rfl (by first | exact Or.inl rfl | exact Or.inr rfl) se_bl))) .nil))
  (sss_one (ss_ret (se_v 1)))))
def su__law_odd_0_11 : Ms := (sRet (bin atD (mVar 6) (bin modI (mVar 2) (Mm.ret (.v (.int 31))))))
def su__law_odd_0_10 : Ms := (sSeq (sAsg (mCatO (mVar 6) (mLst (mCons (mTup (mCons (mVar 5) (mCons (Mm.ret (.v (.str [67, 117, 116]))) (mCons (Mm.ret (.v (.int 0))) mNil)))) (mCons (mTup (mCons (mVar 5) (mCons (Mm.ret (.v .non)) (mCons (Mm.ret (.v (.int 0))) mNil)))) (mCons (mTup (mCons (mVar 5) (mCons (Mm.ret (.v (.str [109, 111, 118, 101]))) (mCons (Mm.ret (.v (.int 0))) (mCons (Mm.ret (.v (.str [97]))) mNil))))) (mCons (mTup (mCons (mVar 5) (mCons (Mm.ret (.v (.str [112, 117, 116]))) (mCons (Mm.ret (.v .non)) (mCons (Mm.ret (.v (.str [97]))) mNil))))) (mCons (mTup mNil) (mCons (Mm.ret (.v (.int 0))) mNil)))))))) (gSet 6)) su__law_odd_0_11)
def su__law_odd_0_9 : Ms := (sSeq (sDrop (mApp (mVar 6) (mTup (mCons (mVar 5) (mCons (Mm.ret (.v (.str [116, 117, 114, 110]))) (mCons (Mm.ret (.v (.int 0))) mNil)))))) su__law_odd_0_10)
def su__law_odd_0_8 : Ms := (sSeq (sAsg (mCatO (mVar 6) (mLst (mCons (mTup (mCons (mVar 5) (mCons (Mm.ret (.v (.str [99, 117, 116]))) mNil))) (mCons (mTup (mCons (mVar 5) (mCons (Mm.ret (.v (.str [116, 117, 114, 110]))) (mCons (mVar 4) (mCons (Mm.ret (.v (.str [97]))) mNil))))) (mCons (mTup (mCons (mVar 5) (mCons (Mm.ret (.v (.str [116, 117, 114, 110]))) (mCons (mNeg (Mm.ret (.v (.int 1)))) (mCons (Mm.ret (.v (.str [97]))) mNil))))) (mCons (mTup (mCons (mVar 5) (mCons (Mm.ret (.v (.str [116, 117, 114, 110]))) (mCons (Mm.ret (.v (.int 0))) (mCons (Mm.ret (.v (.str [63]))) mNil))))) mNil)))))) (gSet 6)) su__law_odd_0_9)
def su__law_odd_0_7 : Ms := (sSeq (sAsg (mCatO (mVar 6) (mLst (mCons (mTup (mCons (mVar 5) (mCons (Mm.ret (.v (.str [99, 117, 116]))) (mCons (mVar 4) mNil)))) (mCons (mTup (mCons (mVar 5) (mCons (Mm.ret (.v (.str [99, 117, 116]))) (mCons (mNeg (Mm.ret (.v (.int 1)))) mNil)))) (mCons (mTup (mCons (mVar 5) (mCons (Mm.ret (.v (.str [99, 117, 116]))) (mCons (Mm.ret (.v (.str [48]))) mNil)))) (mCons (mTup (mCons (mVar 5) (mCons (Mm.ret (.v (.str [99, 117, 116]))) (mCons (Mm.ret (.v (.int 0))) (mCons (Mm.ret (.v (.str [97]))) mNil))))) mNil)))))) (gSet 6)) su__law_odd_0_8)
def su__law_odd_0_6 : Ms := (sSeq (sDrop (mApp (mVar 6) (mTup (mCons (mVar 5) (mCons (Mm.ret (.v (.str [112, 117, 116]))) (mCons (Mm.ret (.v (.int 0))) (mCons (Mm.ret (.v .non)) mNil))))))) su__law_odd_0_7)
def su__law_odd_0_5 : Ms := (sSeq (sAsg (mCatO (mVar 6) (mLst (mCons (mTup (mCons (mVar 5) (mCons (Mm.ret (.v (.str [112, 117, 116]))) (mCons (Mm.ret (.v (.int 0))) (mCons (Mm.ret (.v (.str [65]))) mNil))))) (mCons (mTup (mCons (mVar 5) (mCons (Mm.ret (.v (.str [112, 117, 116]))) (mCons (Mm.ret (.v (.int 0))) (mCons (Mm.ret (.v (.str []))) mNil))))) (mCons (mTup (mCons (mVar 5) (mCons (Mm.ret (.v (.str [112, 117, 116]))) (mCons (Mm.ret (.v (.int 0))) (mCons (Mm.ret (.v (.str [97, 98]))) mNil))))) (mCons (mTup (mCons (mVar 5) (mCons (Mm.ret (.v (.str [112, 117, 116]))) (mCons (Mm.ret (.v (.int 0))) mNil)))) mNil)))))) (gSet 6)) su__law_odd_0_6)
def su__law_odd_0_4 : Ms := (sSeq (sAsg (mCatO (mVar 6) (mLst (mCons (Mm.ret (.v (.str [112, 117, 116]))) (mCons (mTup (mCons (mVar 5) (mCons (Mm.ret (.v (.str [112, 117, 116]))) (mCons (bin addD (mVar 4) (Mm.ret (.v (.int 1)))) (mCons (Mm.ret (.v (.str [97]))) mNil))))) (mCons (mTup (mCons (mVar 5) (mCons (Mm.ret (.v (.str [112, 117, 116]))) (mCons (mNeg (Mm.ret (.v (.int 1)))) (mCons (Mm.ret (.v (.str [97]))) mNil))))) (mCons (mTup (mCons (mVar 5) (mCons (Mm.ret (.v (.str [112, 117, 116]))) (mCons (Mm.ret (.v (.bl true))) (mCons (Mm.ret (.v (.str [97]))) mNil))))) mNil)))))) (gSet 6)) su__law_odd_0_5)
def su__law_odd_0_3 : Ms := (sSeq (sAsg (mOwn (mCons (bin addD (mTup (mCons (Mm.ret (.v (.str [116]))) mNil)) (mSl (mVar 1) ((Mm.ret (.v (.int 1))).bind asI) mNoPart)) (mCons (bin addD (mTup (mCons (Mm.ret (.v (.str [88]))) mNil)) (mSl (mVar 1) ((Mm.ret (.v (.int 1))).bind asI) mNoPart)) (mCons (bin addD (mTup (mCons (Mm.ret (.v (.int 0))) mNil)) (mSl (mVar 1) ((Mm.ret (.v (.int 1))).bind asI) mNoPart)) (mCons (mSl (mVar 1) mNoPart ((Mm.ret (.v (.int 2))).bind asI)) (mCons (bin addD (mVar 1) (mTup (mCons (Mm.ret (.v (.str [97]))) mNil))) (mCons (mCB listD (mCons (mVar 1) mNil)) (mCons (Mm.ret (.v .non)) mNil)))))))) (gSet 6)) su__law_odd_0_4)
def su__law_odd_0_2 : Ms := (sSeq (sAsg (bin atD (mVar 1) (Mm.ret (.v (.int 0)))) (gSet 5)) su__law_odd_0_3)
def su__law_odd_0_1 : Ms := (sSeq (sAsg (mCB lenD (mCons (bin atD (mVar 0) (mVar 3)) mNil)) (gSet 4)) su__law_odd_0_2)
def su__law_odd_0_0 : Ms := (sSeq (sAsg (mMt .str indexD (Mm.ret (.v (.str [120, 121, 122]))) (mCons (bin atD (mVar 1) (Mm.ret (.v (.int 0)))) mNil)) (gSet 3)) su__law_odd_0_1)
def den__law_odd : Fn := fnD 3 7 su__law_odd_0_0
theorem ok__law_odd (T : Txt P w K mg base A) : FnOk P w K mg base (L2.CX P w) 1 A.f__law_odd A.fd__law_odd ["triple", "edit", "number"] (spD K mg den__law_odd) :=
  fn_D T.F__law_odd sc__law_odd fun cdv A0 outer s H E hr =>
  (sss_cons (ss_set 3 sc__law_odd.nd rfl (by first | exact Or.inl rfl | exact Or.inr rfl) (se_mt .str PySem.F.plainAttrs_str PySem.F.slot_str_index PySem.F.type_str_index md_index (se_strL [120, 121, 122]) (sa_cons (se_ix ixd_seq (se_v 1) se_int) sa_nil)))
  (sss_cons (ss_set 4 sc__law_odd.nd rfl (by first | exact Or.inl rfl | exact Or.inr rfl) (se_callB cd_len rfl T.n_len bb_len (sa_cons (se_ix ixd_seq (se_v 0) (se_v 3)) sa_nil)))
  (sss_cons (ss_set 5 sc__law_odd.nd rfl (by first | exact Or.inl rfl | exact Or.inr rfl) (se_ix ixd_seq (se_v 1) se_int))
  (sss_cons (ss_set 6 sc__law_odd.nd rfl (by first | exact Or.inl rfl | exact Or.inr rfl) (se_own (sa_cons (se_bin od_add (se_tup (sa_cons (se_strL [116]) sa_nil)) (se_slice (se_v 1) (so_some se_int) so_none)) (sa_cons (se_bin od_add (se_tup (sa_cons (se_strL [88]) sa_nil)) (se_slice (se_v 1) (so_some se_int) so_none)) (sa_cons (se_bin od_add (se_tup (sa_cons se_int sa_nil)) (se_slice (se_v 1) (so_some se_int) so_none)) (sa_cons (se_slice (se_v 1) so_none (so_some se_int)) (sa_cons (se_bin od_add (se_v 1) (se_tup (sa_cons (se_strL [97]) sa_nil))) (sa_cons (se_callTy cd_list rfl T.n_list bt_list (sa_cons (se_v 1) sa_nil)) (sa_cons se_non sa_nil)))))))))
  (sss_cons (ss_set 6 sc__law_odd.nd rfl (by first | exact Or.inl rfl | exact Or.inr rfl) (se_catO (se_v 6) (se_lst (sa_cons (se_strL [112, 117, 116]) (sa_cons (se_tup (sa_cons (se_v 5) (sa_cons (se_strL [112, 117, 116]) (sa_cons (se_bin od_add (se_v 4) se_int) (sa_cons (se_strL [97]) sa_nil))))) (sa_cons (se_tup (sa_cons (se_v 5) (sa_cons (se_strL [112, 117, 116]) (sa_cons (se_neg se_int) (sa_cons (se_strL [97]) sa_nil))))) (sa_cons (se_tup (sa_cons (se_v 5) (sa_cons (se_strL [112, 117, 116]) (sa_cons se_bl (sa_cons (se_strL [97]) sa_nil))))) sa_nil)))))))
  (sss_cons (ss_set 6 sc__law_odd.nd rfl (by first | exact Or.inl rfl | exact Or.inr rfl) (se_catO (se_v 6) (se_lst (sa_cons (se_tup (sa_cons (se_v 5) (sa_cons (se_strL [112, 117, 116]) (sa_cons se_int (sa_cons (se_strL [65]) sa_nil))))) (sa_cons (se_tup (sa_cons (se_v 5) (sa_cons (se_strL [112, 117, 116]) (sa_cons se_int (sa_cons (se_strL []) sa_nil))))) (sa_cons (se_tup (sa_cons (se_v 5) (sa_cons (se_strL [112, 117, 116]) (sa_cons se_int (sa_cons (se_strL [97, 98]) sa_nil))))) (sa_cons (se_tup (sa_cons (se_v 5) (sa_cons (se_strL [112, 117, 116]) (sa_cons se_int sa_nil)))) sa_nil)))))))
  (sss_cons (ss_expr (se_append (se_v 6) (se_tup (sa_cons (se_v 5) (sa_cons (se_strL [112, 117, 116]) (sa_cons se_int (sa_cons se_non sa_nil)))))))
  (sss_cons (ss_set 6 sc__law_odd.nd rfl (by first | exact Or.inl rfl | exact Or.inr rfl) (se_catO (se_v 6) (se_lst (sa_cons (se_tup (sa_cons (se_v 5) (sa_cons (se_strL [99, 117, 116]) (sa_cons (se_v 4) sa_nil)))) (sa_cons (se_tup (sa_cons (se_v 5) (sa_cons (se_strL [99, 117, 116]) (sa_cons (se_neg se_int) sa_nil)))) (sa_cons (se_tup (sa_cons (se_v 5) (sa_cons (se_strL [99, 117, 116]) (sa_cons (se_strL [48]) sa_nil)))) (sa_cons (se_tup (sa_cons (se_v 5) (sa_cons (se_strL [99, 117, 116]) (sa_cons se_int (sa_cons (se_strL [97]) sa_nil))))) sa_nil)))))))
  (sss_cons (ss_set 6 sc__law_odd.nd rfl (by first | exact Or.inl rfl | exact Or.inr rfl) (se_catO (se_v 6) (se_lst (sa_cons (se_tup (sa_cons (se_v 5) (sa_cons (se_strL [99, 117, 116]) sa_nil))) (sa_cons (se_tup (sa_cons (se_v 5) (sa_cons (se_strL [116, 117, 114, 110]) (sa_cons (se_v 4) (sa_cons (se_strL [97]) sa_nil))))) (sa_cons (se_tup (sa_cons (se_v 5) (sa_cons (se_strL [116, 117, 114, 110]) (sa_cons (se_neg se_int) (sa_cons (se_strL [97]) sa_nil))))) (sa_cons (se_tup (sa_cons (se_v 5) (sa_cons (se_strL [116, 117, 114, 110]) (sa_cons se_int (sa_cons (se_strL [63]) sa_nil))))) sa_nil)))))))
  (sss_cons (ss_expr (se_append (se_v 6) (se_tup (sa_cons (se_v 5) (sa_cons (se_strL [116, 117, 114, 110]) (sa_cons se_int sa_nil))))))
  (sss_cons (ss_set 6 sc__law_odd.nd rfl (by first | exact Or.inl rfl | exact Or.inr rfl) (se_catO (se_v 6) (se_lst (sa_cons (se_tup (sa_cons (se_v 5) (sa_cons (se_strL [67, 117, 116]) (sa_cons se_int sa_nil)))) (sa_cons (se_tup (sa_cons (se_v 5) (sa_cons se_non (sa_cons se_int sa_nil)))) (sa_cons (se_tup (sa_cons (se_v 5) (sa_cons (se_strL [109, 111, 118, 101]) (sa_cons se_int (sa_cons (se_strL [97]) sa_nil))))) (sa_cons (se_tup (sa_cons (se_v 5) (sa_cons (se_strL [112, 117, 116]) (sa_cons se_non (sa_cons (se_strL [97]) sa_nil))))) (sa_cons (se_tup sa_nil) (sa_cons se_int sa_nil)))))))))
  (sss_one (ss_ret (se_ix ixd_seq (se_v 6) (se_bin od_modI (se_v 2) se_int)))))))))))))))
def su__law_no_triple_0_3 : Ms := (sRet (bin atD (mVar 5) (bin modI (mVar 1) (Mm.ret (.v (.int 10))))))
def su__law_no_triple_0_2 : Ms := (sSeq (sDrop (mApp (mVar 5) (mDisp ["x"] (mCons (mVar 2) mNil)))) su__law_no_triple_0_3)
def su__law_no_triple_0_1 : Ms := (sSeq (sAsg (mOwn (mCons (mTup (mCons (mVar 2) (mCons (mVar 3) mNil))) (mCons (mTup (mCons (mVar 2) (mCons (mVar 3) (mCons (mVar 4) (mCons (Mm.ret (.v (.str []))) mNil))))) (mCons (mLst (mCons (mVar 2) (mCons (mVar 3) (mCons (mVar 4) mNil)))) (mCons (mTup (mCons (bin addD (mVar 2) (Mm.ret (.v (.str [65])))) (mCons (mVar 3) (mCons (mVar 4) mNil)))) (mCons (mTup (mCons (mVar 2) (mCons (Mm.ret (.v .non)) (mCons (mVar 4) mNil)))) (mCons (mTup (mCons (mVar 2) (mCons (mVar 3) (mCons (Mm.ret (.v (.int 0))) mNil)))) (mCons (Mm.ret (.v .non)) (mCons (mVar 2) (mCons (mTup (mCons (mVar 2) (mCons (mTup (mCons (mVar 3) mNil)) (mCons (mVar 4) mNil)))) mNil)))))))))) (gSet 5)) su__law_no_triple_0_2)
def su__law_no_triple_0_0 : Ms := (sSeq (sAsg (mVar 0) (gTupD (gsCons (gSet 2) (gsCons (gSet 3) (gsCons (gSet 4) gsNil))))) su__law_no_triple_0_1)
def den__law_no_triple : Fn := fnD 2 6 su__law_no_triple_0_0
theorem ok__law_no_triple (T : Txt P w K mg base A) : FnOk P w K mg base (L2.CX P w) 1 A.f__law_no_triple A.fd__law_no_triple ["triple", "number"] (spD K mg den__law_no_triple) :=
  fn_D T.F__law_no_triple sc__law_no_triple fun cdv A0 outer s H E hr =>
  (sss_cons (ss_asg (se_v 0) (sg_tup rfl (sgs_cons (sg_name 2 sc__law_no_triple.nd rfl (by first | exact Or.inl rfl | exact Or.inr rfl)) (sgs_cons (sg_name 3 sc__law_no_triple.nd rfl (by first | exact Or.inl rfl | exact Or.inr rfl)) (sgs_cons (sg_name 4 sc__law_no_triple.nd rfl (by first | exact Or.inl rfl | exact Or.inr rfl)) sgs_nil)))))
  (sss_cons (ss_set 5 sc__law_no_triple.nd rfl (by first | exact Or.inl rfl | exact Or.inr rfl) (se_own (sa_cons (se_tup (sa_cons (se_v 2) (sa_cons (se_v 3) sa_nil))) (sa_cons (se_tup (sa_cons (se_v 2) (sa_cons (se_v 3) (sa_cons (se_v 4) (sa_cons (se_strL []) sa_nil))))) (sa_cons (se_lst (sa_cons (se_v 2) (sa_cons (se_v 3) (sa_cons (se_v 4) sa_nil)))) (sa_cons (se_tup (sa_cons (se_bin od_add (se_v 2) (se_strL [65])) (sa_cons (se_v 3) (sa_cons (se_v 4) sa_nil)))) (sa_cons (se_tup (sa_cons (se_v 2) (sa_cons se_non (sa_cons (se_v 4) sa_nil)))) (sa_cons (se_tup (sa_cons (se_v 2) (sa_cons (se_v 3) (sa_cons se_int sa_nil)))) (sa_cons se_non (sa_cons (se_v 2) (sa_cons (se_tup (sa_cons (se_v 2) (sa_cons (se_tup (sa_cons (se_v 3) sa_nil)) (sa_cons (se_v 4) sa_nil)))) sa_nil)))))))))))
  (sss_cons (ss_expr (se_append (se_v 5) (se_disp (sd_cons (se_v 2) sd_nil) rfl rfl (by simp) (by simp))))
  (sss_one (ss_ret (se_ix ixd_seq (se_v 5) (se_bin od_modI (se_v 1) se_int)))))))
def su_law_2_0 : Ms := (sRet (Mm.ret (.v (.bl false))))
def su_law_4_0 : Ms := (sRet (Mm.ret (.v (.bl false))))
def su_law_5_0 : Ms := (sRet (Mm.ret (.v (.bl false))))
def su_law_6_0 : Ms := (sRet (Mm.ret (.v (.bl false))))
def su_law_7_0 : Ms := (sRet (Mm.ret (.v (.bl false))))
def su_law_3_8 : Ms := (sAsg (mVar 7) (gSet 2))
def su_law_3_7 : Ms := (sSeq (sIf ((bin neD (mCall den__law_told (mCons (mVar 9) (mCons (mVar 8) mNil))) (mTup (mCons (Mm.ret (.v (.str [78, 111, 84, 114, 105, 112, 108, 101]))) (mCons (Mm.ret (.v .non)) mNil)))).bind asB)
  su_law_7_0
  sNext) su_law_3_8)
def su_law_3_6 : Ms := (sSeq (sIf (mOr ((bin notNone (mCall den_is_triple (mCons (mVar 9) mNil)) (Mm.ret (.v (.bl false)))).bind asB) (mNot ((mCall den__law_refused (mCons (mVar 9) mNil)).bind asT)))
  su_law_6_0
  sNext) su_law_3_7)
def su_law_3_5 : Ms := (sSeq (sAsg (mCall den__law_no_triple (mCons (mVar 2) (mCons (bin atD (mVar 3) (bin addD (Mm.ret (.v (.int 20))) (mVar 5))) mNil))) (gSet 9)) su_law_3_6)
def su_law_3_4 : Ms := (sSeq (sIf (mOr ((bin notNone (mCall den_is_edit (mCons (mVar 2) (mCons (mVar 8) mNil))) (Mm.ret (.v (.bl false)))).bind asB) ((bin neD (mCall den__law_told (mCons (mVar 2) (mCons (mVar 8) mNil))) (mTup (mCons (Mm.ret (.v (.str [78, 111, 69, 100, 105, 116]))) (mCons (Mm.ret (.v .non)) mNil)))).bind asB))
  su_law_5_0
  sNext) su_law_3_5)
def su_law_3_3 : Ms := (sSeq (sAsg (mCall den__law_odd (mCons (mVar 2) (mCons (mVar 6) (mCons (bin atD (mVar 3) (bin addD (Mm.ret (.v (.int 10))) (mVar 5))) mNil)))) (gSet 8)) su_law_3_4)
def su_law_3_2 : Ms := (sSeq (sIf (mOr ((bin notNone (mCall den_is_edit (mCons (mVar 2) (mCons (mVar 6) mNil))) (Mm.ret (.v (.bl true)))).bind asB) (mNot ((mCall den__law_same (mCons (mCall den__law_told (mCons (mVar 2) (mCons (mVar 6) mNil))) (mCons (mTup (mCons (Mm.ret (.v (.str [116, 111, 108, 100]))) (mCons (mVar 7) mNil))) mNil))).bind asT)))
  su_law_4_0
  sNext) su_law_3_3)
def su_law_3_1 : Ms := (sSeq (sAsg (mCall den__law_edited (mCons (mVar 2) (mCons (mVar 6) mNil))) (gSet 7)) su_law_3_2)
def su_law_3_0 : Ms := (sSeq (sAsg (mCall den__law_edit (mCons (mVar 2) (mCons (bin atD (mVar 3) (mVar 5)) (mCons (mVar 4) mNil)))) (gSet 6)) su_law_3_1)
def su_law_1_4 : Ms := (sFor ((mCons (Mm.ret (.v (.int 8))) mNil).bind rng1) (gSet 5)
  su_law_3_0)
def su_law_1_3 : Ms := (sSeq (sIf ((bin notNone (mCall den_is_triple (mCons (mVar 2) mNil)) (Mm.ret (.v (.bl true)))).bind asB)
  su_law_2_0
  sNext) su_law_1_4)
def su_law_1_2 : Ms := (sSeq (sAsg (mCall den__law_letters (mCons (bin atD (mVar 3) (Mm.ret (.v (.int 39)))) mNil)) (gSet 4)) su_law_1_3)
def su_law_1_1 : Ms := (sSeq (sAsg (mCall den__law_numbers (mCons (mVar 0) (mCons (bin addD (bin mulD (Mm.ret (.v (.int 12))) (mVar 1)) (Mm.ret (.v (.int 2)))) mNil))) (gSet 3)) su_law_1_2)
def su_law_1_0 : Ms := (sSeq (sAsg (mCall den__law_triple (mCons (mVar 0) (mCons (bin mulD (Mm.ret (.v (.int 12))) (mVar 1)) mNil))) (gSet 2)) su_law_1_1)
def su_law_0_1 : Ms := (sRet (Mm.ret (.v (.bl true))))
def su_law_0_0 : Ms := (sSeq (sFor ((mCons (Mm.ret (.v (.int 3))) mNil).bind rng1) (gSet 1)
  su_law_1_0) su_law_0_1)
def den_law : Fn := fnD 1 10 su_law_0_0
theorem ok_law (T : Txt P w K mg base A) : FnOk P w K mg base (L2.CX P w) 7 A.f_law A.fd_law ["script"] (spD K mg den_law) :=
  fn_D T.F_law sc_law fun cdv A0 outer s H E hr =>
  (sss_cons (ss_for (passes_of rfl) rfl (si_range1 rfl T.n_range (sa_cons se_int sa_nil)) (sg_name 1 sc_law.nd rfl (by first | exact Or.inl rfl | exact Or.inr rfl))
  (sss_cons (ss_set 2 sc_law.nd rfl (by first | exact Or.inl rfl | exact Or.inr rfl) (se_call (ok__law_triple T) (hr.mono (by decide)) rfl T.m__law_triple T.F__law_triple.kp T.b__law_triple (takes_of rfl rfl rfl rfl) (sa_cons (se_v 0) (sa_cons (se_bin od_mul se_int (se_v 1)) sa_nil))))
  (sss_cons (ss_set 3 sc_law.nd rfl (by first | exact Or.inl rfl | exact Or.inr rfl) (se_call (ok__law_numbers T) (hr.mono (by decide)) rfl T.m__law_numbers T.F__law_numbers.kp T.b__law_numbers (takes_of rfl rfl rfl rfl) (sa_cons (se_v 0) (sa_cons (se_bin od_add (se_bin od_mul se_int (se_v 1)) se_int) sa_nil))))
  (sss_cons (ss_set 4 sc_law.nd rfl (by first | exact Or.inl rfl | exact Or.inr rfl) (se_call (ok__law_letters T) (hr.mono (by decide)) rfl T.m__law_letters T.F__law_letters.kp T.b__law_letters (takes_of rfl rfl rfl rfl) (sa_cons (se_ix ixd_seq (se_v 3) se_int) sa_nil)))
  (sss_cons (ss_if (st_cmp od_isnot (se_call (ok_is_triple T) (hr.mono (by decide)) rfl T.m_is_triple T.F_is_triple.kp T.b_is_triple (takes_of rfl rfl rfl rfl) (sa_cons (se_v 2) sa_nil)) se_bl)
  (sss_one (ss_ret se_bl))
  sss_nil)
  (sss_one (ss_for (passes_of rfl) rfl (si_range1 rfl T.n_range (sa_cons se_int sa_nil)) (sg_name 5 sc_law.nd rfl (by first | exact Or.inl rfl | exact Or.inr rfl))
  (sss_cons (ss_set 6 sc_law.nd rfl (by first | exact Or.inl rfl | exact Or.inr rfl) (se_call (ok__law_edit T) (hr.mono (by decide)) rfl T.m__law_edit T.F__law_edit.kp T.b__law_edit (takes_of rfl rfl rfl rfl) (sa_cons (se_v 2) (sa_cons (se_ix ixd_seq (se_v 3) (se_v 5)) (sa_cons (se_v 4) sa_nil)))))
  (sss_cons (ss_set 7 sc_law.nd rfl (by first | exact Or.inl rfl | exact Or.inr rfl) (se_call (ok__law_edited T) (hr.mono (by decide)) rfl T.m__law_edited T.F__law_edited.kp T.b__law_edited (takes_of rfl rfl rfl rfl) (sa_cons (se_v 2) (sa_cons (se_v 6) sa_nil))))
  (sss_cons (ss_if (st_w (sw_or (st_cmp od_isnot (se_call (ok_is_edit T) (hr.mono (by decide)) rfl T.m_is_edit T.F_is_edit.kp T.b_is_edit (takes_of rfl rfl rfl rfl) (sa_cons (se_v 2) (sa_cons (se_v 6) sa_nil))) se_bl) (sw_or1 (st_not (st_truth (se_call (ok__law_same T) (hr.mono (by decide)) rfl T.m__law_same T.F__law_same.kp T.b__law_same (takes_of rfl rfl rfl rfl) (sa_cons (se_call (ok__law_told T) (hr.mono (by decide)) rfl T.m__law_told T.F__law_told.kp T.b__law_told (takes_of rfl rfl rfl rfl) (sa_cons (se_v 2) (sa_cons (se_v 6) sa_nil))) (sa_cons (se_tup (sa_cons (se_strL [116, 111, 108, 100]) (sa_cons (se_v 7) sa_nil))) sa_nil))))))))
  (sss_one (ss_ret se_bl))
  sss_nil)
  (sss_cons (ss_set 8 sc_law.nd rfl (by first | exact Or.inl rfl | exact Or.inr rfl) (se_call (ok__law_odd T) (hr.mono (by decide)) rfl T.m__law_odd T.F__law_odd.kp T.b__law_odd (takes_of rfl rfl rfl rfl) (sa_cons (se_v 2) (sa_cons (se_v 6) (sa_cons (se_ix ixd_seq (se_v 3) (se_bin od_add se_int (se_v 5))) sa_nil)))))
  (sss_cons (ss_if (st_w (sw_or (st_cmp od_isnot (se_call (ok_is_edit T) (hr.mono (by decide)) rfl T.m_is_edit T.F_is_edit.kp T.b_is_edit (takes_of rfl rfl rfl rfl) (sa_cons (se_v 2) (sa_cons (se_v 8) sa_nil))) se_bl) (sw_or1 (st_cmp (od_ne hr.units) (se_call (ok__law_told T) (hr.mono (by decide)) rfl T.m__law_told T.F__law_told.kp T.b__law_told (takes_of rfl rfl rfl rfl) (sa_cons (se_v 2) (sa_cons (se_v 8) sa_nil))) (se_tup (sa_cons (se_strL [78, 111, 69, 100, 105, 116]) (sa_cons se_non sa_nil)))))))
  (sss_one (ss_ret se_bl))
  sss_nil)
  (sss_cons (ss_set 9 sc_law.nd rfl (by first | exact Or.inl rfl | exact Or.inr rfl) (se_call (ok__law_no_triple T) (hr.mono (by decide)) rfl T.m__law_no_triple T.F__law_no_triple.kp T.b__law_no_triple (takes_of rfl rfl rfl rfl) (sa_cons (se_v 2) (sa_cons (se_ix ixd_seq (se_v 3) (se_bin od_add se_int (se_v 5))) sa_nil))))
  (sss_cons (ss_if (st_w (sw_or (st_cmp od_isnot (se_call (ok_is_triple T) (hr.mono (by decide)) rfl T.m_is_triple T.F_is_triple.kp T.b_is_triple (takes_of rfl rfl rfl rfl) (sa_cons (se_v 9) sa_nil)) se_bl) (sw_or1 (st_not (st_truth (se_call (ok__law_refused T) (hr.mono (by decide)) rfl T.m__law_refused T.F__law_refused.kp T.b__law_refused (takes_of rfl rfl rfl rfl) (sa_cons (se_v 9) sa_nil)))))))
  (sss_one (ss_ret se_bl))
  sss_nil)
  (sss_cons (ss_if (st_cmp (od_ne hr.units) (se_call (ok__law_told T) (hr.mono (by decide)) rfl T.m__law_told T.F__law_told.kp T.b__law_told (takes_of rfl rfl rfl rfl) (sa_cons (se_v 9) (sa_cons (se_v 8) sa_nil))) (se_tup (sa_cons (se_strL [78, 111, 84, 114, 105, 112, 108, 101]) (sa_cons se_non sa_nil))))
  (sss_one (ss_ret se_bl))
  sss_nil)
  (sss_one (ss_set 2 sc_law.nd rfl (by first | exact Or.inl rfl | exact Or.inr rfl) (se_v 7))))))))))))))))))
  (sss_one (ss_ret se_bl)))
end
/-- what the top has left -/
theorem facts {P : Program} {w : World} {K : PySem.W.Frag} {h : Heap} {mg : Str → Option Value} {fa : Addr} (X : K.In h) (G : h.Ns mainGlobals mg) (hfa : mg "law" = some (.ref fa))
    {f_is_integer : Addr} {od_is_integer an_is_integer : Option Addr} {sl_is_integer : Array (Option Value)} {oc_is_integer kV_is_integer dc_is_integer pm_is_integer cd_is_integer ct_is_integer : Value}
    {f_is_within : Addr} {od_is_within an_is_within : Option Addr} {sl_is_within : Array (Option Value)} {oc_is_within kV_is_within dc_is_within pm_is_within cd_is_within ct_is_within : Value}
    {f_is_tuple : Addr} {od_is_tuple an_is_tuple : Option Addr} {sl_is_tuple : Array (Option Value)} {oc_is_tuple kV_is_tuple dc_is_tuple pm_is_tuple cd_is_tuple ct_is_tuple : Value}
    {f_is_word : Addr} {od_is_word an_is_word : Option Addr} {sl_is_word : Array (Option Value)} {oc_is_word kV_is_word dc_is_word pm_is_word cd_is_word ct_is_word : Value}
    {f_is_triple : Addr} {od_is_triple an_is_triple : Option Addr} {sl_is_triple : Array (Option Value)} {oc_is_triple kV_is_triple dc_is_triple pm_is_triple cd_is_triple ct_is_triple : Value}
    {f_check_triple : Addr} {od_check_triple an_check_triple : Option Addr} {sl_check_triple : Array (Option Value)} {oc_check_triple kV_check_triple dc_check_triple pm_check_triple cd_check_triple ct_check_triple : Value}
    {f_is_letter : Addr} {od_is_letter an_is_letter : Option Addr} {sl_is_letter : Array (Option Value)} {oc_is_letter kV_is_letter dc_is_letter pm_is_letter cd_is_letter ct_is_letter : Value}
    {f_raw_is_edit : Addr} {od_raw_is_edit an_raw_is_edit : Option Addr} {sl_raw_is_edit : Array (Option Value)} {oc_raw_is_edit kV_raw_is_edit dc_raw_is_edit pm_raw_is_edit cd_raw_is_edit ct_raw_is_edit : Value}
    {f_is_edit : Addr} {od_is_edit an_is_edit : Option Addr} {sl_is_edit : Array (Option Value)} {oc_is_edit kV_is_edit dc_is_edit pm_is_edit cd_is_edit ct_is_edit : Value}
    {f_raw_edited : Addr} {od_raw_edited an_raw_edited : Option Addr} {sl_raw_edited : Array (Option Value)} {oc_raw_edited kV_raw_edited dc_raw_edited pm_raw_edited cd_raw_edited ct_raw_edited : Value}
    {f_check_edit : Addr} {od_check_edit an_check_edit : Option Addr} {sl_check_edit : Array (Option Value)} {oc_check_edit kV_check_edit dc_check_edit pm_check_edit cd_check_edit ct_check_edit : Value}
    {f_edited : Addr} {od_edited an_edited : Option Addr} {sl_edited : Array (Option Value)} {oc_edited kV_edited dc_edited pm_edited cd_edited ct_edited : Value}
    {f__law_numbers : Addr} {od__law_numbers an__law_numbers : Option Addr} {sl__law_numbers : Array (Option Value)} {oc__law_numbers kV__law_numbers dc__law_numbers pm__law_numbers cd__law_numbers ct__law_numbers : Value}
    {f__law_letters : Addr} {od__law_letters an__law_letters : Option Addr} {sl__law_letters : Array (Option Value)} {oc__law_letters kV__law_letters dc__law_letters pm__law_letters cd__law_letters ct__law_letters : Value}
    {f__law_woven : Addr} {od__law_woven an__law_woven : Option Addr} {sl__law_woven : Array (Option Value)} {oc__law_woven kV__law_woven dc__law_woven pm__law_woven cd__law_woven ct__law_woven : Value}
    {f__law_triple : Addr} {od__law_triple an__law_triple : Option Addr} {sl__law_triple : Array (Option Value)} {oc__law_triple kV__law_triple dc__law_triple pm__law_triple cd__law_triple ct__law_triple : Value}
    {f__law_edit : Addr} {od__law_edit an__law_edit : Option Addr} {sl__law_edit : Array (Option Value)} {oc__law_edit kV__law_edit dc__law_edit pm__law_edit cd__law_edit ct__law_edit : Value}
    {f__law_edited : Addr} {od__law_edited an__law_edited : Option Addr} {sl__law_edited : Array (Option Value)} {oc__law_edited kV__law_edited dc__law_edited pm__law_edited cd__law_edited ct__law_edited : Value}
    {f__law_same : Addr} {od__law_same an__law_same : Option Addr} {sl__law_same : Array (Option Value)} {oc__law_same kV__law_same dc__law_same pm__law_same cd__law_same ct__law_same : Value}
    {f__law_told : Addr} {od__law_told an__law_told : Option Addr} {sl__law_told : Array (Option Value)} {oc__law_told kV__law_told dc__law_told pm__law_told cd__law_told ct__law_told : Value}
    {f__law_refused : Addr} {od__law_refused an__law_refused : Option Addr} {sl__law_refused : Array (Option Value)} {oc__law_refused kV__law_refused dc__law_refused pm__law_refused cd__law_refused ct__law_refused : Value}
    {f__law_odd : Addr} {od__law_odd an__law_odd : Option Addr} {sl__law_odd : Array (Option Value)} {oc__law_odd kV__law_odd dc__law_odd pm__law_odd cd__law_odd ct__law_odd : Value}
    {f__law_no_triple : Addr} {od__law_no_triple an__law_no_triple : Option Addr} {sl__law_no_triple : Array (Option Value)} {oc__law_no_triple kV__law_no_triple dc__law_no_triple pm__law_no_triple cd__law_no_triple ct__law_no_triple : Value}
    {f_law : Addr} {od_law an_law : Option Addr} {sl_law : Array (Option Value)} {oc_law kV_law dc_law pm_law cd_law ct_law : Value}
    {t1 : Tok}
    {t2 : Tok}
    {t3 : Tok}
    {t4 : Tok}
    {t5 : Tok}
    {C_FourthError : Addr}
    {C_NoEdit : Addr}
    {C_NoTriple : Addr}
    (a_is_integer : PySem.W.nsIn K mainGlobals "is_integer" = some (some (.ref f_is_integer)))
    (l_is_integer : K.lookup f_is_integer = some ⟨oc_is_integer, od_is_integer, .func (PySem.W.fnOf "is_integer" "is_integer" (defArgs s_is_integer) (defBody s_is_integer) (defScope s_is_integer) .none kV_is_integer dc_is_integer pm_is_integer an_is_integer cd_is_integer ct_is_integer), sl_is_integer⟩)
    (co_is_integer : PySem.W.codeIn K cd_is_integer "is_integer" = true)
    (k_is_integer : PySem.W.keepIn K (.ref f_is_integer) = true)
    (a_is_within : PySem.W.nsIn K mainGlobals "is_within" = some (some (.ref f_is_within)))
    (l_is_within : K.lookup f_is_within = some ⟨oc_is_within, od_is_within, .func (PySem.W.fnOf "is_within" "is_within" (defArgs s_is_within) (defBody s_is_within) (defScope s_is_within) .none kV_is_within dc_is_within pm_is_within an_is_within cd_is_within ct_is_within), sl_is_within⟩)
    (co_is_within : PySem.W.codeIn K cd_is_within "is_within" = true)
    (k_is_within : PySem.W.keepIn K (.ref f_is_within) = true)
    (a_is_tuple : PySem.W.nsIn K mainGlobals "is_tuple" = some (some (.ref f_is_tuple)))
    (l_is_tuple : K.lookup f_is_tuple = some ⟨oc_is_tuple, od_is_tuple, .func (PySem.W.fnOf "is_tuple" "is_tuple" (defArgs s_is_tuple) (defBody s_is_tuple) (defScope s_is_tuple) .none kV_is_tuple dc_is_tuple pm_is_tuple an_is_tuple cd_is_tuple ct_is_tuple), sl_is_tuple⟩)
    (co_is_tuple : PySem.W.codeIn K cd_is_tuple "is_tuple" = true)
    (k_is_tuple : PySem.W.keepIn K (.ref f_is_tuple) = true)
    (a_is_word : PySem.W.nsIn K mainGlobals "is_word" = some (some (.ref f_is_word)))
    (l_is_word : K.lookup f_is_word = some ⟨oc_is_word, od_is_word, .func (PySem.W.fnOf "is_word" "is_word" (defArgs s_is_word) (defBody s_is_word) (defScope s_is_word) .none kV_is_word dc_is_word pm_is_word an_is_word cd_is_word ct_is_word), sl_is_word⟩)
    (co_is_word : PySem.W.codeIn K cd_is_word "is_word" = true)
    (k_is_word : PySem.W.keepIn K (.ref f_is_word) = true)
    (a_is_triple : PySem.W.nsIn K mainGlobals "is_triple" = some (some (.ref f_is_triple)))
    (l_is_triple : K.lookup f_is_triple = some ⟨oc_is_triple, od_is_triple, .func (PySem.W.fnOf "is_triple" "is_triple" (defArgs s_is_triple) (defBody s_is_triple) (defScope s_is_triple) .none kV_is_triple dc_is_triple pm_is_triple an_is_triple cd_is_triple ct_is_triple), sl_is_triple⟩)
    (co_is_triple : PySem.W.codeIn K cd_is_triple "is_triple" = true)
    (k_is_triple : PySem.W.keepIn K (.ref f_is_triple) = true)
    (a_check_triple : PySem.W.nsIn K mainGlobals "check_triple" = some (some (.ref f_check_triple)))
    (l_check_triple : K.lookup f_check_triple = some ⟨oc_check_triple, od_check_triple, .func (PySem.W.fnOf "check_triple" "check_triple" (defArgs s_check_triple) (defBody s_check_triple) (defScope s_check_triple) .none kV_check_triple dc_check_triple pm_check_triple an_check_triple cd_check_triple ct_check_triple), sl_check_triple⟩)
    (co_check_triple : PySem.W.codeIn K cd_check_triple "check_triple" = true)
    (k_check_triple : PySem.W.keepIn K (.ref f_check_triple) = true)
    (a_is_letter : PySem.W.nsIn K mainGlobals "is_letter" = some (some (.ref f_is_letter)))
    (l_is_letter : K.lookup f_is_letter = some ⟨oc_is_letter, od_is_letter, .func (PySem.W.fnOf "is_letter" "is_letter" (defArgs s_is_letter) (defBody s_is_letter) (defScope s_is_letter) .none kV_is_letter dc_is_letter pm_is_letter an_is_letter cd_is_letter ct_is_letter), sl_is_letter⟩)
    (co_is_letter : PySem.W.codeIn K cd_is_letter "is_letter" = true)
    (k_is_letter : PySem.W.keepIn K (.ref f_is_letter) = true)
    (a_raw_is_edit : PySem.W.nsIn K mainGlobals "raw_is_edit" = some (some (.ref f_raw_is_edit)))
    (l_raw_is_edit : K.lookup f_raw_is_edit = some ⟨oc_raw_is_edit, od_raw_is_edit, .func (PySem.W.fnOf "raw_is_edit" "raw_is_edit" (defArgs s_raw_is_edit) (defBody s_raw_is_edit) (defScope s_raw_is_edit) .none kV_raw_is_edit dc_raw_is_edit pm_raw_is_edit an_raw_is_edit cd_raw_is_edit ct_raw_is_edit), sl_raw_is_edit⟩)
    (co_raw_is_edit : PySem.W.codeIn K cd_raw_is_edit "raw_is_edit" = true)
    (k_raw_is_edit : PySem.W.keepIn K (.ref f_raw_is_edit) = true)
    (a_is_edit : PySem.W.nsIn K mainGlobals "is_edit" = some (some (.ref f_is_edit)))
    (l_is_edit : K.lookup f_is_edit = some ⟨oc_is_edit, od_is_edit, .func (PySem.W.fnOf "is_edit" "is_edit" (defArgs s_is_edit) (defBody s_is_edit) (defScope s_is_edit) .none kV_is_edit dc_is_edit pm_is_edit an_is_edit cd_is_edit ct_is_edit), sl_is_edit⟩)
    (co_is_edit : PySem.W.codeIn K cd_is_edit "is_edit" = true)
    (k_is_edit : PySem.W.keepIn K (.ref f_is_edit) = true)
    (a_raw_edited : PySem.W.nsIn K mainGlobals "raw_edited" = some (some (.ref f_raw_edited)))
    (l_raw_edited : K.lookup f_raw_edited = some ⟨oc_raw_edited, od_raw_edited, .func (PySem.W.fnOf "raw_edited" "raw_edited" (defArgs s_raw_edited) (defBody s_raw_edited) (defScope s_raw_edited) .none kV_raw_edited dc_raw_edited pm_raw_edited an_raw_edited cd_raw_edited ct_raw_edited), sl_raw_edited⟩)
    (co_raw_edited : PySem.W.codeIn K cd_raw_edited "raw_edited" = true)
    (k_raw_edited : PySem.W.keepIn K (.ref f_raw_edited) = true)
    (a_check_edit : PySem.W.nsIn K mainGlobals "check_edit" = some (some (.ref f_check_edit)))
    (l_check_edit : K.lookup f_check_edit = some ⟨oc_check_edit, od_check_edit, .func (PySem.W.fnOf "check_edit" "check_edit" (defArgs s_check_edit) (defBody s_check_edit) (defScope s_check_edit) .none kV_check_edit dc_check_edit pm_check_edit an_check_edit cd_check_edit ct_check_edit), sl_check_edit⟩)
    (co_check_edit : PySem.W.codeIn K cd_check_edit "check_edit" = true)
    (k_check_edit : PySem.W.keepIn K (.ref f_check_edit) = true)
    (a_edited : PySem.W.nsIn K mainGlobals "edited" = some (some (.ref f_edited)))
    (l_edited : K.lookup f_edited = some ⟨oc_edited, od_edited, .func (PySem.W.fnOf "edited" "edited" (defArgs s_edited) (defBody s_edited) (defScope s_edited) .none kV_edited dc_edited pm_edited an_edited cd_edited ct_edited), sl_edited⟩)
    (co_edited : PySem.W.codeIn K cd_edited "edited" = true)
    (k_edited : PySem.W.keepIn K (.ref f_edited) = true)
    (a__law_numbers : PySem.W.nsIn K mainGlobals "_law_numbers" = some (some (.ref f__law_numbers)))
    (l__law_numbers : K.lookup f__law_numbers = some ⟨oc__law_numbers, od__law_numbers, .func (PySem.W.fnOf "_law_numbers" "_law_numbers" (defArgs s__law_numbers) (defBody s__law_numbers) (defScope s__law_numbers) .none kV__law_numbers dc__law_numbers pm__law_numbers an__law_numbers cd__law_numbers ct__law_numbers), sl__law_numbers⟩)
    (co__law_numbers : PySem.W.codeIn K cd__law_numbers "_law_numbers" = true)
    (k__law_numbers : PySem.W.keepIn K (.ref f__law_numbers) = true)
    (a__law_letters : PySem.W.nsIn K mainGlobals "_law_letters" = some (some (.ref f__law_letters)))
    (l__law_letters : K.lookup f__law_letters = some ⟨oc__law_letters, od__law_letters, .func (PySem.W.fnOf "_law_letters" "_law_letters" (defArgs s__law_letters) (defBody s__law_letters) (defScope s__law_letters) .none kV__law_letters dc__law_letters pm__law_letters an__law_letters cd__law_letters ct__law_letters), sl__law_letters⟩)
    (co__law_letters : PySem.W.codeIn K cd__law_letters "_law_letters" = true)
    (k__law_letters : PySem.W.keepIn K (.ref f__law_letters) = true)
    (a__law_woven : PySem.W.nsIn K mainGlobals "_law_woven" = some (some (.ref f__law_woven)))
    (l__law_woven : K.lookup f__law_woven = some ⟨oc__law_woven, od__law_woven, .func (PySem.W.fnOf "_law_woven" "_law_woven" (defArgs s__law_woven) (defBody s__law_woven) (defScope s__law_woven) .none kV__law_woven dc__law_woven pm__law_woven an__law_woven cd__law_woven ct__law_woven), sl__law_woven⟩)
    (co__law_woven : PySem.W.codeIn K cd__law_woven "_law_woven" = true)
    (k__law_woven : PySem.W.keepIn K (.ref f__law_woven) = true)
    (a__law_triple : PySem.W.nsIn K mainGlobals "_law_triple" = some (some (.ref f__law_triple)))
    (l__law_triple : K.lookup f__law_triple = some ⟨oc__law_triple, od__law_triple, .func (PySem.W.fnOf "_law_triple" "_law_triple" (defArgs s__law_triple) (defBody s__law_triple) (defScope s__law_triple) .none kV__law_triple dc__law_triple pm__law_triple an__law_triple cd__law_triple ct__law_triple), sl__law_triple⟩)
    (co__law_triple : PySem.W.codeIn K cd__law_triple "_law_triple" = true)
    (k__law_triple : PySem.W.keepIn K (.ref f__law_triple) = true)
    (a__law_edit : PySem.W.nsIn K mainGlobals "_law_edit" = some (some (.ref f__law_edit)))
    (l__law_edit : K.lookup f__law_edit = some ⟨oc__law_edit, od__law_edit, .func (PySem.W.fnOf "_law_edit" "_law_edit" (defArgs s__law_edit) (defBody s__law_edit) (defScope s__law_edit) .none kV__law_edit dc__law_edit pm__law_edit an__law_edit cd__law_edit ct__law_edit), sl__law_edit⟩)
    (co__law_edit : PySem.W.codeIn K cd__law_edit "_law_edit" = true)
    (k__law_edit : PySem.W.keepIn K (.ref f__law_edit) = true)
    (a__law_edited : PySem.W.nsIn K mainGlobals "_law_edited" = some (some (.ref f__law_edited)))
    (l__law_edited : K.lookup f__law_edited = some ⟨oc__law_edited, od__law_edited, .func (PySem.W.fnOf "_law_edited" "_law_edited" (defArgs s__law_edited) (defBody s__law_edited) (defScope s__law_edited) .none kV__law_edited dc__law_edited pm__law_edited an__law_edited cd__law_edited ct__law_edited), sl__law_edited⟩)
    (co__law_edited : PySem.W.codeIn K cd__law_edited "_law_edited" = true)
    (k__law_edited : PySem.W.keepIn K (.ref f__law_edited) = true)
    (a__law_same : PySem.W.nsIn K mainGlobals "_law_same" = some (some (.ref f__law_same)))
    (l__law_same : K.lookup f__law_same = some ⟨oc__law_same, od__law_same, .func (PySem.W.fnOf "_law_same" "_law_same" (defArgs s__law_same) (defBody s__law_same) (defScope s__law_same) .none kV__law_same dc__law_same pm__law_same an__law_same cd__law_same ct__law_same), sl__law_same⟩)
    (co__law_same : PySem.W.codeIn K cd__law_same "_law_same" = true)
    (k__law_same : PySem.W.keepIn K (.ref f__law_same) = true)
    (a__law_told : PySem.W.nsIn K mainGlobals "_law_told" = some (some (.ref f__law_told)))
    (l__law_told : K.lookup f__law_told = some ⟨oc__law_told, od__law_told, .func (PySem.W.fnOf "_law_told" "_law_told" (defArgs s__law_told) (defBody s__law_told) (defScope s__law_told) .none kV__law_told dc__law_told pm__law_told an__law_told cd__law_told ct__law_told), sl__law_told⟩)
    (co__law_told : PySem.W.codeIn K cd__law_told "_law_told" = true)
    (k__law_told : PySem.W.keepIn K (.ref f__law_told) = true)
    (a__law_refused : PySem.W.nsIn K mainGlobals "_law_refused" = some (some (.ref f__law_refused)))
    (l__law_refused : K.lookup f__law_refused = some ⟨oc__law_refused, od__law_refused, .func (PySem.W.fnOf "_law_refused" "_law_refused" (defArgs s__law_refused) (defBody s__law_refused) (defScope s__law_refused) .none kV__law_refused dc__law_refused pm__law_refused an__law_refused cd__law_refused ct__law_refused), sl__law_refused⟩)
    (co__law_refused : PySem.W.codeIn K cd__law_refused "_law_refused" = true)
    (k__law_refused : PySem.W.keepIn K (.ref f__law_refused) = true)
    (a__law_odd : PySem.W.nsIn K mainGlobals "_law_odd" = some (some (.ref f__law_odd)))
    (l__law_odd : K.lookup f__law_odd = some ⟨oc__law_odd, od__law_odd, .func (PySem.W.fnOf "_law_odd" "_law_odd" (defArgs s__law_odd) (defBody s__law_odd) (defScope s__law_odd) .none kV__law_odd dc__law_odd pm__law_odd an__law_odd cd__law_odd ct__law_odd), sl__law_odd⟩)
    (co__law_odd : PySem.W.codeIn K cd__law_odd "_law_odd" = true)
    (k__law_odd : PySem.W.keepIn K (.ref f__law_odd) = true)
    (a__law_no_triple : PySem.W.nsIn K mainGlobals "_law_no_triple" = some (some (.ref f__law_no_triple)))
    (l__law_no_triple : K.lookup f__law_no_triple = some ⟨oc__law_no_triple, od__law_no_triple, .func (PySem.W.fnOf "_law_no_triple" "_law_no_triple" (defArgs s__law_no_triple) (defBody s__law_no_triple) (defScope s__law_no_triple) .none kV__law_no_triple dc__law_no_triple pm__law_no_triple an__law_no_triple cd__law_no_triple ct__law_no_triple), sl__law_no_triple⟩)
    (co__law_no_triple : PySem.W.codeIn K cd__law_no_triple "_law_no_triple" = true)
    (k__law_no_triple : PySem.W.keepIn K (.ref f__law_no_triple) = true)
    (a_law : PySem.W.nsIn K mainGlobals "law" = some (some (.ref f_law)))
    (l_law : K.lookup f_law = some ⟨oc_law, od_law, .func (PySem.W.fnOf "law" "law" (defArgs s_law) (defBody s_law) (defScope s_law) .none kV_law dc_law pm_law an_law cd_law ct_law), sl_law⟩)
    (co_law : PySem.W.codeIn K cd_law "law" = true)
    (k_law : PySem.W.keepIn K (.ref f_law) = true)
    (z_ValueError : PySem.W.nsIn K mainGlobals "ValueError" = some none)
    (z_all : PySem.W.nsIn K mainGlobals "all" = some none)
    (z_bool : PySem.W.nsIn K mainGlobals "bool" = some none)
    (z_int : PySem.W.nsIn K mainGlobals "int" = some none)
    (z_isinstance : PySem.W.nsIn K mainGlobals "isinstance" = some none)
    (z_len : PySem.W.nsIn K mainGlobals "len" = some none)
    (z_list : PySem.W.nsIn K mainGlobals "list" = some none)
    (z_range : PySem.W.nsIn K mainGlobals "range" = some none)
    (z_str : PySem.W.nsIn K mainGlobals "str" = some none)
    (z_tuple : PySem.W.nsIn K mainGlobals "tuple" = some none)
    (v_CUT : PySem.W.nsIn K mainGlobals "CUT" = some (some (.str "cut" t1)))
    (v_LETTERS : PySem.W.nsIn K mainGlobals "LETTERS" = some (some (.str "abcdefghijklmnopqrstuvwxyz" t2)))
    (v_PLACES : PySem.W.nsIn K mainGlobals "PLACES" = some (some (.str "xyz" t3)))
    (v_PUT : PySem.W.nsIn K mainGlobals "PUT" = some (some (.str "put" t4)))
    (v_TURN : PySem.W.nsIn K mainGlobals "TURN" = some (some (.str "turn" t5)))
    (vc_FourthError : PySem.W.nsIn K mainGlobals "FourthError" = some (some (.ref C_FourthError)))
    (kC_FourthError : PySem.W.keepIn K (.ref C_FourthError) = true)
    (eC_FourthError : PySem.W.subIn K (.ref C_FourthError) (.type "BaseException") = some true)
    (tC_FourthError : PySem.W.typeIn K (.ref C_FourthError) = some (.type "type"))
    (iC_FourthError : PySem.W.isClsIn K C_FourthError = true)
    (vc_NoEdit : PySem.W.nsIn K mainGlobals "NoEdit" = some (some (.ref C_NoEdit)))
    (kC_NoEdit : PySem.W.keepIn K (.ref C_NoEdit) = true)
    (eC_NoEdit : PySem.W.subIn K (.ref C_NoEdit) (.type "BaseException") = some true)
    (tC_NoEdit : PySem.W.typeIn K (.ref C_NoEdit) = some (.type "type"))
    (iC_NoEdit : PySem.W.isClsIn K C_NoEdit = true)
    (vc_NoTriple : PySem.W.nsIn K mainGlobals "NoTriple" = some (some (.ref C_NoTriple)))
    (kC_NoTriple : PySem.W.keepIn K (.ref C_NoTriple) = true)
    (eC_NoTriple : PySem.W.subIn K (.ref C_NoTriple) (.type "BaseException") = some true)
    (tC_NoTriple : PySem.W.typeIn K (.ref C_NoTriple) = some (.type "type"))
    (iC_NoTriple : PySem.W.isClsIn K C_NoTriple = true)
    (xP_NoEdit : PySem.W.excIn K C_NoEdit [.type "ValueError", .type "Exception", .type "BaseException", .type "object"] "ValueError.__new__" = true)
    (xP_NoTriple : PySem.W.excIn K C_NoTriple [.type "ValueError", .type "Exception", .type "BaseException", .type "object"] "ValueError.__new__" = true)
    (ga_NoTriple : PySem.W.findIn K (.ref C_NoTriple) "__getattribute__" = some (some (.builtin "BaseException.__getattribute__")))
    (gg_NoTriple : PySem.W.findIn K (.ref C_NoTriple) "__getattr__" = some none)
    (hd_NoTriple : PySem.W.hasDictIn K C_NoTriple = true)
    (cc_NoTriple : PySem.W.findIn K (.ref C_NoTriple) "__class__" = some (some (.builtin "object.__class__")))
    (mr_NoTriple : PySem.W.mroIn K C_NoTriple (.type "object") = some true)
    (sg : PySem.W.specialIn K (.builtin "object.__class__") "__get__" = some (some (.builtin "getset_descriptor.__get__")))
    (tk : PySem.W.takesIn K (.builtin "object.__class__") = some true)
    (s_NoEdit_NoEdit : PySem.W.subIn K (.ref C_NoEdit) (.ref C_NoEdit) = some true)
    (s_NoEdit_NoTriple : PySem.W.subIn K (.ref C_NoEdit) (.ref C_NoTriple) = some false)
    (s_NoTriple_NoEdit : PySem.W.subIn K (.ref C_NoTriple) (.ref C_NoEdit) = some false)
    (s_NoTriple_NoTriple : PySem.W.subIn K (.ref C_NoTriple) (.ref C_NoTriple) = some true)
    (s_NoTriple_FourthError : PySem.W.subIn K (.ref C_NoTriple) (.ref C_FourthError) = some true)
    (ne_NoTriple_NoEdit : C_NoTriple ≠ C_NoEdit)
    (s_NoTriple_ValueError : PySem.W.subIn K (.ref C_NoTriple) (.type "ValueError") = some true)
    : ∃ fd : FuncData, (∀ (s : Shared) (v : Value), BindsTo s fd ⟨[v], []⟩ [("script", v)]) ∧ ∀ base : Heap, K.In base → base.Ns mainGlobals mg → FnOk P w K mg base (L2.CX P w) 7 fa fd ["script"] (spD K mg den_law) := by
  have e := hfa.symm.trans (PySem.W.mg_of X G a_law)
  cases e
  have F_is_integer := fun_mk (st := s_is_integer) l_is_integer co_is_integer k_is_integer
  have F_is_within := fun_mk (st := s_is_within) l_is_within co_is_within k_is_within
  have F_is_tuple := fun_mk (st := s_is_tuple) l_is_tuple co_is_tuple k_is_tuple
  have F_is_word := fun_mk (st := s_is_word) l_is_word co_is_word k_is_word
  have F_is_triple := fun_mk (st := s_is_triple) l_is_triple co_is_triple k_is_triple
  have F_check_triple := fun_mk (st := s_check_triple) l_check_triple co_check_triple k_check_triple
  have F_is_letter := fun_mk (st := s_is_letter) l_is_letter co_is_letter k_is_letter
  have F_raw_is_edit := fun_mk (st := s_raw_is_edit) l_raw_is_edit co_raw_is_edit k_raw_is_edit
  have F_is_edit := fun_mk (st := s_is_edit) l_is_edit co_is_edit k_is_edit
  have F_raw_edited := fun_mk (st := s_raw_edited) l_raw_edited co_raw_edited k_raw_edited
  have F_check_edit := fun_mk (st := s_check_edit) l_check_edit co_check_edit k_check_edit
  have F_edited := fun_mk (st := s_edited) l_edited co_edited k_edited
  have F__law_numbers := fun_mk (st := s__law_numbers) l__law_numbers co__law_numbers k__law_numbers
  have F__law_letters := fun_mk (st := s__law_letters) l__law_letters co__law_letters k__law_letters
  have F__law_woven := fun_mk (st := s__law_woven) l__law_woven co__law_woven k__law_woven
  have F__law_triple := fun_mk (st := s__law_triple) l__law_triple co__law_triple k__law_triple
  have F__law_edit := fun_mk (st := s__law_edit) l__law_edit co__law_edit k__law_edit
  have F__law_edited := fun_mk (st := s__law_edited) l__law_edited co__law_edited k__law_edited
  have F__law_same := fun_mk (st := s__law_same) l__law_same co__law_same k__law_same
  have F__law_told := fun_mk (st := s__law_told) l__law_told co__law_told k__law_told
  have F__law_refused := fun_mk (st := s__law_refused) l__law_refused co__law_refused k__law_refused
  have F__law_odd := fun_mk (st := s__law_odd) l__law_odd co__law_odd k__law_odd
  have F__law_no_triple := fun_mk (st := s__law_no_triple) l__law_no_triple co__law_no_triple k__law_no_triple
  have F_law := fun_mk (st := s_law) l_law co_law k_law
  refine ⟨PySem.W.fnOf "law" "law" (defArgs s_law) (defBody s_law) (defScope s_law) .none kV_law dc_law pm_law an_law cd_law ct_law, fun s v => .of_eq rfl, fun base _ _ => ?_⟩
  exact ok_law (A := { f_is_integer := _, fd_is_integer := _, f_is_within := _, fd_is_within := _, f_is_tuple := _, fd_is_tuple := _, f_is_word := _, fd_is_word := _, f_is_triple := _, fd_is_triple := _, f_check_triple := _, fd_check_triple := _, f_is_letter := _, fd_is_letter := _, f_raw_is_edit := _, fd_raw_is_edit := _, f_is_edit := _, fd_is_edit := _, f_raw_edited := _, fd_raw_edited := _, f_check_edit := _, fd_check_edit := _, f_edited := _, fd_edited := _, f__law_numbers := _, fd__law_numbers := _, f__law_letters := _, fd__law_letters := _, f__law_woven := _, fd__law_woven := _, f__law_triple := _, fd__law_triple := _, f__law_edit := _, fd__law_edit := _, f__law_edited := _, fd__law_edited := _, f__law_same := _, fd__law_same := _, f__law_told := _, fd__law_told := _, f__law_refused := _, fd__law_refused := _, f__law_odd := _, fd__law_odd := _, f__law_no_triple := _, fd__law_no_triple := _, f_law := _, fd_law := _, c_FourthError := C_FourthError, c_NoEdit := C_NoEdit, c_NoTriple := C_NoTriple })
    { F_is_integer := F_is_integer,
      m_is_integer := PySem.W.mg_of X G a_is_integer,
      b_is_integer := F_is_integer.binds (ps := ["thing"]) fun _ _ _ _ _ _ us hl => match us, hl with | [_], _ => rfl,
      F_is_within := F_is_within,
      m_is_within := PySem.W.mg_of X G a_is_within,
      b_is_within := F_is_within.binds (ps := ["thing", "low", "high"]) fun _ _ _ _ _ _ us hl => match us, hl with | [_, _, _], _ => rfl,
      F_is_tuple := F_is_tuple,
      m_is_tuple := PySem.W.mg_of X G a_is_tuple,
      b_is_tuple := F_is_tuple.binds (ps := ["thing", "least", "most"]) fun _ _ _ _ _ _ us hl => match us, hl with | [_, _, _], _ => rfl,
      F_is_word := F_is_word,
      m_is_word := PySem.W.mg_of X G a_is_word,
      b_is_word := F_is_word.binds (ps := ["thing"]) fun _ _ _ _ _ _ us hl => match us, hl with | [_], _ => rfl,
      F_is_triple := F_is_triple,
      m_is_triple := PySem.W.mg_of X G a_is_triple,
      b_is_triple := F_is_triple.binds (ps := ["thing"]) fun _ _ _ _ _ _ us hl => match us, hl with | [_], _ => rfl,
      F_check_triple := F_check_triple,
      m_check_triple := PySem.W.mg_of X G a_check_triple,
      b_check_triple := F_check_triple.binds (ps := ["triple"]) fun _ _ _ _ _ _ us hl => match us, hl with | [_], _ => rfl,
      F_is_letter := F_is_letter,
      m_is_letter := PySem.W.mg_of X G a_is_letter,
      b_is_letter := F_is_letter.binds (ps := ["thing"]) fun _ _ _ _ _ _ us hl => match us, hl with | [_], _ => rfl,
      F_raw_is_edit := F_raw_is_edit,
      m_raw_is_edit := PySem.W.mg_of X G a_raw_is_edit,
      b_raw_is_edit := F_raw_is_edit.binds (ps := ["triple", "thing"]) fun _ _ _ _ _ _ us hl => match us, hl with | [_, _], _ => rfl,
      F_is_edit := F_is_edit,
      m_is_edit := PySem.W.mg_of X G a_is_edit,
      b_is_edit := F_is_edit.binds (ps := ["triple", "thing"]) fun _ _ _ _ _ _ us hl => match us, hl with | [_, _], _ => rfl,
      F_raw_edited := F_raw_edited,
      m_raw_edited := PySem.W.mg_of X G a_raw_edited,
      b_raw_edited := F_raw_edited.binds (ps := ["triple", "edit"]) fun _ _ _ _ _ _ us hl => match us, hl with | [_, _], _ => rfl,
      F_check_edit := F_check_edit,
      m_check_edit := PySem.W.mg_of X G a_check_edit,
      b_check_edit := F_check_edit.binds (ps := ["triple", "edit"]) fun _ _ _ _ _ _ us hl => match us, hl with | [_, _], _ => rfl,
      F_edited := F_edited,
      m_edited := PySem.W.mg_of X G a_edited,
      b_edited := F_edited.binds (ps := ["triple", "edit"]) fun _ _ _ _ _ _ us hl => match us, hl with | [_, _], _ => rfl,
      F__law_numbers := F__law_numbers,
      m__law_numbers := PySem.W.mg_of X G a__law_numbers,
      b__law_numbers := F__law_numbers.binds (ps := ["script", "thing"]) fun _ _ _ _ _ _ us hl => match us, hl with | [_, _], _ => rfl,
      F__law_letters := F__law_letters,
      m__law_letters := PySem.W.mg_of X G a__law_letters,
      b__law_letters := F__law_letters.binds (ps := ["number"]) fun _ _ _ _ _ _ us hl => match us, hl with | [_], _ => rfl,
      F__law_woven := F__law_woven,
      m__law_woven := PySem.W.mg_of X G a__law_woven,
      b__law_woven := F__law_woven.binds (ps := ["xs", "many", "letters"]) fun _ _ _ _ _ _ us hl => match us, hl with | [_, _, _], _ => rfl,
      F__law_triple := F__law_triple,
      m__law_triple := PySem.W.mg_of X G a__law_triple,
      b__law_triple := F__law_triple.binds (ps := ["script", "base"]) fun _ _ _ _ _ _ us hl => match us, hl with | [_, _], _ => rfl,
      F__law_edit := F__law_edit,
      m__law_edit := PySem.W.mg_of X G a__law_edit,
      b__law_edit := F__law_edit.binds (ps := ["triple", "number", "letters"]) fun _ _ _ _ _ _ us hl => match us, hl with | [_, _, _], _ => rfl,
      F__law_edited := F__law_edited,
      m__law_edited := PySem.W.mg_of X G a__law_edited,
      b__law_edited := F__law_edited.binds (ps := ["triple", "edit"]) fun _ _ _ _ _ _ us hl => match us, hl with | [_, _], _ => rfl,
      F__law_same := F__law_same,
      m__law_same := PySem.W.mg_of X G a__law_same,
      b__law_same := F__law_same.binds (ps := ["found", "due"]) fun _ _ _ _ _ _ us hl => match us, hl with | [_, _], _ => rfl,
      F__law_told := F__law_told,
      m__law_told := PySem.W.mg_of X G a__law_told,
      b__law_told := F__law_told.binds (ps := ["triple", "edit"]) fun _ _ _ _ _ _ us hl => match us, hl with | [_, _], _ => rfl,
      F__law_refused := F__law_refused,
      m__law_refused := PySem.W.mg_of X G a__law_refused,
      b__law_refused := F__law_refused.binds (ps := ["triple"]) fun _ _ _ _ _ _ us hl => match us, hl with | [_], _ => rfl,
      F__law_odd := F__law_odd,
      m__law_odd := PySem.W.mg_of X G a__law_odd,
      b__law_odd := F__law_odd.binds (ps := ["triple", "edit", "number"]) fun _ _ _ _ _ _ us hl => match us, hl with | [_, _, _], _ => rfl,
      F__law_no_triple := F__law_no_triple,
      m__law_no_triple := PySem.W.mg_of X G a__law_no_triple,
      b__law_no_triple := F__law_no_triple.binds (ps := ["triple", "number"]) fun _ _ _ _ _ _ us hl => match us, hl with | [_, _], _ => rfl,
      F_law := F_law,
      m_law := PySem.W.mg_of X G a_law,
      b_law := F_law.binds (ps := ["script"]) fun _ _ _ _ _ _ us hl => match us, hl with | [_], _ => rfl,
      n_ValueError := PySem.W.mg_none_of X G z_ValueError,
      n_all := PySem.W.mg_none_of X G z_all,
      n_bool := PySem.W.mg_none_of X G z_bool,
      n_int := PySem.W.mg_none_of X G z_int,
      n_isinstance := PySem.W.mg_none_of X G z_isinstance,
      n_len := PySem.W.mg_none_of X G z_len,
      n_list := PySem.W.mg_none_of X G z_list,
      n_range := PySem.W.mg_none_of X G z_range,
      n_str := PySem.W.mg_none_of X G z_str,
      n_tuple := PySem.W.mg_none_of X G z_tuple,
      g_CUT := glob_of (vd_str [99, 117, 116]) (PySem.W.mg_of X G v_CUT),
      g_LETTERS := glob_of (vd_str [97, 98, 99, 100, 101, 102, 103, 104, 105, 106, 107, 108, 109, 110, 111, 112, 113, 114, 115, 116, 117, 118, 119, 120, 121, 122]) (PySem.W.mg_of X G v_LETTERS),
      g_PLACES := glob_of (vd_str [120, 121, 122]) (PySem.W.mg_of X G v_PLACES),
      g_PUT := glob_of (vd_str [112, 117, 116]) (PySem.W.mg_of X G v_PUT),
      g_TURN := glob_of (vd_str [116, 117, 114, 110]) (PySem.W.mg_of X G v_TURN),
      m_FourthError := PySem.W.mg_of X G vc_FourthError,
      m_NoEdit := PySem.W.mg_of X G vc_NoEdit,
      m_NoTriple := PySem.W.mg_of X G vc_NoTriple,
      r_NoEdit := ⟨xP_NoEdit, kC_NoEdit, eC_NoEdit, tC_NoEdit⟩,
      r_NoTriple := ⟨xP_NoTriple, kC_NoTriple, eC_NoTriple, tC_NoTriple⟩,
      xc_NoTriple := ⟨ga_NoTriple, gg_NoTriple, eC_NoTriple, hd_NoTriple, cc_NoTriple, sg, tk, mr_NoTriple⟩,
      e_NoEdit_NoEdit := exm_by eC_NoEdit iC_NoEdit tC_NoEdit s_NoEdit_NoEdit,
      e_NoEdit_NoTriple := exm_by eC_NoTriple iC_NoTriple tC_NoTriple s_NoEdit_NoTriple,
      e_NoTriple_NoEdit := exm_by eC_NoEdit iC_NoEdit tC_NoEdit s_NoTriple_NoEdit,
      e_NoTriple_NoTriple := exm_by eC_NoTriple iC_NoTriple tC_NoTriple s_NoTriple_NoTriple,
      ki_NoTriple_FourthError := kit_cl iC_FourthError tC_FourthError s_NoTriple_FourthError (fun _ => rfl),
      ki_NoTriple_NoEdit := kit_cl iC_NoEdit tC_NoEdit s_NoTriple_NoEdit (fun z => absurd z ne_NoTriple_NoEdit),
      ki_NoTriple_ValueError := kit_bt s_NoTriple_ValueError }
end G

namespace G
open PySem DL
theorem numbers_ok (xs : List Int) (t : Int) (ht : 0 ≤ t) (ht2 : t < 1000) {S0 : Sto} (hS : Cl S0) : ∃ L : List Int, den__law_numbers [.v (.rol (xs.map .int)), .v (.int t)] S0 = some (.ok (.v (.lst (L.map .int))) S0) ∧ L.length = 40 ∧ ∀ z ∈ L, 0 ≤ z ∧ z < 2147483648 := by
  have hS0 := hS _ (Nat.le_refl _)
  have hS1 := hS (S0.length + 1) (by omega)
  have key : wp (den__law_numbers [.v (.rol (xs.map .int)), .v (.int t)] S0) fun r => ∃ L : List Int, r = .ok (.v (.lst (L.map .int))) S0 ∧ L.length = 40 ∧ ∀ z ∈ L, 0 ≤ z ∧ z < 2147483648 := by
    refine fnD_wp rfl ?_
    generalize hQ : (fun o => wp (finO S0.length o) fun r => ∃ L : List Int, r = .ok (.v (.lst (L.map .int))) S0 ∧ L.length = 40 ∧ ∀ z ∈ L, 0 ≤ z ∧ z < 2147483648) = Q
    -- the loop
    have k5 : ∀ cell rest : Int, 0 ≤ rest → wp (su__law_numbers_0_5 [some (.v (.rol (xs.map .int))), some (.v (.int t)), some (.v (.int cell)), some (.v (.int rest)), some (.o S0.length), none, none] (S0 ++ [.lst []])) Q := by
      intro cell rest hrest
      unfold su__law_numbers_0_5
      rw [wp_seq]
      refine wp_for (fun i G S => ∃ (r : Int) (j1 j2 : Option SV) (L : List Int), 0 ≤ r ∧ G = [some (.v (.rol (xs.map .int))), some (.v (.int t)), some (.v (.int cell)), some (.v (.int r)), some (.o S0.length), j1, j2] ∧ S = S0 ++ [.lst (L.map .int)] ∧ L.length = i ∧ ∀ z ∈ L, 0 ≤ z ∧ z < 2147483648) (ds := rngD 0 40) (S1 := S0 ++ [.lst []]) (by simp (decide := true) [wp_seq, wp_some, kQ_nx, kQ_rt, kQ_bk, kQ_ct, kQ_er, kL_nx, kL_ct, kL_bk, kL_rt, kL_er, sAsg, sE, sRet, sRetN, sDrop, sIf, sNext, sBreak, sCont, sRaise, sRaiseF, sPar, sAug, gSet, mVar, Mm.bind, Mm.ret, bin, op2, rd, orD, addD, addI, subI, i2, modI, divI, powI, s2, addS_small, addS_tup, addS_lst, addS_int, catL, catT, mulD, repS, repL, eqD, neD, okD, okDs, eqd, eqds, flatD, eqD, sTry, sHand, noEr, sTryAs, unAs, mFld, mIsE, mRepK, kRepK, cmpI, ltI, leI, gtI, geI, isNone, notNone, isN, asB, asT, truD, mNot, mAnd, mOr, vAnd, vOr, vNot, mIf, mNeg, mTup, mTupZ, frz, mLst, mOwn, mCons, mNil, datas, atD_tup, atD_lst, atD_rol, atD_str, seqOf, mNoPart, asI, mSl, slD_tup, slD_lst, slD_rol, slD_str, mIsI, isT, mCB, rds, mCall, mCall0, mMt, chk, isM, mApp, mExt, lenD_str, lenD_tup, lenD_lst, lenD_rol, intD, listD, tupD, mSrc, srcD, rng1, rng2, gTupD, gsCons, gsNil, mChain, thawG, thaw, snapO, MO.below, List.getElem?_cons_succ, List.getElem?_cons_zero, List.length_cons, List.length_nil, List.set_cons_succ, List.set_cons_zero, Int.natAbs_natCast, mTupRev, mCatO, mListO, gItm, minI, maxI, absI, app_take, app_take0, app_get, app_get0, app_set, app_set0, List.take_length, finO_nx, finO_rt, finO_er, finT, finE, DL.lineN_pos]) ⟨rest, none, none, [], hrest, rfl, rfl, rfl, by simp⟩ ?_ ?_
      · rintro i d G S hd ⟨r, j1, j2, L, hr, rfl, rfl, hL, hz⟩
        obtain ⟨hi, rfl⟩ := rngD_get hd
        generalize hR : kL _ _ _ = R
        have k4 : ∀ n r : Int, 0 ≤ r → 0 ≤ n → n < 2147483648 → wp (su__law_numbers_3_4 [some (.v (.rol (xs.map .int))), some (.v (.int t)), some (.v (.int cell)), some (.v (.int r)), some (.o S0.length), some (.v (.int i)), some (.v (.int n))] (S0 ++ [.lst (L.map .int)])) R := by
          intro n r hr h0 h1
          have hl : L.length < lineN := by unfold lineN; omega
          simp (decide := true) [wp_seq, wp_some, kQ_nx, kQ_rt, kQ_bk, kQ_ct, kQ_er, kL_nx, kL_ct, kL_bk, kL_rt, kL_er, sAsg, sE, sRet, sRetN, sDrop, sIf, sNext, sBreak, sCont, sRaise, sRaiseF, sPar, sAug, gSet, mVar, Mm.bind, Mm.ret, bin, op2, rd, orD, addD, addI, subI, i2, modI, divI, powI, s2, addS_small, addS_tup, addS_lst, addS_int, catL, catT, mulD, repS, repL, eqD, neD, okD, okDs, eqd, eqds, flatD, eqD, sTry, sHand, noEr, sTryAs, unAs, mFld, mIsE, mRepK, kRepK, cmpI, ltI, leI, gtI, geI, isNone, notNone, isN, asB, asT, truD, mNot, mAnd, mOr, vAnd, vOr, vNot, mIf, mNeg, mTup, mTupZ, frz, mLst, mOwn, mCons, mNil, datas, atD_tup, atD_lst, atD_rol, atD_str, seqOf, mNoPart, asI, mSl, slD_tup, slD_lst, slD_rol, slD_str, mIsI, isT, mCB, rds, mCall, mCall0, mMt, chk, isM, mApp, mExt, lenD_str, lenD_tup, lenD_lst, lenD_rol, intD, listD, tupD, mSrc, srcD, rng1, rng2, gTupD, gsCons, gsNil, mChain, thawG, thaw, snapO, MO.below, List.getElem?_cons_succ, List.getElem?_cons_zero, List.length_cons, List.length_nil, List.set_cons_succ, List.set_cons_zero, Int.natAbs_natCast, mTupRev, mCatO, mListO, gItm, minI, maxI, absI, app_take, app_take0, app_get, app_get0, app_set, app_set0, List.take_length, finO_nx, finO_rt, finO_er, finT, finE, su__law_numbers_3_4, hl]
          subst hR
          refine ⟨by simp (decide := true) [wp_seq, wp_some, kQ_nx, kQ_rt, kQ_bk, kQ_ct, kQ_er, kL_nx, kL_ct, kL_bk, kL_rt, kL_er, sAsg, sE, sRet, sRetN, sDrop, sIf, sNext, sBreak, sCont, sRaise, sRaiseF, sPar, sAug, gSet, mVar, Mm.bind, Mm.ret, bin, op2, rd, orD, addD, addI, subI, i2, modI, divI, powI, s2, addS_small, addS_tup, addS_lst, addS_int, catL, catT, mulD, repS, repL, eqD, neD, okD, okDs, eqd, eqds, flatD, eqD, sTry, sHand, noEr, sTryAs, unAs, mFld, mIsE, mRepK, kRepK, cmpI, ltI, leI, gtI, geI, isNone, notNone, isN, asB, asT, truD, mNot, mAnd, mOr, vAnd, vOr, vNot, mIf, mNeg, mTup, mTupZ, frz, mLst, mOwn, mCons, mNil, datas, atD_tup, atD_lst, atD_rol, atD_str, seqOf, mNoPart, asI, mSl, slD_tup, slD_lst, slD_rol, slD_str, mIsI, isT, mCB, rds, mCall, mCall0, mMt, chk, isM, mApp, mExt, lenD_str, lenD_tup, lenD_lst, lenD_rol, intD, listD, tupD, mSrc, srcD, rng1, rng2, gTupD, gsCons, gsNil, mChain, thawG, thaw, snapO, MO.below, List.getElem?_cons_succ, List.getElem?_cons_zero, List.length_cons, List.length_nil, List.set_cons_succ, List.set_cons_zero, Int.natAbs_natCast, mTupRev, mCatO, mListO, gItm, minI, maxI, absI, app_take, app_take0, app_get, app_get0, app_set, app_set0, List.take_length, finO_nx, finO_rt, finO_er, finT, finE, hS.lst (L.map D.int ++ [D.int n]) _ (Nat.le_refl _), hS (S0.length + 1) (by omega)], r, some (.v (.int i)), some (.v (.int n)), L ++ [n], hr, by simp (decide := true) [wp_seq, wp_some, kQ_nx, kQ_rt, kQ_bk, kQ_ct, kQ_er, kL_nx, kL_ct, kL_bk, kL_rt, kL_er, sAsg, sE, sRet, sRetN, sDrop, sIf, sNext, sBreak, sCont, sRaise, sRaiseF, sPar, sAug, gSet, mVar, Mm.bind, Mm.ret, bin, op2, rd, orD, addD, addI, subI, i2, modI, divI, powI, s2, addS_small, addS_tup, addS_lst, addS_int, catL, catT, mulD, repS, repL, eqD, neD, okD, okDs, eqd, eqds, flatD, eqD, sTry, sHand, noEr, sTryAs, unAs, mFld, mIsE, mRepK, kRepK, cmpI, ltI, leI, gtI, geI, isNone, notNone, isN, asB, asT, truD, mNot, mAnd, mOr, vAnd, vOr, vNot, mIf, mNeg, mTup, mTupZ, frz, mLst, mOwn, mCons, mNil, datas, atD_tup, atD_lst, atD_rol, atD_str, seqOf, mNoPart, asI, mSl, slD_tup, slD_lst, slD_rol, slD_str, mIsI, isT, mCB, rds, mCall, mCall0, mMt, chk, isM, mApp, mExt, lenD_str, lenD_tup, lenD_lst, lenD_rol, intD, listD, tupD, mSrc, srcD, rng1, rng2, gTupD, gsCons, gsNil, mChain, thawG, thaw, snapO, MO.below, List.getElem?_cons_succ, List.getElem?_cons_zero, List.length_cons, List.length_nil, List.set_cons_succ, List.set_cons_zero, Int.natAbs_natCast, mTupRev, mCatO, mListO, gItm, minI, maxI, absI, app_take, app_take0, app_get, app_get0, app_set, app_set0, List.take_length, finO_nx, finO_rt, finO_er, finT, finE, DL.lineN_pos], by simp (decide := true) [wp_seq, wp_some, kQ_nx, kQ_rt, kQ_bk, kQ_ct, kQ_er, kL_nx, kL_ct, kL_bk, kL_rt, kL_er, sAsg, sE, sRet, sRetN, sDrop, sIf, sNext, sBreak, sCont, sRaise, sRaiseF, sPar, sAug, gSet, mVar, Mm.bind, Mm.ret, bin, op2, rd, orD, addD, addI, subI, i2, modI, divI, powI, s2, addS_small, addS_tup, addS_lst, addS_int, catL, catT, mulD, repS, repL, eqD, neD, okD, okDs, eqd, eqds, flatD, eqD, sTry, sHand, noEr, sTryAs, unAs, mFld, mIsE, mRepK, kRepK, cmpI, ltI, leI, gtI, geI, isNone, notNone, isN, asB, asT, truD, mNot, mAnd, mOr, vAnd, vOr, vNot, mIf, mNeg, mTup, mTupZ, frz, mLst, mOwn, mCons, mNil, datas, atD_tup, atD_lst, atD_rol, atD_str, seqOf, mNoPart, asI, mSl, slD_tup, slD_lst, slD_rol, slD_str, mIsI, isT, mCB, rds, mCall, mCall0, mMt, chk, isM, mApp, mExt, lenD_str, lenD_tup, lenD_lst, lenD_rol, intD, listD, tupD, mSrc, srcD, rng1, rng2, gTupD, gsCons, gsNil, mChain, thawG, thaw, snapO, MO.below, List.getElem?_cons_succ, List.getElem?_cons_zero, List.length_cons, List.length_nil, List.set_cons_succ, List.set_cons_zero, Int.natAbs_natCast, mTupRev, mCatO, mListO, gItm, minI, maxI, absI, app_take, app_take0, app_get, app_get0, app_set, app_set0, List.take_length, finO_nx, finO_rt, finO_er, finT, finE, DL.lineN_pos], by simp [hL], ?_⟩
          intro z hm
          rcases List.mem_append.mp hm with h | h
          · exact hz z h
          · simp at h; subst h; exact ⟨h0, h1⟩
        have k3 : ∀ n : Int, 0 ≤ n → n < 2147483648 → wp (su__law_numbers_3_3 [some (.v (.rol (xs.map .int))), some (.v (.int t)), some (.v (.int cell)), some (.v (.int r)), some (.o S0.length), some (.v (.int i)), some (.v (.int n))] (S0 ++ [.lst (L.map .int)])) R := by
          intro n h0 h1
          simp (decide := true) [wp_seq, wp_some, kQ_nx, kQ_rt, kQ_bk, kQ_ct, kQ_er, kL_nx, kL_ct, kL_bk, kL_rt, kL_er, sAsg, sE, sRet, sRetN, sDrop, sIf, sNext, sBreak, sCont, sRaise, sRaiseF, sPar, sAug, gSet, mVar, Mm.bind, Mm.ret, bin, op2, rd, orD, addD, addI, subI, i2, modI, divI, powI, s2, addS_small, addS_tup, addS_lst, addS_int, catL, catT, mulD, repS, repL, eqD, neD, okD, okDs, eqd, eqds, flatD, eqD, sTry, sHand, noEr, sTryAs, unAs, mFld, mIsE, mRepK, kRepK, cmpI, ltI, leI, gtI, geI, isNone, notNone, isN, asB, asT, truD, mNot, mAnd, mOr, vAnd, vOr, vNot, mIf, mNeg, mTup, mTupZ, frz, mLst, mOwn, mCons, mNil, datas, atD_tup, atD_lst, atD_rol, atD_str, seqOf, mNoPart, asI, mSl, slD_tup, slD_lst, slD_rol, slD_str, mIsI, isT, mCB, rds, mCall, mCall0, mMt, chk, isM, mApp, mExt, lenD_str, lenD_tup, lenD_lst, lenD_rol, intD, listD, tupD, mSrc, srcD, rng1, rng2, gTupD, gsCons, gsNil, mChain, thawG, thaw, snapO, MO.below, List.getElem?_cons_succ, List.getElem?_cons_zero, List.length_cons, List.length_nil, List.set_cons_succ, List.set_cons_zero, Int.natAbs_natCast, mTupRev, mCatO, mListO, gItm, minI, maxI, absI, app_take, app_take0, app_get, app_get0, app_set, app_set0, List.take_length, finO_nx, finO_rt, finO_er, finT, finE, su__law_numbers_3_3]
          by_cases c : 0 < r
          · have l2 : Nat.log2 1000000007 < 9000 := by decide +kernel
            simp (decide := true) [wp_seq, wp_some, kQ_nx, kQ_rt, kQ_bk, kQ_ct, kQ_er, kL_nx, kL_ct, kL_bk, kL_rt, kL_er, sAsg, sE, sRet, sRetN, sDrop, sIf, sNext, sBreak, sCont, sRaise, sRaiseF, sPar, sAug, gSet, mVar, Mm.bind, Mm.ret, bin, op2, rd, orD, addD, addI, subI, i2, modI, divI, powI, s2, addS_small, addS_tup, addS_lst, addS_int, catL, catT, mulD, repS, repL, eqD, neD, okD, okDs, eqd, eqds, flatD, eqD, sTry, sHand, noEr, sTryAs, unAs, mFld, mIsE, mRepK, kRepK, cmpI, ltI, leI, gtI, geI, isNone, notNone, isN, asB, asT, truD, mNot, mAnd, mOr, vAnd, vOr, vNot, mIf, mNeg, mTup, mTupZ, frz, mLst, mOwn, mCons, mNil, datas, atD_tup, atD_lst, atD_rol, atD_str, seqOf, mNoPart, asI, mSl, slD_tup, slD_lst, slD_rol, slD_str, mIsI, isT, mCB, rds, mCall, mCall0, mMt, chk, isM, mApp, mExt, lenD_str, lenD_tup, lenD_lst, lenD_rol, intD, listD, tupD, mSrc, srcD, rng1, rng2, gTupD, gsCons, gsNil, mChain, thawG, thaw, snapO, MO.below, List.getElem?_cons_succ, List.getElem?_cons_zero, List.length_cons, List.length_nil, List.set_cons_succ, List.set_cons_zero, Int.natAbs_natCast, mTupRev, mCatO, mListO, gItm, minI, maxI, absI, app_take, app_take0, app_get, app_get0, app_set, app_set0, List.take_length, finO_nx, finO_rt, finO_er, finT, finE, c, l2, su__law_numbers_4_0, su__law_numbers_4_1]
            exact k4 _ _ (by omega) (by omega) (by omega)
          · simp (decide := true) [wp_seq, wp_some, kQ_nx, kQ_rt, kQ_bk, kQ_ct, kQ_er, kL_nx, kL_ct, kL_bk, kL_rt, kL_er, sAsg, sE, sRet, sRetN, sDrop, sIf, sNext, sBreak, sCont, sRaise, sRaiseF, sPar, sAug, gSet, mVar, Mm.bind, Mm.ret, bin, op2, rd, orD, addD, addI, subI, i2, modI, divI, powI, s2, addS_small, addS_tup, addS_lst, addS_int, catL, catT, mulD, repS, repL, eqD, neD, okD, okDs, eqd, eqds, flatD, eqD, sTry, sHand, noEr, sTryAs, unAs, mFld, mIsE, mRepK, kRepK, cmpI, ltI, leI, gtI, geI, isNone, notNone, isN, asB, asT, truD, mNot, mAnd, mOr, vAnd, vOr, vNot, mIf, mNeg, mTup, mTupZ, frz, mLst, mOwn, mCons, mNil, datas, atD_tup, atD_lst, atD_rol, atD_str, seqOf, mNoPart, asI, mSl, slD_tup, slD_lst, slD_rol, slD_str, mIsI, isT, mCB, rds, mCall, mCall0, mMt, chk, isM, mApp, mExt, lenD_str, lenD_tup, lenD_lst, lenD_rol, intD, listD, tupD, mSrc, srcD, rng1, rng2, gTupD, gsCons, gsNil, mChain, thawG, thaw, snapO, MO.below, List.getElem?_cons_succ, List.getElem?_cons_zero, List.length_cons, List.length_nil, List.set_cons_succ, List.set_cons_zero, Int.natAbs_natCast, mTupRev, mCatO, mListO, gItm, minI, maxI, absI, app_take, app_take0, app_get, app_get0, app_set, app_set0, List.take_length, finO_nx, finO_rt, finO_er, finT, finE, c]
            exact k4 _ _ hr h0 h1
        have k2 : ∀ n : Int, 0 ≤ n → n < 2147483648 → wp (su__law_numbers_3_2 [some (.v (.rol (xs.map .int))), some (.v (.int t)), some (.v (.int cell)), some (.v (.int r)), some (.o S0.length), some (.v (.int i)), some (.v (.int n))] (S0 ++ [.lst (L.map .int)])) R := by
          intro n h0 h1
          have l2 : Nat.log2 2003 < 9000 := by decide +kernel
          simp (decide := true) (disch := (first | omega | ((try simp only [List.length_append, List.length_cons, List.length_nil, List.length_take, List.length_drop, lineN_eq]); omega))) [wp_seq, wp_some, kQ_nx, kQ_rt, kQ_bk, kQ_ct, kQ_er, kL_nx, kL_ct, kL_bk, kL_rt, kL_er, sAsg, sE, sRet, sRetN, sDrop, sIf, sNext, sBreak, sCont, sRaise, sRaiseF, sPar, sAug, gSet, mVar, Mm.bind, Mm.ret, bin, op2, rd, orD, addD, addI, subI, i2, modI, divI, powI, s2, addS_small, addS_tup, addS_lst, addS_int, catL, catT, mulD, repS, repL, eqD, neD, okD, okDs, eqd, eqds, flatD, eqD, sTry, sHand, noEr, sTryAs, unAs, mFld, mIsE, mRepK, kRepK, cmpI, ltI, leI, gtI, geI, isNone, notNone, isN, asB, asT, truD, mNot, mAnd, mOr, vAnd, vOr, vNot, mIf, mNeg, mTup, mTupZ, frz, mLst, mOwn, mCons, mNil, datas, atD_tup, atD_lst, atD_rol, atD_str, seqOf, mNoPart, asI, mSl, slD_tup, slD_lst, slD_rol, slD_str, mIsI, isT, mCB, rds, mCall, mCall0, mMt, chk, isM, mApp, mExt, lenD_str, lenD_tup, lenD_lst, lenD_rol, intD, listD, tupD, mSrc, srcD, rng1, rng2, gTupD, gsCons, gsNil, mChain, thawG, thaw, snapO, MO.below, List.getElem?_cons_succ, List.getElem?_cons_zero, List.length_cons, List.length_nil, List.set_cons_succ, List.set_cons_zero, Int.natAbs_natCast, mTupRev, mCatO, mListO, gItm, minI, maxI, absI, app_take, app_take0, app_get, app_get0, app_set, app_set0, List.take_length, finO_nx, finO_rt, finO_er, finT, finE, mulI_small, l2, su__law_numbers_3_2]
          exact k3 _ (by omega) (by omega)
        have k1 : ∀ n : Int, 0 ≤ n → n < 2147483648 → wp (su__law_numbers_3_1 [some (.v (.rol (xs.map .int))), some (.v (.int t)), some (.v (.int cell)), some (.v (.int r)), some (.o S0.length), some (.v (.int i)), some (.v (.int n))] (S0 ++ [.lst (L.map .int)])) R := by
          intro n h0 h1
          have l2 : Nat.log2 1009 < 9000 := by decide +kernel
          simp (decide := true) (disch := (first | omega | ((try simp only [List.length_append, List.length_cons, List.length_nil, List.length_take, List.length_drop, lineN_eq]); omega))) [wp_seq, wp_some, kQ_nx, kQ_rt, kQ_bk, kQ_ct, kQ_er, kL_nx, kL_ct, kL_bk, kL_rt, kL_er, sAsg, sE, sRet, sRetN, sDrop, sIf, sNext, sBreak, sCont, sRaise, sRaiseF, sPar, sAug, gSet, mVar, Mm.bind, Mm.ret, bin, op2, rd, orD, addD, addI, subI, i2, modI, divI, powI, s2, addS_small, addS_tup, addS_lst, addS_int, catL, catT, mulD, repS, repL, eqD, neD, okD, okDs, eqd, eqds, flatD, eqD, sTry, sHand, noEr, sTryAs, unAs, mFld, mIsE, mRepK, kRepK, cmpI, ltI, leI, gtI, geI, isNone, notNone, isN, asB, asT, truD, mNot, mAnd, mOr, vAnd, vOr, vNot, mIf, mNeg, mTup, mTupZ, frz, mLst, mOwn, mCons, mNil, datas, atD_tup, atD_lst, atD_rol, atD_str, seqOf, mNoPart, asI, mSl, slD_tup, slD_lst, slD_rol, slD_str, mIsI, isT, mCB, rds, mCall, mCall0, mMt, chk, isM, mApp, mExt, lenD_str, lenD_tup, lenD_lst, lenD_rol, intD, listD, tupD, mSrc, srcD, rng1, rng2, gTupD, gsCons, gsNil, mChain, thawG, thaw, snapO, MO.below, List.getElem?_cons_succ, List.getElem?_cons_zero, List.length_cons, List.length_nil, List.set_cons_succ, List.set_cons_zero, Int.natAbs_natCast, mTupRev, mCatO, mListO, gItm, minI, maxI, absI, app_take, app_take0, app_get, app_get0, app_set, app_set0, List.take_length, finO_nx, finO_rt, finO_er, finT, finE, mulI_small, l2, su__law_numbers_3_1]
          exact k2 _ (by omega) (by omega)
        simp (decide := true) (disch := (first | omega | ((try simp only [List.length_append, List.length_cons, List.length_nil, List.length_take, List.length_drop, lineN_eq]); omega))) [wp_seq, wp_some, kQ_nx, kQ_rt, kQ_bk, kQ_ct, kQ_er, kL_nx, kL_ct, kL_bk, kL_rt, kL_er, sAsg, sE, sRet, sRetN, sDrop, sIf, sNext, sBreak, sCont, sRaise, sRaiseF, sPar, sAug, gSet, mVar, Mm.bind, Mm.ret, bin, op2, rd, orD, addD, addI, subI, i2, modI, divI, powI, s2, addS_small, addS_tup, addS_lst, addS_int, catL, catT, mulD, repS, repL, eqD, neD, okD, okDs, eqd, eqds, flatD, eqD, sTry, sHand, noEr, sTryAs, unAs, mFld, mIsE, mRepK, kRepK, cmpI, ltI, leI, gtI, geI, isNone, notNone, isN, asB, asT, truD, mNot, mAnd, mOr, vAnd, vOr, vNot, mIf, mNeg, mTup, mTupZ, frz, mLst, mOwn, mCons, mNil, datas, atD_tup, atD_lst, atD_rol, atD_str, seqOf, mNoPart, asI, mSl, slD_tup, slD_lst, slD_rol, slD_str, mIsI, isT, mCB, rds, mCall, mCall0, mMt, chk, isM, mApp, mExt, lenD_str, lenD_tup, lenD_lst, lenD_rol, intD, listD, tupD, mSrc, srcD, rng1, rng2, gTupD, gsCons, gsNil, mChain, thawG, thaw, snapO, MO.below, List.getElem?_cons_succ, List.getElem?_cons_zero, List.length_cons, List.length_nil, List.set_cons_succ, List.set_cons_zero, Int.natAbs_natCast, mTupRev, mCatO, mListO, gItm, minI, maxI, absI, app_take, app_take0, app_get, app_get0, app_set, app_set0, List.take_length, finO_nx, finO_rt, finO_er, finT, finE, mulI_small, su__law_numbers_3_0]
        exact k1 _ (by omega) (by omega)
      · rintro G S ⟨r, j1, j2, L, hr, rfl, rfl, hL, hz⟩
        simp (decide := true) [wp_seq, wp_some, kQ_nx, kQ_rt, kQ_bk, kQ_ct, kQ_er, kL_nx, kL_ct, kL_bk, kL_rt, kL_er, sAsg, sE, sRet, sRetN, sDrop, sIf, sNext, sBreak, sCont, sRaise, sRaiseF, sPar, sAug, gSet, mVar, Mm.bind, Mm.ret, bin, op2, rd, orD, addD, addI, subI, i2, modI, divI, powI, s2, addS_small, addS_tup, addS_lst, addS_int, catL, catT, mulD, repS, repL, eqD, neD, okD, okDs, eqd, eqds, flatD, eqD, sTry, sHand, noEr, sTryAs, unAs, mFld, mIsE, mRepK, kRepK, cmpI, ltI, leI, gtI, geI, isNone, notNone, isN, asB, asT, truD, mNot, mAnd, mOr, vAnd, vOr, vNot, mIf, mNeg, mTup, mTupZ, frz, mLst, mOwn, mCons, mNil, datas, atD_tup, atD_lst, atD_rol, atD_str, seqOf, mNoPart, asI, mSl, slD_tup, slD_lst, slD_rol, slD_str, mIsI, isT, mCB, rds, mCall, mCall0, mMt, chk, isM, mApp, mExt, lenD_str, lenD_tup, lenD_lst, lenD_rol, intD, listD, tupD, mSrc, srcD, rng1, rng2, gTupD, gsCons, gsNil, mChain, thawG, thaw, snapO, MO.below, List.getElem?_cons_succ, List.getElem?_cons_zero, List.length_cons, List.length_nil, List.set_cons_succ, List.set_cons_zero, Int.natAbs_natCast, mTupRev, mCatO, mListO, gItm, minI, maxI, absI, app_take, app_take0, app_get, app_get0, app_set, app_set0, List.take_length, finO_nx, finO_rt, finO_er, finT, finE, su__law_numbers_0_6, ← hQ, hS0]
        exact ⟨L, rfl, by simpa [rngD_len] using hL, hz⟩
    have k3 : ∀ cell : Int, wp (su__law_numbers_0_3 [some (.v (.rol (xs.map .int))), some (.v (.int t)), some (.v (.int cell)), some (.v (.int 0)), none, none, none] S0) Q := by
      intro cell
      by_cases c1 : t < xs.length
      · by_cases c2 : 1000000000000000000 ≤ cell
        · simp (decide := true) [wp_seq, wp_some, kQ_nx, kQ_rt, kQ_bk, kQ_ct, kQ_er, kL_nx, kL_ct, kL_bk, kL_rt, kL_er, sAsg, sE, sRet, sRetN, sDrop, sIf, sNext, sBreak, sCont, sRaise, sRaiseF, sPar, sAug, gSet, mVar, Mm.bind, Mm.ret, bin, op2, rd, orD, addD, addI, subI, i2, modI, divI, powI, s2, addS_small, addS_tup, addS_lst, addS_int, catL, catT, mulD, repS, repL, eqD, neD, okD, okDs, eqd, eqds, flatD, eqD, sTry, sHand, noEr, sTryAs, unAs, mFld, mIsE, mRepK, kRepK, cmpI, ltI, leI, gtI, geI, isNone, notNone, isN, asB, asT, truD, mNot, mAnd, mOr, vAnd, vOr, vNot, mIf, mNeg, mTup, mTupZ, frz, mLst, mOwn, mCons, mNil, datas, atD_tup, atD_lst, atD_rol, atD_str, seqOf, mNoPart, asI, mSl, slD_tup, slD_lst, slD_rol, slD_str, mIsI, isT, mCB, rds, mCall, mCall0, mMt, chk, isM, mApp, mExt, lenD_str, lenD_tup, lenD_lst, lenD_rol, intD, listD, tupD, mSrc, srcD, rng1, rng2, gTupD, gsCons, gsNil, mChain, thawG, thaw, snapO, MO.below, List.getElem?_cons_succ, List.getElem?_cons_zero, List.length_cons, List.length_nil, List.set_cons_succ, List.set_cons_zero, Int.natAbs_natCast, mTupRev, mCatO, mListO, gItm, minI, maxI, absI, app_take, app_take0, app_get, app_get0, app_set, app_set0, List.take_length, finO_nx, finO_rt, finO_er, finT, finE, su__law_numbers_0_3, c1, c2, su__law_numbers_2_0, su__law_numbers_0_4]
          exact k5 _ _ (by omega)
        · simp (decide := true) [wp_seq, wp_some, kQ_nx, kQ_rt, kQ_bk, kQ_ct, kQ_er, kL_nx, kL_ct, kL_bk, kL_rt, kL_er, sAsg, sE, sRet, sRetN, sDrop, sIf, sNext, sBreak, sCont, sRaise, sRaiseF, sPar, sAug, gSet, mVar, Mm.bind, Mm.ret, bin, op2, rd, orD, addD, addI, subI, i2, modI, divI, powI, s2, addS_small, addS_tup, addS_lst, addS_int, catL, catT, mulD, repS, repL, eqD, neD, okD, okDs, eqd, eqds, flatD, eqD, sTry, sHand, noEr, sTryAs, unAs, mFld, mIsE, mRepK, kRepK, cmpI, ltI, leI, gtI, geI, isNone, notNone, isN, asB, asT, truD, mNot, mAnd, mOr, vAnd, vOr, vNot, mIf, mNeg, mTup, mTupZ, frz, mLst, mOwn, mCons, mNil, datas, atD_tup, atD_lst, atD_rol, atD_str, seqOf, mNoPart, asI, mSl, slD_tup, slD_lst, slD_rol, slD_str, mIsI, isT, mCB, rds, mCall, mCall0, mMt, chk, isM, mApp, mExt, lenD_str, lenD_tup, lenD_lst, lenD_rol, intD, listD, tupD, mSrc, srcD, rng1, rng2, gTupD, gsCons, gsNil, mChain, thawG, thaw, snapO, MO.below, List.getElem?_cons_succ, List.getElem?_cons_zero, List.length_cons, List.length_nil, List.set_cons_succ, List.set_cons_zero, Int.natAbs_natCast, mTupRev, mCatO, mListO, gItm, minI, maxI, absI, app_take, app_take0, app_get, app_get0, app_set, app_set0, List.take_length, finO_nx, finO_rt, finO_er, finT, finE, su__law_numbers_0_3, c1, c2, su__law_numbers_0_4]
          exact k5 _ _ (by omega)
      · simp (decide := true) [wp_seq, wp_some, kQ_nx, kQ_rt, kQ_bk, kQ_ct, kQ_er, kL_nx, kL_ct, kL_bk, kL_rt, kL_er, sAsg, sE, sRet, sRetN, sDrop, sIf, sNext, sBreak, sCont, sRaise, sRaiseF, sPar, sAug, gSet, mVar, Mm.bind, Mm.ret, bin, op2, rd, orD, addD, addI, subI, i2, modI, divI, powI, s2, addS_small, addS_tup, addS_lst, addS_int, catL, catT, mulD, repS, repL, eqD, neD, okD, okDs, eqd, eqds, flatD, eqD, sTry, sHand, noEr, sTryAs, unAs, mFld, mIsE, mRepK, kRepK, cmpI, ltI, leI, gtI, geI, isNone, notNone, isN, asB, asT, truD, mNot, mAnd, mOr, vAnd, vOr, vNot, mIf, mNeg, mTup, mTupZ, frz, mLst, mOwn, mCons, mNil, datas, atD_tup, atD_lst, atD_rol, atD_str, seqOf, mNoPart, asI, mSl, slD_tup, slD_lst, slD_rol, slD_str, mIsI, isT, mCB, rds, mCall, mCall0, mMt, chk, isM, mApp, mExt, lenD_str, lenD_tup, lenD_lst, lenD_rol, intD, listD, tupD, mSrc, srcD, rng1, rng2, gTupD, gsCons, gsNil, mChain, thawG, thaw, snapO, MO.below, List.getElem?_cons_succ, List.getElem?_cons_zero, List.length_cons, List.length_nil, List.set_cons_succ, List.set_cons_zero, Int.natAbs_natCast, mTupRev, mCatO, mListO, gItm, minI, maxI, absI, app_take, app_take0, app_get, app_get0, app_set, app_set0, List.take_length, finO_nx, finO_rt, finO_er, finT, finE, su__law_numbers_0_3, c1, su__law_numbers_0_4]
        exact k5 _ _ (by omega)
    simp (decide := true) [wp_seq, wp_some, kQ_nx, kQ_rt, kQ_bk, kQ_ct, kQ_er, kL_nx, kL_ct, kL_bk, kL_rt, kL_er, sAsg, sE, sRet, sRetN, sDrop, sIf, sNext, sBreak, sCont, sRaise, sRaiseF, sPar, sAug, gSet, mVar, Mm.bind, Mm.ret, bin, op2, rd, orD, addD, addI, subI, i2, modI, divI, powI, s2, addS_small, addS_tup, addS_lst, addS_int, catL, catT, mulD, repS, repL, eqD, neD, okD, okDs, eqd, eqds, flatD, eqD, sTry, sHand, noEr, sTryAs, unAs, mFld, mIsE, mRepK, kRepK, cmpI, ltI, leI, gtI, geI, isNone, notNone, isN, asB, asT, truD, mNot, mAnd, mOr, vAnd, vOr, vNot, mIf, mNeg, mTup, mTupZ, frz, mLst, mOwn, mCons, mNil, datas, atD_tup, atD_lst, atD_rol, atD_str, seqOf, mNoPart, asI, mSl, slD_tup, slD_lst, slD_rol, slD_str, mIsI, isT, mCB, rds, mCall, mCall0, mMt, chk, isM, mApp, mExt, lenD_str, lenD_tup, lenD_lst, lenD_rol, intD, listD, tupD, mSrc, srcD, rng1, rng2, gTupD, gsCons, gsNil, mChain, thawG, thaw, snapO, MO.below, List.getElem?_cons_succ, List.getElem?_cons_zero, List.length_cons, List.length_nil, List.set_cons_succ, List.set_cons_zero, Int.natAbs_natCast, mTupRev, mCatO, mListO, gItm, minI, maxI, absI, app_take, app_take0, app_get, app_get0, app_set, app_set0, List.take_length, finO_nx, finO_rt, finO_er, finT, finE, su__law_numbers_0_0, su__law_numbers_0_1]
    by_cases c : 0 < xs.length
    · obtain ⟨x, _, hx⟩ := atI_map (f := D.int) (l := xs) (i := t % xs.length) (Int.emod_nonneg _ (by omega)) (Int.emod_lt_of_pos _ (by omega))
      have c' : (0 : Int) < xs.length := by omega
      simp (decide := true) [wp_seq, wp_some, kQ_nx, kQ_rt, kQ_bk, kQ_ct, kQ_er, kL_nx, kL_ct, kL_bk, kL_rt, kL_er, sAsg, sE, sRet, sRetN, sDrop, sIf, sNext, sBreak, sCont, sRaise, sRaiseF, sPar, sAug, gSet, mVar, Mm.bind, Mm.ret, bin, op2, rd, orD, addD, addI, subI, i2, modI, divI, powI, s2, addS_small, addS_tup, addS_lst, addS_int, catL, catT, mulD, repS, repL, eqD, neD, okD, okDs, eqd, eqds, flatD, eqD, sTry, sHand, noEr, sTryAs, unAs, mFld, mIsE, mRepK, kRepK, cmpI, ltI, leI, gtI, geI, isNone, notNone, isN, asB, asT, truD, mNot, mAnd, mOr, vAnd, vOr, vNot, mIf, mNeg, mTup, mTupZ, frz, mLst, mOwn, mCons, mNil, datas, atD_tup, atD_lst, atD_rol, atD_str, seqOf, mNoPart, asI, mSl, slD_tup, slD_lst, slD_rol, slD_str, mIsI, isT, mCB, rds, mCall, mCall0, mMt, chk, isM, mApp, mExt, lenD_str, lenD_tup, lenD_lst, lenD_rol, intD, listD, tupD, mSrc, srcD, rng1, rng2, gTupD, gsCons, gsNil, mChain, thawG, thaw, snapO, MO.below, List.getElem?_cons_succ, List.getElem?_cons_zero, List.length_cons, List.length_nil, List.set_cons_succ, List.set_cons_zero, Int.natAbs_natCast, mTupRev, mCatO, mListO, gItm, minI, maxI, absI, app_take, app_take0, app_get, app_get0, app_set, app_set0, List.take_length, finO_nx, finO_rt, finO_er, finT, finE, c, c', hx, su__law_numbers_1_0, su__law_numbers_0_2]
      exact k3 _
    · simp (decide := true) [wp_seq, wp_some, kQ_nx, kQ_rt, kQ_bk, kQ_ct, kQ_er, kL_nx, kL_ct, kL_bk, kL_rt, kL_er, sAsg, sE, sRet, sRetN, sDrop, sIf, sNext, sBreak, sCont, sRaise, sRaiseF, sPar, sAug, gSet, mVar, Mm.bind, Mm.ret, bin, op2, rd, orD, addD, addI, subI, i2, modI, divI, powI, s2, addS_small, addS_tup, addS_lst, addS_int, catL, catT, mulD, repS, repL, eqD, neD, okD, okDs, eqd, eqds, flatD, eqD, sTry, sHand, noEr, sTryAs, unAs, mFld, mIsE, mRepK, kRepK, cmpI, ltI, leI, gtI, geI, isNone, notNone, isN, asB, asT, truD, mNot, mAnd, mOr, vAnd, vOr, vNot, mIf, mNeg, mTup, mTupZ, frz, mLst, mOwn, mCons, mNil, datas, atD_tup, atD_lst, atD_rol, atD_str, seqOf, mNoPart, asI, mSl, slD_tup, slD_lst, slD_rol, slD_str, mIsI, isT, mCB, rds, mCall, mCall0, mMt, chk, isM, mApp, mExt, lenD_str, lenD_tup, lenD_lst, lenD_rol, intD, listD, tupD, mSrc, srcD, rng1, rng2, gTupD, gsCons, gsNil, mChain, thawG, thaw, snapO, MO.below, List.getElem?_cons_succ, List.getElem?_cons_zero, List.length_cons, List.length_nil, List.set_cons_succ, List.set_cons_zero, Int.natAbs_natCast, mTupRev, mCatO, mListO, gItm, minI, maxI, absI, app_take, app_take0, app_get, app_get0, app_set, app_set0, List.take_length, finO_nx, finO_rt, finO_er, finT, finE, c, su__law_numbers_0_2]
      exact k3 _
  obtain ⟨r, e, L, rfl, h1, h2⟩ := key
  exact ⟨L, e, h1, h2⟩
/-! ### _law_same: what is one and the same is told so -/
def kids : D → List D
  | .tup ds => ds
  | _ => []
def plainT : D → Prop
  | .tup _ => True
  | .non => True
  | .bl _ => True
  | .int _ => True
  | .str s => vcB s = true
  | _ => False
/-- a level of items, and n levels below it at most -/
def okL : Nat → List D → Prop
  | 0, l => l = []
  | n + 1, l => l.length ≤ lineN ∧ (∀ d ∈ l, plainT d) ∧ okL n (l.flatMap kids)
theorem okL_nil : ∀ n, okL n []
  | 0 => rfl
  | n + 1 => ⟨by simp, by simp, okL_nil n⟩
theorem okL_len {n : Nat} {l : List D} (h : okL n l) : l.length ≤ lineN := by
  cases n with
  | zero => rw [show l = [] from h]; simp
  | succ n => exact h.1
def pr (l : List D) : List D := l.map fun d => .tup [d, d]
theorem pr_app (a b : List D) : pr (a ++ b) = pr a ++ pr b := List.map_append
theorem pr_len (l : List D) : (pr l).length = l.length := List.length_map ..
theorem take_kids {l : List D} {m : Nat} {e : D} (h : l[m]? = some e) : (l.take (m + 1)).flatMap kids = (l.take m).flatMap kids ++ kids e := by
  obtain ⟨h1, h2⟩ := List.getElem?_eq_some_iff.mp h
  rw [List.take_add_one, h]
  simp
theorem kids_le {l : List D} (m : Nat) : ((l.take m).flatMap kids).length ≤ (l.flatMap kids).length := by
  conv => rhs; rw [← List.take_append_drop m l]
  rw [List.flatMap_append, List.length_append]
  omega
def dup (es : List D) (d : D) : D := match d with
  | .int i => (match es[i.toNat]? with
    | some x => .tup [x, x]
    | none => .non)
  | _ => .non
theorem pr_dup (es : List D) : (rngD 0 es.length).map (dup es) = pr es := by
  unfold pr rngD
  apply List.ext_getElem?
  intro i
  rw [List.map_map, List.getElem?_map, List.getElem?_map]
  by_cases hi : i < es.length
  · rw [List.getElem?_eq_getElem (by simpa using hi), List.getElem?_eq_getElem hi]
    simp [dup, List.getElem?_eq_getElem hi]
  · rw [List.getElem?_eq_none (by simpa using hi), List.getElem?_eq_none (by omega)]
    rfl
theorem same_lc {es : List D} {G0 G1 G2 G3 G4 G7 : Option SV} {S : Sto} (hl : es.length ≤ lineN) (hb : S.all (MO.below S.length) = true) (hb1 : S.all (MO.below (S.length + 1)) = true) :
    lc__law_same_0 [G0, G1, G2, G3, G4, some (.v (.tup es)), some (.v (.tup es)), G7] S = some (.ok (.v (.lst (pr es))) S) := by
  unfold lc__law_same_0
  rw [mLc_map (ds := rngD 0 es.length) (dup es) (by simp (decide := true) [wp_seq, wp_some, kQ_nx, kQ_rt, kQ_bk, kQ_ct, kQ_er, kL_nx, kL_ct, kL_bk, kL_rt, kL_er, sAsg, sE, sRet, sRetN, sDrop, sIf, sNext, sBreak, sCont, sRaise, sRaiseF, sPar, sAug, gSet, mVar, Mm.bind, Mm.ret, bin, op2, rd, orD, addD, addI, subI, i2, modI, divI, powI, s2, addS_small, addS_tup, addS_lst, addS_int, catL, catT, mulD, repS, repL, eqD, neD, okD, okDs, eqd, eqds, flatD, eqD, sTry, sHand, noEr, sTryAs, unAs, mFld, mIsE, mRepK, kRepK, cmpI, ltI, leI, gtI, geI, isNone, notNone, isN, asB, asT, truD, mNot, mAnd, mOr, vAnd, vOr, vNot, mIf, mNeg, mTup, mTupZ, frz, mLst, mOwn, mCons, mNil, datas, atD_tup, atD_lst, atD_rol, atD_str, seqOf, mNoPart, asI, mSl, slD_tup, slD_lst, slD_rol, slD_str, mIsI, isT, mCB, rds, mCall, mCall0, mMt, chk, isM, mApp, mExt, lenD_str, lenD_tup, lenD_lst, lenD_rol, intD, listD, tupD, mSrc, srcD, rng1, rng2, gTupD, gsCons, gsNil, mChain, thawG, thaw, snapO, MO.below, List.getElem?_cons_succ, List.getElem?_cons_zero, List.length_cons, List.length_nil, List.set_cons_succ, List.set_cons_zero, Int.natAbs_natCast, mTupRev, mCatO, mListO, gItm, minI, maxI, absI, app_take, app_take0, app_get, app_get0, app_set, app_set0, List.take_length, finO_nx, finO_rt, finO_er, finT, finE, hl]) hb hb1 (by rw [rngD_len]; exact hl), pr_dup]
  intro d hd acc
  obtain ⟨i, hi⟩ := List.getElem?_of_mem hd
  obtain ⟨h1, rfl⟩ := rngD_get hi
  have ha : L2.atI es (i : Int) = some es[i] := by rw [atI_nn (l := es) (i := (i : Int)) (by omega) (by omega)]; simp [h1]
  refine ⟨_, rfl, ?_⟩
  have h2 : 2 ≤ lineN := by decide
  simp (decide := true) [wp_seq, wp_some, kQ_nx, kQ_rt, kQ_bk, kQ_ct, kQ_er, kL_nx, kL_ct, kL_bk, kL_rt, kL_er, sAsg, sE, sRet, sRetN, sDrop, sIf, sNext, sBreak, sCont, sRaise, sRaiseF, sPar, sAug, gSet, mVar, Mm.bind, Mm.ret, bin, op2, rd, orD, addD, addI, subI, i2, modI, divI, powI, s2, addS_small, addS_tup, addS_lst, addS_int, catL, catT, mulD, repS, repL, eqD, neD, okD, okDs, eqd, eqds, flatD, eqD, sTry, sHand, noEr, sTryAs, unAs, mFld, mIsE, mRepK, kRepK, cmpI, ltI, leI, gtI, geI, isNone, notNone, isN, asB, asT, truD, mNot, mAnd, mOr, vAnd, vOr, vNot, mIf, mNeg, mTup, mTupZ, frz, mLst, mOwn, mCons, mNil, datas, atD_tup, atD_lst, atD_rol, atD_str, seqOf, mNoPart, asI, mSl, slD_tup, slD_lst, slD_rol, slD_str, mIsI, isT, mCB, rds, mCall, mCall0, mMt, chk, isM, mApp, mExt, lenD_str, lenD_tup, lenD_lst, lenD_rol, intD, listD, tupD, mSrc, srcD, rng1, rng2, gTupD, gsCons, gsNil, mChain, thawG, thaw, snapO, MO.below, List.getElem?_cons_succ, List.getElem?_cons_zero, List.length_cons, List.length_nil, List.set_cons_succ, List.set_cons_zero, Int.natAbs_natCast, mTupRev, mCatO, mListO, gItm, minI, maxI, absI, app_take, app_take0, app_get, app_get0, app_set, app_set0, List.take_length, finO_nx, finO_rt, finO_er, finT, finE, wipeG, ha, dup, h1]
theorem pr_get {l : List D} {m : Nat} {d : D} (h : (pr l)[m]? = some d) : ∃ e, l[m]? = some e ∧ d = .tup [e, e] := by
  unfold pr at h
  rw [List.getElem?_map] at h
  cases e : l[m]? with
  | none => rw [e] at h; cases h
  | some x => rw [e] at h; cases h; exact ⟨x, rfl, rfl⟩
theorem neD_bl (a : Bool) : neD (.bl a) (.bl a) = some (.bl false) := by cases a <;> rfl
theorem neD_int (a : Int) : neD (.int a) (.int a) = some (.bl false) := by simp [neD, okD, eqd]
theorem same_ok (x : D) (hx : okL 30 [x]) {S0 : Sto} (hS : Cl S0) : den__law_same [.v x, .v x] S0 = some (.ok (.v (.bl true)) S0) := by
  have hS0 := hS _ (Nat.le_refl _)
  have hS1 := hS (S0.length + 1) (by omega)
  refine wp_eq (fnD_wp rfl ?_)
  generalize hQ : (fun o => wp (finO S0.length o) _) = Q
  have h2 : 2 ≤ lineN := by decide
  simp (decide := true) [wp_seq, wp_some, kQ_nx, kQ_rt, kQ_bk, kQ_ct, kQ_er, kL_nx, kL_ct, kL_bk, kL_rt, kL_er, sAsg, sE, sRet, sRetN, sDrop, sIf, sNext, sBreak, sCont, sRaise, sRaiseF, sPar, sAug, gSet, mVar, Mm.bind, Mm.ret, bin, op2, rd, orD, addD, addI, subI, i2, modI, divI, powI, s2, addS_small, addS_tup, addS_lst, addS_int, catL, catT, mulD, repS, repL, eqD, neD, okD, okDs, eqd, eqds, flatD, eqD, sTry, sHand, noEr, sTryAs, unAs, mFld, mIsE, mRepK, kRepK, cmpI, ltI, leI, gtI, geI, isNone, notNone, isN, asB, asT, truD, mNot, mAnd, mOr, vAnd, vOr, vNot, mIf, mNeg, mTup, mTupZ, frz, mLst, mOwn, mCons, mNil, datas, atD_tup, atD_lst, atD_rol, atD_str, seqOf, mNoPart, asI, mSl, slD_tup, slD_lst, slD_rol, slD_str, mIsI, isT, mCB, rds, mCall, mCall0, mMt, chk, isM, mApp, mExt, lenD_str, lenD_tup, lenD_lst, lenD_rol, intD, listD, tupD, mSrc, srcD, rng1, rng2, gTupD, gsCons, gsNil, mChain, thawG, thaw, snapO, MO.below, List.getElem?_cons_succ, List.getElem?_cons_zero, List.length_cons, List.length_nil, List.set_cons_succ, List.set_cons_zero, Int.natAbs_natCast, mTupRev, mCatO, mListO, gItm, minI, maxI, absI, app_take, app_take0, app_get, app_get0, app_set, app_set0, List.take_length, finO_nx, finO_rt, finO_er, finT, finE, su__law_same_0_0, h2]
  unfold su__law_same_0_1
  rw [wp_seq]
  refine wp_for (fun i G S => ∃ (l : List D) (j3 j4 j5 j6 j7 : Option SV), okL (30 - i) l ∧ G = [some (.v x), some (.v x), some (.v (.lst (pr l))), j3, j4, j5, j6, j7] ∧ S0 = S) (ds := rngD 0 30) (S1 := S0) (by simp (decide := true) [wp_seq, wp_some, kQ_nx, kQ_rt, kQ_bk, kQ_ct, kQ_er, kL_nx, kL_ct, kL_bk, kL_rt, kL_er, sAsg, sE, sRet, sRetN, sDrop, sIf, sNext, sBreak, sCont, sRaise, sRaiseF, sPar, sAug, gSet, mVar, Mm.bind, Mm.ret, bin, op2, rd, orD, addD, addI, subI, i2, modI, divI, powI, s2, addS_small, addS_tup, addS_lst, addS_int, catL, catT, mulD, repS, repL, eqD, neD, okD, okDs, eqd, eqds, flatD, eqD, sTry, sHand, noEr, sTryAs, unAs, mFld, mIsE, mRepK, kRepK, cmpI, ltI, leI, gtI, geI, isNone, notNone, isN, asB, asT, truD, mNot, mAnd, mOr, vAnd, vOr, vNot, mIf, mNeg, mTup, mTupZ, frz, mLst, mOwn, mCons, mNil, datas, atD_tup, atD_lst, atD_rol, atD_str, seqOf, mNoPart, asI, mSl, slD_tup, slD_lst, slD_rol, slD_str, mIsI, isT, mCB, rds, mCall, mCall0, mMt, chk, isM, mApp, mExt, lenD_str, lenD_tup, lenD_lst, lenD_rol, intD, listD, tupD, mSrc, srcD, rng1, rng2, gTupD, gsCons, gsNil, mChain, thawG, thaw, snapO, MO.below, List.getElem?_cons_succ, List.getElem?_cons_zero, List.length_cons, List.length_nil, List.set_cons_succ, List.set_cons_zero, Int.natAbs_natCast, mTupRev, mCatO, mListO, gItm, minI, maxI, absI, app_take, app_take0, app_get, app_get0, app_set, app_set0, List.take_length, finO_nx, finO_rt, finO_er, finT, finE, h2]) ⟨[x], none, none, none, none, none, hx, rfl, rfl⟩ ?_ ?_
  · rintro i d G S hd ⟨l, j3, j4, j5, j6, j7, hl, rfl, rfl⟩
    obtain ⟨hi, rfl⟩ := rngD_get hd
    obtain ⟨n, hn⟩ : ∃ n, 30 - i = n + 1 := ⟨29 - i, by omega⟩
    rw [hn] at hl
    obtain ⟨hl1, hl2, hl3⟩ := hl
    generalize hR : kL _ _ _ = R
    simp (decide := true) [wp_seq, wp_some, kQ_nx, kQ_rt, kQ_bk, kQ_ct, kQ_er, kL_nx, kL_ct, kL_bk, kL_rt, kL_er, sAsg, sE, sRet, sRetN, sDrop, sIf, sNext, sBreak, sCont, sRaise, sRaiseF, sPar, sAug, gSet, mVar, Mm.bind, Mm.ret, bin, op2, rd, orD, addD, addI, subI, i2, modI, divI, powI, s2, addS_small, addS_tup, addS_lst, addS_int, catL, catT, mulD, repS, repL, eqD, neD, okD, okDs, eqd, eqds, flatD, eqD, sTry, sHand, noEr, sTryAs, unAs, mFld, mIsE, mRepK, kRepK, cmpI, ltI, leI, gtI, geI, isNone, notNone, isN, asB, asT, truD, mNot, mAnd, mOr, vAnd, vOr, vNot, mIf, mNeg, mTup, mTupZ, frz, mLst, mOwn, mCons, mNil, datas, atD_tup, atD_lst, atD_rol, atD_str, seqOf, mNoPart, asI, mSl, slD_tup, slD_lst, slD_rol, slD_str, mIsI, isT, mCB, rds, mCall, mCall0, mMt, chk, isM, mApp, mExt, lenD_str, lenD_tup, lenD_lst, lenD_rol, intD, listD, tupD, mSrc, srcD, rng1, rng2, gTupD, gsCons, gsNil, mChain, thawG, thaw, snapO, MO.below, List.getElem?_cons_succ, List.getElem?_cons_zero, List.length_cons, List.length_nil, List.set_cons_succ, List.set_cons_zero, Int.natAbs_natCast, mTupRev, mCatO, mListO, gItm, minI, maxI, absI, app_take, app_take0, app_get, app_get0, app_set, app_set0, List.take_length, finO_nx, finO_rt, finO_er, finT, finE, su__law_same_1_0]
    unfold su__law_same_1_1
    rw [wp_seq]
    refine wp_for (fun m G S => ∃ (j5 j6 j7 : Option SV), G = [some (.v x), some (.v x), some (.v (.lst (pr l))), some (.v (.int i)), some (.o S0.length), j5, j6, j7] ∧ S = S0 ++ [.lst (pr ((l.take m).flatMap kids))]) (ds := pr l) (S1 := S0 ++ [.lst []]) (by simp (decide := true) [wp_seq, wp_some, kQ_nx, kQ_rt, kQ_bk, kQ_ct, kQ_er, kL_nx, kL_ct, kL_bk, kL_rt, kL_er, sAsg, sE, sRet, sRetN, sDrop, sIf, sNext, sBreak, sCont, sRaise, sRaiseF, sPar, sAug, gSet, mVar, Mm.bind, Mm.ret, bin, op2, rd, orD, addD, addI, subI, i2, modI, divI, powI, s2, addS_small, addS_tup, addS_lst, addS_int, catL, catT, mulD, repS, repL, eqD, neD, okD, okDs, eqd, eqds, flatD, eqD, sTry, sHand, noEr, sTryAs, unAs, mFld, mIsE, mRepK, kRepK, cmpI, ltI, leI, gtI, geI, isNone, notNone, isN, asB, asT, truD, mNot, mAnd, mOr, vAnd, vOr, vNot, mIf, mNeg, mTup, mTupZ, frz, mLst, mOwn, mCons, mNil, datas, atD_tup, atD_lst, atD_rol, atD_str, seqOf, mNoPart, asI, mSl, slD_tup, slD_lst, slD_rol, slD_str, mIsI, isT, mCB, rds, mCall, mCall0, mMt, chk, isM, mApp, mExt, lenD_str, lenD_tup, lenD_lst, lenD_rol, intD, listD, tupD, mSrc, srcD, rng1, rng2, gTupD, gsCons, gsNil, mChain, thawG, thaw, snapO, MO.below, List.getElem?_cons_succ, List.getElem?_cons_zero, List.length_cons, List.length_nil, List.set_cons_succ, List.set_cons_zero, Int.natAbs_natCast, mTupRev, mCatO, mListO, gItm, minI, maxI, absI, app_take, app_take0, app_get, app_get0, app_set, app_set0, List.take_length, finO_nx, finO_rt, finO_er, finT, finE, h2]) ⟨j5, j6, j7, rfl, by simp [pr]⟩ ?_ ?_
    · rintro m d G S hd ⟨j5, j6, j7, rfl, rfl⟩
      obtain ⟨e, he, rfl⟩ := pr_get hd
      have hp := hl2 e (List.mem_of_getElem? he)
      generalize hR2 : kL _ _ _ = R2
      have done : ∀ L : List D, L = pr ((l.take (m + 1)).flatMap kids) → R2 (.nx [some (.v x), some (.v x), some (.v (.lst (pr l))), some (.v (.int i)), some (.o S0.length), some (.v e), some (.v e), j7] (S0 ++ [.lst L])) := by
        intro L hL
        subst hR2 hL
        exact ⟨by simp (decide := true) [wp_seq, wp_some, kQ_nx, kQ_rt, kQ_bk, kQ_ct, kQ_er, kL_nx, kL_ct, kL_bk, kL_rt, kL_er, sAsg, sE, sRet, sRetN, sDrop, sIf, sNext, sBreak, sCont, sRaise, sRaiseF, sPar, sAug, gSet, mVar, Mm.bind, Mm.ret, bin, op2, rd, orD, addD, addI, subI, i2, modI, divI, powI, s2, addS_small, addS_tup, addS_lst, addS_int, catL, catT, mulD, repS, repL, eqD, neD, okD, okDs, eqd, eqds, flatD, eqD, sTry, sHand, noEr, sTryAs, unAs, mFld, mIsE, mRepK, kRepK, cmpI, ltI, leI, gtI, geI, isNone, notNone, isN, asB, asT, truD, mNot, mAnd, mOr, vAnd, vOr, vNot, mIf, mNeg, mTup, mTupZ, frz, mLst, mOwn, mCons, mNil, datas, atD_tup, atD_lst, atD_rol, atD_str, seqOf, mNoPart, asI, mSl, slD_tup, slD_lst, slD_rol, slD_str, mIsI, isT, mCB, rds, mCall, mCall0, mMt, chk, isM, mApp, mExt, lenD_str, lenD_tup, lenD_lst, lenD_rol, intD, listD, tupD, mSrc, srcD, rng1, rng2, gTupD, gsCons, gsNil, mChain, thawG, thaw, snapO, MO.below, List.getElem?_cons_succ, List.getElem?_cons_zero, List.length_cons, List.length_nil, List.set_cons_succ, List.set_cons_zero, Int.natAbs_natCast, mTupRev, mCatO, mListO, gItm, minI, maxI, absI, app_take, app_take0, app_get, app_get0, app_set, app_set0, List.take_length, finO_nx, finO_rt, finO_er, finT, finE, hS1], some (.v e), some (.v e), j7.bind (thaw (S0 ++ [.lst (pr ((l.take (m + 1)).flatMap kids))]) (S0.length + 1)), by simp (decide := true) [wp_seq, wp_some, kQ_nx, kQ_rt, kQ_bk, kQ_ct, kQ_er, kL_nx, kL_ct, kL_bk, kL_rt, kL_er, sAsg, sE, sRet, sRetN, sDrop, sIf, sNext, sBreak, sCont, sRaise, sRaiseF, sPar, sAug, gSet, mVar, Mm.bind, Mm.ret, bin, op2, rd, orD, addD, addI, subI, i2, modI, divI, powI, s2, addS_small, addS_tup, addS_lst, addS_int, catL, catT, mulD, repS, repL, eqD, neD, okD, okDs, eqd, eqds, flatD, eqD, sTry, sHand, noEr, sTryAs, unAs, mFld, mIsE, mRepK, kRepK, cmpI, ltI, leI, gtI, geI, isNone, notNone, isN, asB, asT, truD, mNot, mAnd, mOr, vAnd, vOr, vNot, mIf, mNeg, mTup, mTupZ, frz, mLst, mOwn, mCons, mNil, datas, atD_tup, atD_lst, atD_rol, atD_str, seqOf, mNoPart, asI, mSl, slD_tup, slD_lst, slD_rol, slD_str, mIsI, isT, mCB, rds, mCall, mCall0, mMt, chk, isM, mApp, mExt, lenD_str, lenD_tup, lenD_lst, lenD_rol, intD, listD, tupD, mSrc, srcD, rng1, rng2, gTupD, gsCons, gsNil, mChain, thawG, thaw, snapO, MO.below, List.getElem?_cons_succ, List.getElem?_cons_zero, List.length_cons, List.length_nil, List.set_cons_succ, List.set_cons_zero, Int.natAbs_natCast, mTupRev, mCatO, mListO, gItm, minI, maxI, absI, app_take, app_take0, app_get, app_get0, app_set, app_set0, List.take_length, finO_nx, finO_rt, finO_er, finT, finE, DL.lineN_pos], by simp (decide := true) [wp_seq, wp_some, kQ_nx, kQ_rt, kQ_bk, kQ_ct, kQ_er, kL_nx, kL_ct, kL_bk, kL_rt, kL_er, sAsg, sE, sRet, sRetN, sDrop, sIf, sNext, sBreak, sCont, sRaise, sRaiseF, sPar, sAug, gSet, mVar, Mm.bind, Mm.ret, bin, op2, rd, orD, addD, addI, subI, i2, modI, divI, powI, s2, addS_small, addS_tup, addS_lst, addS_int, catL, catT, mulD, repS, repL, eqD, neD, okD, okDs, eqd, eqds, flatD, eqD, sTry, sHand, noEr, sTryAs, unAs, mFld, mIsE, mRepK, kRepK, cmpI, ltI, leI, gtI, geI, isNone, notNone, isN, asB, asT, truD, mNot, mAnd, mOr, vAnd, vOr, vNot, mIf, mNeg, mTup, mTupZ, frz, mLst, mOwn, mCons, mNil, datas, atD_tup, atD_lst, atD_rol, atD_str, seqOf, mNoPart, asI, mSl, slD_tup, slD_lst, slD_rol, slD_str, mIsI, isT, mCB, rds, mCall, mCall0, mMt, chk, isM, mApp, mExt, lenD_str, lenD_tup, lenD_lst, lenD_rol, intD, listD, tupD, mSrc, srcD, rng1, rng2, gTupD, gsCons, gsNil, mChain, thawG, thaw, snapO, MO.below, List.getElem?_cons_succ, List.getElem?_cons_zero, List.length_cons, List.length_nil, List.set_cons_succ, List.set_cons_zero, Int.natAbs_natCast, mTupRev, mCatO, mListO, gItm, minI, maxI, absI, app_take, app_take0, app_get, app_get0, app_set, app_set0, List.take_length, finO_nx, finO_rt, finO_er, finT, finE, DL.lineN_pos]⟩
      cases e with
      | tup es =>
        have hes : es.length ≤ lineN := by
          have h1 := kids_le (l := l) (m + 1)
          rw [take_kids he, List.length_append] at h1
          have h3 := okL_len hl3
          have h4 : (kids (.tup es)).length = es.length := rfl
          omega
        have hsum : (pr ((l.take m).flatMap kids)).length + (pr es).length ≤ lineN := by
          rw [pr_len, pr_len]
          have h1 := kids_le (l := l) (m + 1)
          rw [take_kids he, List.length_append] at h1
          have h3 := okL_len hl3
          have h4 : (kids (.tup es)).length = es.length := rfl
          omega
        have hlc := fun S hb hb1 => same_lc (es := es) (G0 := some (.v x)) (G1 := some (.v x)) (G2 := some (.v (.lst (pr l)))) (G3 := some (.v (.int i))) (G4 := some (.o S0.length)) (G7 := j7) (S := S) hes hb hb1
        have hlc' := hlc (S0 ++ [.lst (pr ((l.take m).flatMap kids))]) ((hS.lst _) _ (Nat.le_refl _)) ((hS.lst _) _ (by omega))
        simp (decide := true) [wp_seq, wp_some, kQ_nx, kQ_rt, kQ_bk, kQ_ct, kQ_er, kL_nx, kL_ct, kL_bk, kL_rt, kL_er, sAsg, sE, sRet, sRetN, sDrop, sIf, sNext, sBreak, sCont, sRaise, sRaiseF, sPar, sAug, gSet, mVar, Mm.bind, Mm.ret, bin, op2, rd, orD, addD, addI, subI, i2, modI, divI, powI, s2, addS_small, addS_tup, addS_lst, addS_int, catL, catT, mulD, repS, repL, eqD, neD, okD, okDs, eqd, eqds, flatD, eqD, sTry, sHand, noEr, sTryAs, unAs, mFld, mIsE, mRepK, kRepK, cmpI, ltI, leI, gtI, geI, isNone, notNone, isN, asB, asT, truD, mNot, mAnd, mOr, vAnd, vOr, vNot, mIf, mNeg, mTup, mTupZ, frz, mLst, mOwn, mCons, mNil, datas, atD_tup, atD_lst, atD_rol, atD_str, seqOf, mNoPart, asI, mSl, slD_tup, slD_lst, slD_rol, slD_str, mIsI, isT, mCB, rds, mCall, mCall0, mMt, chk, isM, mApp, mExt, lenD_str, lenD_tup, lenD_lst, lenD_rol, intD, listD, tupD, mSrc, srcD, rng1, rng2, gTupD, gsCons, gsNil, mChain, thawG, thaw, snapO, MO.below, List.getElem?_cons_succ, List.getElem?_cons_zero, List.length_cons, List.length_nil, List.set_cons_succ, List.set_cons_zero, Int.natAbs_natCast, mTupRev, mCatO, mListO, gItm, minI, maxI, absI, app_take, app_take0, app_get, app_get0, app_set, app_set0, List.take_length, finO_nx, finO_rt, finO_er, finT, finE, su__law_same_2_0, su__law_same_3_0, su__law_same_3_1, neD_int, hlc', hsum]
        refine done _ ?_
        rw [take_kids he, pr_app]
        rfl
      | non =>
        simp (decide := true) [wp_seq, wp_some, kQ_nx, kQ_rt, kQ_bk, kQ_ct, kQ_er, kL_nx, kL_ct, kL_bk, kL_rt, kL_er, sAsg, sE, sRet, sRetN, sDrop, sIf, sNext, sBreak, sCont, sRaise, sRaiseF, sPar, sAug, gSet, mVar, Mm.bind, Mm.ret, bin, op2, rd, orD, addD, addI, subI, i2, modI, divI, powI, s2, addS_small, addS_tup, addS_lst, addS_int, catL, catT, mulD, repS, repL, eqD, neD, okD, okDs, eqd, eqds, flatD, eqD, sTry, sHand, noEr, sTryAs, unAs, mFld, mIsE, mRepK, kRepK, cmpI, ltI, leI, gtI, geI, isNone, notNone, isN, asB, asT, truD, mNot, mAnd, mOr, vAnd, vOr, vNot, mIf, mNeg, mTup, mTupZ, frz, mLst, mOwn, mCons, mNil, datas, atD_tup, atD_lst, atD_rol, atD_str, seqOf, mNoPart, asI, mSl, slD_tup, slD_lst, slD_rol, slD_str, mIsI, isT, mCB, rds, mCall, mCall0, mMt, chk, isM, mApp, mExt, lenD_str, lenD_tup, lenD_lst, lenD_rol, intD, listD, tupD, mSrc, srcD, rng1, rng2, gTupD, gsCons, gsNil, mChain, thawG, thaw, snapO, MO.below, List.getElem?_cons_succ, List.getElem?_cons_zero, List.length_cons, List.length_nil, List.set_cons_succ, List.set_cons_zero, Int.natAbs_natCast, mTupRev, mCatO, mListO, gItm, minI, maxI, absI, app_take, app_take0, app_get, app_get0, app_set, app_set0, List.take_length, finO_nx, finO_rt, finO_er, finT, finE, su__law_same_2_0, su__law_same_5_0, su__law_same_6_0]
        exact done _ (by rw [take_kids he]; simp [kids])
      | bl a =>
        simp (decide := true) [wp_seq, wp_some, kQ_nx, kQ_rt, kQ_bk, kQ_ct, kQ_er, kL_nx, kL_ct, kL_bk, kL_rt, kL_er, sAsg, sE, sRet, sRetN, sDrop, sIf, sNext, sBreak, sCont, sRaise, sRaiseF, sPar, sAug, gSet, mVar, Mm.bind, Mm.ret, bin, op2, rd, orD, addD, addI, subI, i2, modI, divI, powI, s2, addS_small, addS_tup, addS_lst, addS_int, catL, catT, mulD, repS, repL, eqD, neD, okD, okDs, eqd, eqds, flatD, eqD, sTry, sHand, noEr, sTryAs, unAs, mFld, mIsE, mRepK, kRepK, cmpI, ltI, leI, gtI, geI, isNone, notNone, isN, asB, asT, truD, mNot, mAnd, mOr, vAnd, vOr, vNot, mIf, mNeg, mTup, mTupZ, frz, mLst, mOwn, mCons, mNil, datas, atD_tup, atD_lst, atD_rol, atD_str, seqOf, mNoPart, asI, mSl, slD_tup, slD_lst, slD_rol, slD_str, mIsI, isT, mCB, rds, mCall, mCall0, mMt, chk, isM, mApp, mExt, lenD_str, lenD_tup, lenD_lst, lenD_rol, intD, listD, tupD, mSrc, srcD, rng1, rng2, gTupD, gsCons, gsNil, mChain, thawG, thaw, snapO, MO.below, List.getElem?_cons_succ, List.getElem?_cons_zero, List.length_cons, List.length_nil, List.set_cons_succ, List.set_cons_zero, Int.natAbs_natCast, mTupRev, mCatO, mListO, gItm, minI, maxI, absI, app_take, app_take0, app_get, app_get0, app_set, app_set0, List.take_length, finO_nx, finO_rt, finO_er, finT, finE, su__law_same_2_0, su__law_same_5_0, su__law_same_8_0, su__law_same_10_0, su__law_same_12_0, neD_bl]
        exact done _ (by rw [take_kids he]; simp [kids])
      | int a =>
        simp (decide := true) [wp_seq, wp_some, kQ_nx, kQ_rt, kQ_bk, kQ_ct, kQ_er, kL_nx, kL_ct, kL_bk, kL_rt, kL_er, sAsg, sE, sRet, sRetN, sDrop, sIf, sNext, sBreak, sCont, sRaise, sRaiseF, sPar, sAug, gSet, mVar, Mm.bind, Mm.ret, bin, op2, rd, orD, addD, addI, subI, i2, modI, divI, powI, s2, addS_small, addS_tup, addS_lst, addS_int, catL, catT, mulD, repS, repL, eqD, neD, okD, okDs, eqd, eqds, flatD, eqD, sTry, sHand, noEr, sTryAs, unAs, mFld, mIsE, mRepK, kRepK, cmpI, ltI, leI, gtI, geI, isNone, notNone, isN, asB, asT, truD, mNot, mAnd, mOr, vAnd, vOr, vNot, mIf, mNeg, mTup, mTupZ, frz, mLst, mOwn, mCons, mNil, datas, atD_tup, atD_lst, atD_rol, atD_str, seqOf, mNoPart, asI, mSl, slD_tup, slD_lst, slD_rol, slD_str, mIsI, isT, mCB, rds, mCall, mCall0, mMt, chk, isM, mApp, mExt, lenD_str, lenD_tup, lenD_lst, lenD_rol, intD, listD, tupD, mSrc, srcD, rng1, rng2, gTupD, gsCons, gsNil, mChain, thawG, thaw, snapO, MO.below, List.getElem?_cons_succ, List.getElem?_cons_zero, List.length_cons, List.length_nil, List.set_cons_succ, List.set_cons_zero, Int.natAbs_natCast, mTupRev, mCatO, mListO, gItm, minI, maxI, absI, app_take, app_take0, app_get, app_get0, app_set, app_set0, List.take_length, finO_nx, finO_rt, finO_er, finT, finE, su__law_same_2_0, su__law_same_5_0, su__law_same_8_0, su__law_same_10_0, su__law_same_12_0, neD_bl, neD_int]
        exact done _ (by rw [take_kids he]; simp [kids])
      | str s =>
        have hp' : vcB s = true := hp
        simp (decide := true) [wp_seq, wp_some, kQ_nx, kQ_rt, kQ_bk, kQ_ct, kQ_er, kL_nx, kL_ct, kL_bk, kL_rt, kL_er, sAsg, sE, sRet, sRetN, sDrop, sIf, sNext, sBreak, sCont, sRaise, sRaiseF, sPar, sAug, gSet, mVar, Mm.bind, Mm.ret, bin, op2, rd, orD, addD, addI, subI, i2, modI, divI, powI, s2, addS_small, addS_tup, addS_lst, addS_int, catL, catT, mulD, repS, repL, eqD, neD, okD, okDs, eqd, eqds, flatD, eqD, sTry, sHand, noEr, sTryAs, unAs, mFld, mIsE, mRepK, kRepK, cmpI, ltI, leI, gtI, geI, isNone, notNone, isN, asB, asT, truD, mNot, mAnd, mOr, vAnd, vOr, vNot, mIf, mNeg, mTup, mTupZ, frz, mLst, mOwn, mCons, mNil, datas, atD_tup, atD_lst, atD_rol, atD_str, seqOf, mNoPart, asI, mSl, slD_tup, slD_lst, slD_rol, slD_str, mIsI, isT, mCB, rds, mCall, mCall0, mMt, chk, isM, mApp, mExt, lenD_str, lenD_tup, lenD_lst, lenD_rol, intD, listD, tupD, mSrc, srcD, rng1, rng2, gTupD, gsCons, gsNil, mChain, thawG, thaw, snapO, MO.below, List.getElem?_cons_succ, List.getElem?_cons_zero, List.length_cons, List.length_nil, List.set_cons_succ, List.set_cons_zero, Int.natAbs_natCast, mTupRev, mCatO, mListO, gItm, minI, maxI, absI, app_take, app_take0, app_get, app_get0, app_set, app_set0, List.take_length, finO_nx, finO_rt, finO_er, finT, finE, su__law_same_2_0, su__law_same_5_0, su__law_same_8_0, su__law_same_10_0, su__law_same_12_0, neD_bl, hp']
        exact done _ (by rw [take_kids he]; simp [kids])
      | _ => exact absurd hp (by simp [plainT])
    · rintro G S ⟨j5, j6, j7, rfl, rfl⟩
      rw [pr_len, List.take_length]
      simp (decide := true) [wp_seq, wp_some, kQ_nx, kQ_rt, kQ_bk, kQ_ct, kQ_er, kL_nx, kL_ct, kL_bk, kL_rt, kL_er, sAsg, sE, sRet, sRetN, sDrop, sIf, sNext, sBreak, sCont, sRaise, sRaiseF, sPar, sAug, gSet, mVar, Mm.bind, Mm.ret, bin, op2, rd, orD, addD, addI, subI, i2, modI, divI, powI, s2, addS_small, addS_tup, addS_lst, addS_int, catL, catT, mulD, repS, repL, eqD, neD, okD, okDs, eqd, eqds, flatD, eqD, sTry, sHand, noEr, sTryAs, unAs, mFld, mIsE, mRepK, kRepK, cmpI, ltI, leI, gtI, geI, isNone, notNone, isN, asB, asT, truD, mNot, mAnd, mOr, vAnd, vOr, vNot, mIf, mNeg, mTup, mTupZ, frz, mLst, mOwn, mCons, mNil, datas, atD_tup, atD_lst, atD_rol, atD_str, seqOf, mNoPart, asI, mSl, slD_tup, slD_lst, slD_rol, slD_str, mIsI, isT, mCB, rds, mCall, mCall0, mMt, chk, isM, mApp, mExt, lenD_str, lenD_tup, lenD_lst, lenD_rol, intD, listD, tupD, mSrc, srcD, rng1, rng2, gTupD, gsCons, gsNil, mChain, thawG, thaw, snapO, MO.below, List.getElem?_cons_succ, List.getElem?_cons_zero, List.length_cons, List.length_nil, List.set_cons_succ, List.set_cons_zero, Int.natAbs_natCast, mTupRev, mCatO, mListO, gItm, minI, maxI, absI, app_take, app_take0, app_get, app_get0, app_set, app_set0, List.take_length, finO_nx, finO_rt, finO_er, finT, finE, su__law_same_1_2]
      subst hR
      refine ⟨by simp (decide := true) [wp_seq, wp_some, kQ_nx, kQ_rt, kQ_bk, kQ_ct, kQ_er, kL_nx, kL_ct, kL_bk, kL_rt, kL_er, sAsg, sE, sRet, sRetN, sDrop, sIf, sNext, sBreak, sCont, sRaise, sRaiseF, sPar, sAug, gSet, mVar, Mm.bind, Mm.ret, bin, op2, rd, orD, addD, addI, subI, i2, modI, divI, powI, s2, addS_small, addS_tup, addS_lst, addS_int, catL, catT, mulD, repS, repL, eqD, neD, okD, okDs, eqd, eqds, flatD, eqD, sTry, sHand, noEr, sTryAs, unAs, mFld, mIsE, mRepK, kRepK, cmpI, ltI, leI, gtI, geI, isNone, notNone, isN, asB, asT, truD, mNot, mAnd, mOr, vAnd, vOr, vNot, mIf, mNeg, mTup, mTupZ, frz, mLst, mOwn, mCons, mNil, datas, atD_tup, atD_lst, atD_rol, atD_str, seqOf, mNoPart, asI, mSl, slD_tup, slD_lst, slD_rol, slD_str, mIsI, isT, mCB, rds, mCall, mCall0, mMt, chk, isM, mApp, mExt, lenD_str, lenD_tup, lenD_lst, lenD_rol, intD, listD, tupD, mSrc, srcD, rng1, rng2, gTupD, gsCons, gsNil, mChain, thawG, thaw, snapO, MO.below, List.getElem?_cons_succ, List.getElem?_cons_zero, List.length_cons, List.length_nil, List.set_cons_succ, List.set_cons_zero, Int.natAbs_natCast, mTupRev, mCatO, mListO, gItm, minI, maxI, absI, app_take, app_take0, app_get, app_get0, app_set, app_set0, List.take_length, finO_nx, finO_rt, finO_er, finT, finE, hS0], l.flatMap kids, some (.v (.int i)), some (.v (.lst (pr (l.flatMap kids)))), j5.bind (thaw (S0 ++ [.lst (pr (l.flatMap kids))]) S0.length), j6.bind (thaw (S0 ++ [.lst (pr (l.flatMap kids))]) S0.length), j7.bind (thaw (S0 ++ [.lst (pr (l.flatMap kids))]) S0.length), ?_, by simp (decide := true) [wp_seq, wp_some, kQ_nx, kQ_rt, kQ_bk, kQ_ct, kQ_er, kL_nx, kL_ct, kL_bk, kL_rt, kL_er, sAsg, sE, sRet, sRetN, sDrop, sIf, sNext, sBreak, sCont, sRaise, sRaiseF, sPar, sAug, gSet, mVar, Mm.bind, Mm.ret, bin, op2, rd, orD, addD, addI, subI, i2, modI, divI, powI, s2, addS_small, addS_tup, addS_lst, addS_int, catL, catT, mulD, repS, repL, eqD, neD, okD, okDs, eqd, eqds, flatD, eqD, sTry, sHand, noEr, sTryAs, unAs, mFld, mIsE, mRepK, kRepK, cmpI, ltI, leI, gtI, geI, isNone, notNone, isN, asB, asT, truD, mNot, mAnd, mOr, vAnd, vOr, vNot, mIf, mNeg, mTup, mTupZ, frz, mLst, mOwn, mCons, mNil, datas, atD_tup, atD_lst, atD_rol, atD_str, seqOf, mNoPart, asI, mSl, slD_tup, slD_lst, slD_rol, slD_str, mIsI, isT, mCB, rds, mCall, mCall0, mMt, chk, isM, mApp, mExt, lenD_str, lenD_tup, lenD_lst, lenD_rol, intD, listD, tupD, mSrc, srcD, rng1, rng2, gTupD, gsCons, gsNil, mChain, thawG, thaw, snapO, MO.below, List.getElem?_cons_succ, List.getElem?_cons_zero, List.length_cons, List.length_nil, List.set_cons_succ, List.set_cons_zero, Int.natAbs_natCast, mTupRev, mCatO, mListO, gItm, minI, maxI, absI, app_take, app_take0, app_get, app_get0, app_set, app_set0, List.take_length, finO_nx, finO_rt, finO_er, finT, finE, DL.lineN_pos], by simp (decide := true) [wp_seq, wp_some, kQ_nx, kQ_rt, kQ_bk, kQ_ct, kQ_er, kL_nx, kL_ct, kL_bk, kL_rt, kL_er, sAsg, sE, sRet, sRetN, sDrop, sIf, sNext, sBreak, sCont, sRaise, sRaiseF, sPar, sAug, gSet, mVar, Mm.bind, Mm.ret, bin, op2, rd, orD, addD, addI, subI, i2, modI, divI, powI, s2, addS_small, addS_tup, addS_lst, addS_int, catL, catT, mulD, repS, repL, eqD, neD, okD, okDs, eqd, eqds, flatD, eqD, sTry, sHand, noEr, sTryAs, unAs, mFld, mIsE, mRepK, kRepK, cmpI, ltI, leI, gtI, geI, isNone, notNone, isN, asB, asT, truD, mNot, mAnd, mOr, vAnd, vOr, vNot, mIf, mNeg, mTup, mTupZ, frz, mLst, mOwn, mCons, mNil, datas, atD_tup, atD_lst, atD_rol, atD_str, seqOf, mNoPart, asI, mSl, slD_tup, slD_lst, slD_rol, slD_str, mIsI, isT, mCB, rds, mCall, mCall0, mMt, chk, isM, mApp, mExt, lenD_str, lenD_tup, lenD_lst, lenD_rol, intD, listD, tupD, mSrc, srcD, rng1, rng2, gTupD, gsCons, gsNil, mChain, thawG, thaw, snapO, MO.below, List.getElem?_cons_succ, List.getElem?_cons_zero, List.length_cons, List.length_nil, List.set_cons_succ, List.set_cons_zero, Int.natAbs_natCast, mTupRev, mCatO, mListO, gItm, minI, maxI, absI, app_take, app_take0, app_get, app_get0, app_set, app_set0, List.take_length, finO_nx, finO_rt, finO_er, finT, finE, DL.lineN_pos]⟩
      rw [show 30 - (i + 1) = n by omega]
      exact hl3
  · rintro G S ⟨l, j3, j4, j5, j6, j7, hl, rfl, rfl⟩
    rw [rngD_len] at hl
    have hl' : l = [] := hl
    subst hl'
    simp (decide := true) [wp_seq, wp_some, kQ_nx, kQ_rt, kQ_bk, kQ_ct, kQ_er, kL_nx, kL_ct, kL_bk, kL_rt, kL_er, sAsg, sE, sRet, sRetN, sDrop, sIf, sNext, sBreak, sCont, sRaise, sRaiseF, sPar, sAug, gSet, mVar, Mm.bind, Mm.ret, bin, op2, rd, orD, addD, addI, subI, i2, modI, divI, powI, s2, addS_small, addS_tup, addS_lst, addS_int, catL, catT, mulD, repS, repL, eqD, neD, okD, okDs, eqd, eqds, flatD, eqD, sTry, sHand, noEr, sTryAs, unAs, mFld, mIsE, mRepK, kRepK, cmpI, ltI, leI, gtI, geI, isNone, notNone, isN, asB, asT, truD, mNot, mAnd, mOr, vAnd, vOr, vNot, mIf, mNeg, mTup, mTupZ, frz, mLst, mOwn, mCons, mNil, datas, atD_tup, atD_lst, atD_rol, atD_str, seqOf, mNoPart, asI, mSl, slD_tup, slD_lst, slD_rol, slD_str, mIsI, isT, mCB, rds, mCall, mCall0, mMt, chk, isM, mApp, mExt, lenD_str, lenD_tup, lenD_lst, lenD_rol, intD, listD, tupD, mSrc, srcD, rng1, rng2, gTupD, gsCons, gsNil, mChain, thawG, thaw, snapO, MO.below, List.getElem?_cons_succ, List.getElem?_cons_zero, List.length_cons, List.length_nil, List.set_cons_succ, List.set_cons_zero, Int.natAbs_natCast, mTupRev, mCatO, mListO, gItm, minI, maxI, absI, app_take, app_take0, app_get, app_get0, app_set, app_set0, List.take_length, finO_nx, finO_rt, finO_er, finT, finE, su__law_same_0_2, pr, eqD, okD, okDs, eqd, eqds]
    subst hQ
    exact ⟨_, by simp (decide := true) [wp_seq, wp_some, kQ_nx, kQ_rt, kQ_bk, kQ_ct, kQ_er, kL_nx, kL_ct, kL_bk, kL_rt, kL_er, sAsg, sE, sRet, sRetN, sDrop, sIf, sNext, sBreak, sCont, sRaise, sRaiseF, sPar, sAug, gSet, mVar, Mm.bind, Mm.ret, bin, op2, rd, orD, addD, addI, subI, i2, modI, divI, powI, s2, addS_small, addS_tup, addS_lst, addS_int, catL, catT, mulD, repS, repL, eqD, neD, okD, okDs, eqd, eqds, flatD, eqD, sTry, sHand, noEr, sTryAs, unAs, mFld, mIsE, mRepK, kRepK, cmpI, ltI, leI, gtI, geI, isNone, notNone, isN, asB, asT, truD, mNot, mAnd, mOr, vAnd, vOr, vNot, mIf, mNeg, mTup, mTupZ, frz, mLst, mOwn, mCons, mNil, datas, atD_tup, atD_lst, atD_rol, atD_str, seqOf, mNoPart, asI, mSl, slD_tup, slD_lst, slD_rol, slD_str, mIsI, isT, mCB, rds, mCall, mCall0, mMt, chk, isM, mApp, mExt, lenD_str, lenD_tup, lenD_lst, lenD_rol, intD, listD, tupD, mSrc, srcD, rng1, rng2, gTupD, gsCons, gsNil, mChain, thawG, thaw, snapO, MO.below, List.getElem?_cons_succ, List.getElem?_cons_zero, List.length_cons, List.length_nil, List.set_cons_succ, List.set_cons_zero, Int.natAbs_natCast, mTupRev, mCatO, mListO, gItm, minI, maxI, absI, app_take, app_take0, app_get, app_get0, app_set, app_set0, List.take_length, finO_nx, finO_rt, finO_er, finT, finE, hS0] <;> rfl, rfl⟩
end G

namespace G
open PySem DL
/-! ### checks -/
def okC (c : Nat) : Prop := 97 ≤ c ∧ c < 123
def okW (w : List Nat) : Prop := ∀ c ∈ w, okC c
theorem ab_mem {c : Nat} : c ∈ [97, 98, 99, 100, 101, 102, 103, 104, 105, 106, 107, 108, 109, 110, 111, 112, 113, 114, 115, 116, 117, 118, 119, 120, 121, 122] ↔ okC c := by
  simp only [List.mem_cons, List.not_mem_nil, or_false, okC]
  omega
theorem in_letters {c : Nat} (h : okC c) : inD (.str [c]) c_LETTERS = some (.bl true) := by
  have := ab_mem.mpr h
  show some (D.bl (decide (c ∈ [97, 98, 99, 100, 101, 102, 103, 104, 105, 106, 107, 108, 109, 110, 111, 112, 113, 114, 115, 116, 117, 118, 119, 120, 121, 122]))) = _
  rw [decide_eq_true this]
theorem okW_vc {w : List Nat} (h : okW w) : vcB w = true := vcB_of fun c hc => by have := h c hc; unfold okC at this; omega
section
variable {S : Sto} (hS : Cl S)
include hS
theorem int_ok (i : Int) : den_is_integer [.v (.int i)] S = some (.ok (.v (.bl true)) S) := by
  have hS0 := hS _ (Nat.le_refl _)
  refine wp_eq (fnD_wp rfl ?_)
  simp (decide := true) [wp_seq, wp_some, kQ_nx, kQ_rt, kQ_bk, kQ_ct, kQ_er, kL_nx, kL_ct, kL_bk, kL_rt, kL_er, sAsg, sE, sRet, sRetN, sDrop, sIf, sNext, sBreak, sCont, sRaise, sRaiseF, sPar, sAug, gSet, mVar, Mm.bind, Mm.ret, bin, op2, rd, orD, addD, addI, subI, i2, modI, divI, powI, s2, addS_small, addS_tup, addS_lst, addS_int, catL, catT, mulD, repS, repL, eqD, neD, okD, okDs, eqd, eqds, flatD, eqD, sTry, sHand, noEr, sTryAs, unAs, mFld, mIsE, mRepK, kRepK, cmpI, ltI, leI, gtI, geI, isNone, notNone, isN, asB, asT, truD, mNot, mAnd, mOr, vAnd, vOr, vNot, mIf, mNeg, mTup, mTupZ, frz, mLst, mOwn, mCons, mNil, datas, atD_tup, atD_lst, atD_rol, atD_str, seqOf, mNoPart, asI, mSl, slD_tup, slD_lst, slD_rol, slD_str, mIsI, isT, mCB, rds, mCall, mCall0, mMt, chk, isM, mApp, mExt, lenD_str, lenD_tup, lenD_lst, lenD_rol, intD, listD, tupD, mSrc, srcD, rng1, rng2, gTupD, gsCons, gsNil, mChain, thawG, thaw, snapO, MO.below, List.getElem?_cons_succ, List.getElem?_cons_zero, List.length_cons, List.length_nil, List.set_cons_succ, List.set_cons_zero, Int.natAbs_natCast, mTupRev, mCatO, mListO, gItm, minI, maxI, absI, app_take, app_take0, app_get, app_get0, app_set, app_set0, List.take_length, finO_nx, finO_rt, finO_er, finT, finE, su_is_integer_0_0, hS0]
theorem within_ok {i a b : Int} (h1 : a ≤ i) (h2 : i ≤ b) : den_is_within [.v (.int i), .v (.int a), .v (.int b)] S = some (.ok (.v (.bl true)) S) := by
  have hS0 := hS _ (Nat.le_refl _)
  refine wp_eq (fnD_wp rfl ?_)
  simp (decide := true) [wp_seq, wp_some, kQ_nx, kQ_rt, kQ_bk, kQ_ct, kQ_er, kL_nx, kL_ct, kL_bk, kL_rt, kL_er, sAsg, sE, sRet, sRetN, sDrop, sIf, sNext, sBreak, sCont, sRaise, sRaiseF, sPar, sAug, gSet, mVar, Mm.bind, Mm.ret, bin, op2, rd, orD, addD, addI, subI, i2, modI, divI, powI, s2, addS_small, addS_tup, addS_lst, addS_int, catL, catT, mulD, repS, repL, eqD, neD, okD, okDs, eqd, eqds, flatD, eqD, sTry, sHand, noEr, sTryAs, unAs, mFld, mIsE, mRepK, kRepK, cmpI, ltI, leI, gtI, geI, isNone, notNone, isN, asB, asT, truD, mNot, mAnd, mOr, vAnd, vOr, vNot, mIf, mNeg, mTup, mTupZ, frz, mLst, mOwn, mCons, mNil, datas, atD_tup, atD_lst, atD_rol, atD_str, seqOf, mNoPart, asI, mSl, slD_tup, slD_lst, slD_rol, slD_str, mIsI, isT, mCB, rds, mCall, mCall0, mMt, chk, isM, mApp, mExt, lenD_str, lenD_tup, lenD_lst, lenD_rol, intD, listD, tupD, mSrc, srcD, rng1, rng2, gTupD, gsCons, gsNil, mChain, thawG, thaw, snapO, MO.below, List.getElem?_cons_succ, List.getElem?_cons_zero, List.length_cons, List.length_nil, List.set_cons_succ, List.set_cons_zero, Int.natAbs_natCast, mTupRev, mCatO, mListO, gItm, minI, maxI, absI, app_take, app_take0, app_get, app_get0, app_set, app_set0, List.take_length, finO_nx, finO_rt, finO_er, finT, finE, su_is_within_0_0, hS0, int_ok hS, h1, h2]
theorem within_hi {i a b : Int} (h1 : a ≤ i) (h2 : b < i) : den_is_within [.v (.int i), .v (.int a), .v (.int b)] S = some (.ok (.v (.bl false)) S) := by
  have hS0 := hS _ (Nat.le_refl _)
  have h3 : ¬ i ≤ b := by omega
  refine wp_eq (fnD_wp rfl ?_)
  simp (decide := true) [wp_seq, wp_some, kQ_nx, kQ_rt, kQ_bk, kQ_ct, kQ_er, kL_nx, kL_ct, kL_bk, kL_rt, kL_er, sAsg, sE, sRet, sRetN, sDrop, sIf, sNext, sBreak, sCont, sRaise, sRaiseF, sPar, sAug, gSet, mVar, Mm.bind, Mm.ret, bin, op2, rd, orD, addD, addI, subI, i2, modI, divI, powI, s2, addS_small, addS_tup, addS_lst, addS_int, catL, catT, mulD, repS, repL, eqD, neD, okD, okDs, eqd, eqds, flatD, eqD, sTry, sHand, noEr, sTryAs, unAs, mFld, mIsE, mRepK, kRepK, cmpI, ltI, leI, gtI, geI, isNone, notNone, isN, asB, asT, truD, mNot, mAnd, mOr, vAnd, vOr, vNot, mIf, mNeg, mTup, mTupZ, frz, mLst, mOwn, mCons, mNil, datas, atD_tup, atD_lst, atD_rol, atD_str, seqOf, mNoPart, asI, mSl, slD_tup, slD_lst, slD_rol, slD_str, mIsI, isT, mCB, rds, mCall, mCall0, mMt, chk, isM, mApp, mExt, lenD_str, lenD_tup, lenD_lst, lenD_rol, intD, listD, tupD, mSrc, srcD, rng1, rng2, gTupD, gsCons, gsNil, mChain, thawG, thaw, snapO, MO.below, List.getElem?_cons_succ, List.getElem?_cons_zero, List.length_cons, List.length_nil, List.set_cons_succ, List.set_cons_zero, Int.natAbs_natCast, mTupRev, mCatO, mListO, gItm, minI, maxI, absI, app_take, app_take0, app_get, app_get0, app_set, app_set0, List.take_length, finO_nx, finO_rt, finO_er, finT, finE, su_is_within_0_0, hS0, int_ok hS, h1, h3]
theorem tuple_ok {ds : List D} {a b : Int} (h1 : a ≤ ds.length) (h2 : ds.length ≤ b) : den_is_tuple [.v (.tup ds), .v (.int a), .v (.int b)] S = some (.ok (.v (.bl true)) S) := by
  have hS0 := hS _ (Nat.le_refl _)
  refine wp_eq (fnD_wp rfl ?_)
  simp (decide := true) [wp_seq, wp_some, kQ_nx, kQ_rt, kQ_bk, kQ_ct, kQ_er, kL_nx, kL_ct, kL_bk, kL_rt, kL_er, sAsg, sE, sRet, sRetN, sDrop, sIf, sNext, sBreak, sCont, sRaise, sRaiseF, sPar, sAug, gSet, mVar, Mm.bind, Mm.ret, bin, op2, rd, orD, addD, addI, subI, i2, modI, divI, powI, s2, addS_small, addS_tup, addS_lst, addS_int, catL, catT, mulD, repS, repL, eqD, neD, okD, okDs, eqd, eqds, flatD, eqD, sTry, sHand, noEr, sTryAs, unAs, mFld, mIsE, mRepK, kRepK, cmpI, ltI, leI, gtI, geI, isNone, notNone, isN, asB, asT, truD, mNot, mAnd, mOr, vAnd, vOr, vNot, mIf, mNeg, mTup, mTupZ, frz, mLst, mOwn, mCons, mNil, datas, atD_tup, atD_lst, atD_rol, atD_str, seqOf, mNoPart, asI, mSl, slD_tup, slD_lst, slD_rol, slD_str, mIsI, isT, mCB, rds, mCall, mCall0, mMt, chk, isM, mApp, mExt, lenD_str, lenD_tup, lenD_lst, lenD_rol, intD, listD, tupD, mSrc, srcD, rng1, rng2, gTupD, gsCons, gsNil, mChain, thawG, thaw, snapO, MO.below, List.getElem?_cons_succ, List.getElem?_cons_zero, List.length_cons, List.length_nil, List.set_cons_succ, List.set_cons_zero, Int.natAbs_natCast, mTupRev, mCatO, mListO, gItm, minI, maxI, absI, app_take, app_take0, app_get, app_get0, app_set, app_set0, List.take_length, finO_nx, finO_rt, finO_er, finT, finE, su_is_tuple_0_0, hS0, h1, h2]
theorem tuple_lo {ds : List D} {a b : Int} (h1 : ds.length < a) : den_is_tuple [.v (.tup ds), .v (.int a), .v (.int b)] S = some (.ok (.v (.bl false)) S) := by
  have hS0 := hS _ (Nat.le_refl _)
  have h3 : ¬ a ≤ ds.length := by omega
  refine wp_eq (fnD_wp rfl ?_)
  simp (decide := true) [wp_seq, wp_some, kQ_nx, kQ_rt, kQ_bk, kQ_ct, kQ_er, kL_nx, kL_ct, kL_bk, kL_rt, kL_er, sAsg, sE, sRet, sRetN, sDrop, sIf, sNext, sBreak, sCont, sRaise, sRaiseF, sPar, sAug, gSet, mVar, Mm.bind, Mm.ret, bin, op2, rd, orD, addD, addI, subI, i2, modI, divI, powI, s2, addS_small, addS_tup, addS_lst, addS_int, catL, catT, mulD, repS, repL, eqD, neD, okD, okDs, eqd, eqds, flatD, eqD, sTry, sHand, noEr, sTryAs, unAs, mFld, mIsE, mRepK, kRepK, cmpI, ltI, leI, gtI, geI, isNone, notNone, isN, asB, asT, truD, mNot, mAnd, mOr, vAnd, vOr, vNot, mIf, mNeg, mTup, mTupZ, frz, mLst, mOwn, mCons, mNil, datas, atD_tup, atD_lst, atD_rol, atD_str, seqOf, mNoPart, asI, mSl, slD_tup, slD_lst, slD_rol, slD_str, mIsI, isT, mCB, rds, mCall, mCall0, mMt, chk, isM, mApp, mExt, lenD_str, lenD_tup, lenD_lst, lenD_rol, intD, listD, tupD, mSrc, srcD, rng1, rng2, gTupD, gsCons, gsNil, mChain, thawG, thaw, snapO, MO.below, List.getElem?_cons_succ, List.getElem?_cons_zero, List.length_cons, List.length_nil, List.set_cons_succ, List.set_cons_zero, Int.natAbs_natCast, mTupRev, mCatO, mListO, gItm, minI, maxI, absI, app_take, app_take0, app_get, app_get0, app_set, app_set0, List.take_length, finO_nx, finO_rt, finO_er, finT, finE, su_is_tuple_0_0, hS0, h3]
theorem tuple_no {d : D} {a b : Int} (h : isT .tup d = false) : den_is_tuple [.v d, .v (.int a), .v (.int b)] S = some (.ok (.v (.bl false)) S) := by
  have hS0 := hS _ (Nat.le_refl _)
  refine wp_eq (fnD_wp rfl ?_)
  cases d <;> first | (simp (decide := true) [wp_seq, wp_some, kQ_nx, kQ_rt, kQ_bk, kQ_ct, kQ_er, kL_nx, kL_ct, kL_bk, kL_rt, kL_er, sAsg, sE, sRet, sRetN, sDrop, sIf, sNext, sBreak, sCont, sRaise, sRaiseF, sPar, sAug, gSet, mVar, Mm.bind, Mm.ret, bin, op2, rd, orD, addD, addI, subI, i2, modI, divI, powI, s2, addS_small, addS_tup, addS_lst, addS_int, catL, catT, mulD, repS, repL, eqD, neD, okD, okDs, eqd, eqds, flatD, eqD, sTry, sHand, noEr, sTryAs, unAs, mFld, mIsE, mRepK, kRepK, cmpI, ltI, leI, gtI, geI, isNone, notNone, isN, asB, asT, truD, mNot, mAnd, mOr, vAnd, vOr, vNot, mIf, mNeg, mTup, mTupZ, frz, mLst, mOwn, mCons, mNil, datas, atD_tup, atD_lst, atD_rol, atD_str, seqOf, mNoPart, asI, mSl, slD_tup, slD_lst, slD_rol, slD_str, mIsI, isT, mCB, rds, mCall, mCall0, mMt, chk, isM, mApp, mExt, lenD_str, lenD_tup, lenD_lst, lenD_rol, intD, listD, tupD, mSrc, srcD, rng1, rng2, gTupD, gsCons, gsNil, mChain, thawG, thaw, snapO, MO.below, List.getElem?_cons_succ, List.getElem?_cons_zero, List.length_cons, List.length_nil, List.set_cons_succ, List.set_cons_zero, Int.natAbs_natCast, mTupRev, mCatO, mListO, gItm, minI, maxI, absI, app_take, app_take0, app_get, app_get0, app_set, app_set0, List.take_length, finO_nx, finO_rt, finO_er, finT, finE, su_is_tuple_0_0, hS0]; done) | (cases h; done)
theorem word_ok {w : List Nat} (h : okW w) (hl : w.length ≤ 1000) : den_is_word [.v (.str w)] S = some (.ok (.v (.bl true)) S) := by
  have hS0 := hS _ (Nat.le_refl _)
  have hS1 := hS (S.length + 1) (by omega)
  refine wp_eq (fnD_wp rfl ?_)
  have e : lc_is_word_0 [some (.v (.str w)), none] S = some (.ok (.v (.lst ((signs w).map fun _ => .bl true))) S) := by
    unfold lc_is_word_0
    rw [mLc_map (ds := signs w) (S1 := S) (fun _ => .bl true) (by simp (decide := true) [wp_seq, wp_some, kQ_nx, kQ_rt, kQ_bk, kQ_ct, kQ_er, kL_nx, kL_ct, kL_bk, kL_rt, kL_er, sAsg, sE, sRet, sRetN, sDrop, sIf, sNext, sBreak, sCont, sRaise, sRaiseF, sPar, sAug, gSet, mVar, Mm.bind, Mm.ret, bin, op2, rd, orD, addD, addI, subI, i2, modI, divI, powI, s2, addS_small, addS_tup, addS_lst, addS_int, catL, catT, mulD, repS, repL, eqD, neD, okD, okDs, eqd, eqds, flatD, eqD, sTry, sHand, noEr, sTryAs, unAs, mFld, mIsE, mRepK, kRepK, cmpI, ltI, leI, gtI, geI, isNone, notNone, isN, asB, asT, truD, mNot, mAnd, mOr, vAnd, vOr, vNot, mIf, mNeg, mTup, mTupZ, frz, mLst, mOwn, mCons, mNil, datas, atD_tup, atD_lst, atD_rol, atD_str, seqOf, mNoPart, asI, mSl, slD_tup, slD_lst, slD_rol, slD_str, mIsI, isT, mCB, rds, mCall, mCall0, mMt, chk, isM, mApp, mExt, lenD_str, lenD_tup, lenD_lst, lenD_rol, intD, listD, tupD, mSrc, srcD, rng1, rng2, gTupD, gsCons, gsNil, mChain, thawG, thaw, snapO, MO.below, List.getElem?_cons_succ, List.getElem?_cons_zero, List.length_cons, List.length_nil, List.set_cons_succ, List.set_cons_zero, Int.natAbs_natCast, mTupRev, mCatO, mListO, gItm, minI, maxI, absI, app_take, app_take0, app_get, app_get0, app_set, app_set0, List.take_length, finO_nx, finO_rt, finO_er, finT, finE, hS0]) hS0 hS1 (by rw [lineN_eq]; simp [signs]; omega)]
    intro d hd acc
    obtain ⟨c, hc, rfl⟩ := List.mem_map.mp hd
    refine ⟨_, rfl, ?_⟩
    simp (decide := true) [wp_seq, wp_some, kQ_nx, kQ_rt, kQ_bk, kQ_ct, kQ_er, kL_nx, kL_ct, kL_bk, kL_rt, kL_er, sAsg, sE, sRet, sRetN, sDrop, sIf, sNext, sBreak, sCont, sRaise, sRaiseF, sPar, sAug, gSet, mVar, Mm.bind, Mm.ret, bin, op2, rd, orD, addD, addI, subI, i2, modI, divI, powI, s2, addS_small, addS_tup, addS_lst, addS_int, catL, catT, mulD, repS, repL, eqD, neD, okD, okDs, eqd, eqds, flatD, eqD, sTry, sHand, noEr, sTryAs, unAs, mFld, mIsE, mRepK, kRepK, cmpI, ltI, leI, gtI, geI, isNone, notNone, isN, asB, asT, truD, mNot, mAnd, mOr, vAnd, vOr, vNot, mIf, mNeg, mTup, mTupZ, frz, mLst, mOwn, mCons, mNil, datas, atD_tup, atD_lst, atD_rol, atD_str, seqOf, mNoPart, asI, mSl, slD_tup, slD_lst, slD_rol, slD_str, mIsI, isT, mCB, rds, mCall, mCall0, mMt, chk, isM, mApp, mExt, lenD_str, lenD_tup, lenD_lst, lenD_rol, intD, listD, tupD, mSrc, srcD, rng1, rng2, gTupD, gsCons, gsNil, mChain, thawG, thaw, snapO, MO.below, List.getElem?_cons_succ, List.getElem?_cons_zero, List.length_cons, List.length_nil, List.set_cons_succ, List.set_cons_zero, Int.natAbs_natCast, mTupRev, mCatO, mListO, gItm, minI, maxI, absI, app_take, app_take0, app_get, app_get0, app_set, app_set0, List.take_length, finO_nx, finO_rt, finO_er, finT, finE, wipeG, in_letters (h c hc)]
  have h2 := allD_map (fun _ : D => true) (signs w)
  simp (decide := true) [wp_seq, wp_some, kQ_nx, kQ_rt, kQ_bk, kQ_ct, kQ_er, kL_nx, kL_ct, kL_bk, kL_rt, kL_er, sAsg, sE, sRet, sRetN, sDrop, sIf, sNext, sBreak, sCont, sRaise, sRaiseF, sPar, sAug, gSet, mVar, Mm.bind, Mm.ret, bin, op2, rd, orD, addD, addI, subI, i2, modI, divI, powI, s2, addS_small, addS_tup, addS_lst, addS_int, catL, catT, mulD, repS, repL, eqD, neD, okD, okDs, eqd, eqds, flatD, eqD, sTry, sHand, noEr, sTryAs, unAs, mFld, mIsE, mRepK, kRepK, cmpI, ltI, leI, gtI, geI, isNone, notNone, isN, asB, asT, truD, mNot, mAnd, mOr, vAnd, vOr, vNot, mIf, mNeg, mTup, mTupZ, frz, mLst, mOwn, mCons, mNil, datas, atD_tup, atD_lst, atD_rol, atD_str, seqOf, mNoPart, asI, mSl, slD_tup, slD_lst, slD_rol, slD_str, mIsI, isT, mCB, rds, mCall, mCall0, mMt, chk, isM, mApp, mExt, lenD_str, lenD_tup, lenD_lst, lenD_rol, intD, listD, tupD, mSrc, srcD, rng1, rng2, gTupD, gsCons, gsNil, mChain, thawG, thaw, snapO, MO.below, List.getElem?_cons_succ, List.getElem?_cons_zero, List.length_cons, List.length_nil, List.set_cons_succ, List.set_cons_zero, Int.natAbs_natCast, mTupRev, mCatO, mListO, gItm, minI, maxI, absI, app_take, app_take0, app_get, app_get0, app_set, app_set0, List.take_length, finO_nx, finO_rt, finO_er, finT, finE, su_is_word_0_0, hS0, e, h2]
/-- three words -/
def trD (a b c : List Nat) : D := .tup [.str a, .str b, .str c]
theorem triple_ok {a b c : List Nat} (ha : okW a) (hb : okW b) (hc : okW c) (la : a.length ≤ 1000) (lb : b.length ≤ 1000) (lc : c.length ≤ 1000) : den_is_triple [.v (trD a b c)] S = some (.ok (.v (.bl true)) S) := by
  have hS0 := hS _ (Nat.le_refl _)
  have hS1 := hS (S.length + 1) (by omega)
  refine wp_eq (fnD_wp rfl ?_)
  have e : lc_is_triple_0 [some (.v (trD a b c)), none] S = some (.ok (.v (.lst ([D.str a, .str b, .str c].map fun _ => .bl true))) S) := by
    unfold lc_is_triple_0
    rw [mLc_map (ds := [D.str a, .str b, .str c]) (S1 := S) (fun _ => .bl true) (by simp (decide := true) [wp_seq, wp_some, kQ_nx, kQ_rt, kQ_bk, kQ_ct, kQ_er, kL_nx, kL_ct, kL_bk, kL_rt, kL_er, sAsg, sE, sRet, sRetN, sDrop, sIf, sNext, sBreak, sCont, sRaise, sRaiseF, sPar, sAug, gSet, mVar, Mm.bind, Mm.ret, bin, op2, rd, orD, addD, addI, subI, i2, modI, divI, powI, s2, addS_small, addS_tup, addS_lst, addS_int, catL, catT, mulD, repS, repL, eqD, neD, okD, okDs, eqd, eqds, flatD, eqD, sTry, sHand, noEr, sTryAs, unAs, mFld, mIsE, mRepK, kRepK, cmpI, ltI, leI, gtI, geI, isNone, notNone, isN, asB, asT, truD, mNot, mAnd, mOr, vAnd, vOr, vNot, mIf, mNeg, mTup, mTupZ, frz, mLst, mOwn, mCons, mNil, datas, atD_tup, atD_lst, atD_rol, atD_str, seqOf, mNoPart, asI, mSl, slD_tup, slD_lst, slD_rol, slD_str, mIsI, isT, mCB, rds, mCall, mCall0, mMt, chk, isM, mApp, mExt, lenD_str, lenD_tup, lenD_lst, lenD_rol, intD, listD, tupD, mSrc, srcD, rng1, rng2, gTupD, gsCons, gsNil, mChain, thawG, thaw, snapO, MO.below, List.getElem?_cons_succ, List.getElem?_cons_zero, List.length_cons, List.length_nil, List.set_cons_succ, List.set_cons_zero, Int.natAbs_natCast, mTupRev, mCatO, mListO, gItm, minI, maxI, absI, app_take, app_take0, app_get, app_get0, app_set, app_set0, List.take_length, finO_nx, finO_rt, finO_er, finT, finE, hS0, trD]) hS0 hS1 (by show 3 ≤ lineN; decide)]
    intro d hd acc
    refine ⟨_, rfl, ?_⟩
    simp only [List.mem_cons, List.not_mem_nil, or_false] at hd
    rcases hd with rfl | rfl | rfl
    · simp (decide := true) [wp_seq, wp_some, kQ_nx, kQ_rt, kQ_bk, kQ_ct, kQ_er, kL_nx, kL_ct, kL_bk, kL_rt, kL_er, sAsg, sE, sRet, sRetN, sDrop, sIf, sNext, sBreak, sCont, sRaise, sRaiseF, sPar, sAug, gSet, mVar, Mm.bind, Mm.ret, bin, op2, rd, orD, addD, addI, subI, i2, modI, divI, powI, s2, addS_small, addS_tup, addS_lst, addS_int, catL, catT, mulD, repS, repL, eqD, neD, okD, okDs, eqd, eqds, flatD, eqD, sTry, sHand, noEr, sTryAs, unAs, mFld, mIsE, mRepK, kRepK, cmpI, ltI, leI, gtI, geI, isNone, notNone, isN, asB, asT, truD, mNot, mAnd, mOr, vAnd, vOr, vNot, mIf, mNeg, mTup, mTupZ, frz, mLst, mOwn, mCons, mNil, datas, atD_tup, atD_lst, atD_rol, atD_str, seqOf, mNoPart, asI, mSl, slD_tup, slD_lst, slD_rol, slD_str, mIsI, isT, mCB, rds, mCall, mCall0, mMt, chk, isM, mApp, mExt, lenD_str, lenD_tup, lenD_lst, lenD_rol, intD, listD, tupD, mSrc, srcD, rng1, rng2, gTupD, gsCons, gsNil, mChain, thawG, thaw, snapO, MO.below, List.getElem?_cons_succ, List.getElem?_cons_zero, List.length_cons, List.length_nil, List.set_cons_succ, List.set_cons_zero, Int.natAbs_natCast, mTupRev, mCatO, mListO, gItm, minI, maxI, absI, app_take, app_take0, app_get, app_get0, app_set, app_set0, List.take_length, finO_nx, finO_rt, finO_er, finT, finE, wipeG, word_ok (hS.lst acc) ha la]
    · simp (decide := true) [wp_seq, wp_some, kQ_nx, kQ_rt, kQ_bk, kQ_ct, kQ_er, kL_nx, kL_ct, kL_bk, kL_rt, kL_er, sAsg, sE, sRet, sRetN, sDrop, sIf, sNext, sBreak, sCont, sRaise, sRaiseF, sPar, sAug, gSet, mVar, Mm.bind, Mm.ret, bin, op2, rd, orD, addD, addI, subI, i2, modI, divI, powI, s2, addS_small, addS_tup, addS_lst, addS_int, catL, catT, mulD, repS, repL, eqD, neD, okD, okDs, eqd, eqds, flatD, eqD, sTry, sHand, noEr, sTryAs, unAs, mFld, mIsE, mRepK, kRepK, cmpI, ltI, leI, gtI, geI, isNone, notNone, isN, asB, asT, truD, mNot, mAnd, mOr, vAnd, vOr, vNot, mIf, mNeg, mTup, mTupZ, frz, mLst, mOwn, mCons, mNil, datas, atD_tup, atD_lst, atD_rol, atD_str, seqOf, mNoPart, asI, mSl, slD_tup, slD_lst, slD_rol, slD_str, mIsI, isT, mCB, rds, mCall, mCall0, mMt, chk, isM, mApp, mExt, lenD_str, lenD_tup, lenD_lst, lenD_rol, intD, listD, tupD, mSrc, srcD, rng1, rng2, gTupD, gsCons, gsNil, mChain, thawG, thaw, snapO, MO.below, List.getElem?_cons_succ, List.getElem?_cons_zero, List.length_cons, List.length_nil, List.set_cons_succ, List.set_cons_zero, Int.natAbs_natCast, mTupRev, mCatO, mListO, gItm, minI, maxI, absI, app_take, app_take0, app_get, app_get0, app_set, app_set0, List.take_length, finO_nx, finO_rt, finO_er, finT, finE, wipeG, word_ok (hS.lst acc) hb lb]
    · simp (decide := true) [wp_seq, wp_some, kQ_nx, kQ_rt, kQ_bk, kQ_ct, kQ_er, kL_nx, kL_ct, kL_bk, kL_rt, kL_er, sAsg, sE, sRet, sRetN, sDrop, sIf, sNext, sBreak, sCont, sRaise, sRaiseF, sPar, sAug, gSet, mVar, Mm.bind, Mm.ret, bin, op2, rd, orD, addD, addI, subI, i2, modI, divI, powI, s2, addS_small, addS_tup, addS_lst, addS_int, catL, catT, mulD, repS, repL, eqD, neD, okD, okDs, eqd, eqds, flatD, eqD, sTry, sHand, noEr, sTryAs, unAs, mFld, mIsE, mRepK, kRepK, cmpI, ltI, leI, gtI, geI, isNone, notNone, isN, asB, asT, truD, mNot, mAnd, mOr, vAnd, vOr, vNot, mIf, mNeg, mTup, mTupZ, frz, mLst, mOwn, mCons, mNil, datas, atD_tup, atD_lst, atD_rol, atD_str, seqOf, mNoPart, asI, mSl, slD_tup, slD_lst, slD_rol, slD_str, mIsI, isT, mCB, rds, mCall, mCall0, mMt, chk, isM, mApp, mExt, lenD_str, lenD_tup, lenD_lst, lenD_rol, intD, listD, tupD, mSrc, srcD, rng1, rng2, gTupD, gsCons, gsNil, mChain, thawG, thaw, snapO, MO.below, List.getElem?_cons_succ, List.getElem?_cons_zero, List.length_cons, List.length_nil, List.set_cons_succ, List.set_cons_zero, Int.natAbs_natCast, mTupRev, mCatO, mListO, gItm, minI, maxI, absI, app_take, app_take0, app_get, app_get0, app_set, app_set0, List.take_length, finO_nx, finO_rt, finO_er, finT, finE, wipeG, word_ok (hS.lst acc) hc lc]
  unfold trD at e
  have t := tuple_ok hS (ds := [D.str a, .str b, .str c]) (a := 3) (b := 3) (by show (3 : Int) ≤ 3; decide) (by show (3 : Int) ≤ 3; decide)
  simp (decide := true) [wp_seq, wp_some, kQ_nx, kQ_rt, kQ_bk, kQ_ct, kQ_er, kL_nx, kL_ct, kL_bk, kL_rt, kL_er, sAsg, sE, sRet, sRetN, sDrop, sIf, sNext, sBreak, sCont, sRaise, sRaiseF, sPar, sAug, gSet, mVar, Mm.bind, Mm.ret, bin, op2, rd, orD, addD, addI, subI, i2, modI, divI, powI, s2, addS_small, addS_tup, addS_lst, addS_int, catL, catT, mulD, repS, repL, eqD, neD, okD, okDs, eqd, eqds, flatD, eqD, sTry, sHand, noEr, sTryAs, unAs, mFld, mIsE, mRepK, kRepK, cmpI, ltI, leI, gtI, geI, isNone, notNone, isN, asB, asT, truD, mNot, mAnd, mOr, vAnd, vOr, vNot, mIf, mNeg, mTup, mTupZ, frz, mLst, mOwn, mCons, mNil, datas, atD_tup, atD_lst, atD_rol, atD_str, seqOf, mNoPart, asI, mSl, slD_tup, slD_lst, slD_rol, slD_str, mIsI, isT, mCB, rds, mCall, mCall0, mMt, chk, isM, mApp, mExt, lenD_str, lenD_tup, lenD_lst, lenD_rol, intD, listD, tupD, mSrc, srcD, rng1, rng2, gTupD, gsCons, gsNil, mChain, thawG, thaw, snapO, MO.below, List.getElem?_cons_succ, List.getElem?_cons_zero, List.length_cons, List.length_nil, List.set_cons_succ, List.set_cons_zero, Int.natAbs_natCast, mTupRev, mCatO, mListO, gItm, minI, maxI, absI, app_take, app_take0, app_get, app_get0, app_set, app_set0, List.take_length, finO_nx, finO_rt, finO_er, finT, finE, su_is_triple_0_0, hS0, trD, e, t, allD, boolsOf]
theorem triple_short {ds : List D} (h : ds.length < 3) : den_is_triple [.v (.tup ds)] S = some (.ok (.v (.bl false)) S) := by
  have hS0 := hS _ (Nat.le_refl _)
  refine wp_eq (fnD_wp rfl ?_)
  have t := tuple_lo hS (ds := ds) (a := 3) (b := 3) (by omega)
  simp (decide := true) [wp_seq, wp_some, kQ_nx, kQ_rt, kQ_bk, kQ_ct, kQ_er, kL_nx, kL_ct, kL_bk, kL_rt, kL_er, sAsg, sE, sRet, sRetN, sDrop, sIf, sNext, sBreak, sCont, sRaise, sRaiseF, sPar, sAug, gSet, mVar, Mm.bind, Mm.ret, bin, op2, rd, orD, addD, addI, subI, i2, modI, divI, powI, s2, addS_small, addS_tup, addS_lst, addS_int, catL, catT, mulD, repS, repL, eqD, neD, okD, okDs, eqd, eqds, flatD, eqD, sTry, sHand, noEr, sTryAs, unAs, mFld, mIsE, mRepK, kRepK, cmpI, ltI, leI, gtI, geI, isNone, notNone, isN, asB, asT, truD, mNot, mAnd, mOr, vAnd, vOr, vNot, mIf, mNeg, mTup, mTupZ, frz, mLst, mOwn, mCons, mNil, datas, atD_tup, atD_lst, atD_rol, atD_str, seqOf, mNoPart, asI, mSl, slD_tup, slD_lst, slD_rol, slD_str, mIsI, isT, mCB, rds, mCall, mCall0, mMt, chk, isM, mApp, mExt, lenD_str, lenD_tup, lenD_lst, lenD_rol, intD, listD, tupD, mSrc, srcD, rng1, rng2, gTupD, gsCons, gsNil, mChain, thawG, thaw, snapO, MO.below, List.getElem?_cons_succ, List.getElem?_cons_zero, List.length_cons, List.length_nil, List.set_cons_succ, List.set_cons_zero, Int.natAbs_natCast, mTupRev, mCatO, mListO, gItm, minI, maxI, absI, app_take, app_take0, app_get, app_get0, app_set, app_set0, List.take_length, finO_nx, finO_rt, finO_er, finT, finE, su_is_triple_0_0, hS0, t]
theorem triple_no {d : D} (h : isT .tup d = false) : den_is_triple [.v d] S = some (.ok (.v (.bl false)) S) := by
  have hS0 := hS _ (Nat.le_refl _)
  refine wp_eq (fnD_wp rfl ?_)
  have t := tuple_no hS (a := 3) (b := 3) h
  simp (decide := true) [wp_seq, wp_some, kQ_nx, kQ_rt, kQ_bk, kQ_ct, kQ_er, kL_nx, kL_ct, kL_bk, kL_rt, kL_er, sAsg, sE, sRet, sRetN, sDrop, sIf, sNext, sBreak, sCont, sRaise, sRaiseF, sPar, sAug, gSet, mVar, Mm.bind, Mm.ret, bin, op2, rd, orD, addD, addI, subI, i2, modI, divI, powI, s2, addS_small, addS_tup, addS_lst, addS_int, catL, catT, mulD, repS, repL, eqD, neD, okD, okDs, eqd, eqds, flatD, eqD, sTry, sHand, noEr, sTryAs, unAs, mFld, mIsE, mRepK, kRepK, cmpI, ltI, leI, gtI, geI, isNone, notNone, isN, asB, asT, truD, mNot, mAnd, mOr, vAnd, vOr, vNot, mIf, mNeg, mTup, mTupZ, frz, mLst, mOwn, mCons, mNil, datas, atD_tup, atD_lst, atD_rol, atD_str, seqOf, mNoPart, asI, mSl, slD_tup, slD_lst, slD_rol, slD_str, mIsI, isT, mCB, rds, mCall, mCall0, mMt, chk, isM, mApp, mExt, lenD_str, lenD_tup, lenD_lst, lenD_rol, intD, listD, tupD, mSrc, srcD, rng1, rng2, gTupD, gsCons, gsNil, mChain, thawG, thaw, snapO, MO.below, List.getElem?_cons_succ, List.getElem?_cons_zero, List.length_cons, List.length_nil, List.set_cons_succ, List.set_cons_zero, Int.natAbs_natCast, mTupRev, mCatO, mListO, gItm, minI, maxI, absI, app_take, app_take0, app_get, app_get0, app_set, app_set0, List.take_length, finO_nx, finO_rt, finO_er, finT, finE, su_is_triple_0_0, hS0, t]
theorem ctriple_ok {d : D} (h : den_is_triple [.v d] S = some (.ok (.v (.bl true)) S)) : den_check_triple [.v d] S = some (.ok (.v .non) S) := by
  have hS0 := hS _ (Nat.le_refl _)
  refine wp_eq (fnD_wp rfl ?_)
  simp (decide := true) [wp_seq, wp_some, kQ_nx, kQ_rt, kQ_bk, kQ_ct, kQ_er, kL_nx, kL_ct, kL_bk, kL_rt, kL_er, sAsg, sE, sRet, sRetN, sDrop, sIf, sNext, sBreak, sCont, sRaise, sRaiseF, sPar, sAug, gSet, mVar, Mm.bind, Mm.ret, bin, op2, rd, orD, addD, addI, subI, i2, modI, divI, powI, s2, addS_small, addS_tup, addS_lst, addS_int, catL, catT, mulD, repS, repL, eqD, neD, okD, okDs, eqd, eqds, flatD, eqD, sTry, sHand, noEr, sTryAs, unAs, mFld, mIsE, mRepK, kRepK, cmpI, ltI, leI, gtI, geI, isNone, notNone, isN, asB, asT, truD, mNot, mAnd, mOr, vAnd, vOr, vNot, mIf, mNeg, mTup, mTupZ, frz, mLst, mOwn, mCons, mNil, datas, atD_tup, atD_lst, atD_rol, atD_str, seqOf, mNoPart, asI, mSl, slD_tup, slD_lst, slD_rol, slD_str, mIsI, isT, mCB, rds, mCall, mCall0, mMt, chk, isM, mApp, mExt, lenD_str, lenD_tup, lenD_lst, lenD_rol, intD, listD, tupD, mSrc, srcD, rng1, rng2, gTupD, gsCons, gsNil, mChain, thawG, thaw, snapO, MO.below, List.getElem?_cons_succ, List.getElem?_cons_zero, List.length_cons, List.length_nil, List.set_cons_succ, List.set_cons_zero, Int.natAbs_natCast, mTupRev, mCatO, mListO, gItm, minI, maxI, absI, app_take, app_take0, app_get, app_get0, app_set, app_set0, List.take_length, finO_nx, finO_rt, finO_er, finT, finE, su_check_triple_0_0, hS0, h]
theorem ctriple_bad {d : D} (h : den_is_triple [.v d] S = some (.ok (.v (.bl false)) S)) : den_check_triple [.v d] S = some (.er "NoTriple" none S) := by
  have hS0 := hS _ (Nat.le_refl _)
  refine wp_eq (fnD_wp rfl ?_)
  simp (decide := true) [wp_seq, wp_some, kQ_nx, kQ_rt, kQ_bk, kQ_ct, kQ_er, kL_nx, kL_ct, kL_bk, kL_rt, kL_er, sAsg, sE, sRet, sRetN, sDrop, sIf, sNext, sBreak, sCont, sRaise, sRaiseF, sPar, sAug, gSet, mVar, Mm.bind, Mm.ret, bin, op2, rd, orD, addD, addI, subI, i2, modI, divI, powI, s2, addS_small, addS_tup, addS_lst, addS_int, catL, catT, mulD, repS, repL, eqD, neD, okD, okDs, eqd, eqds, flatD, eqD, sTry, sHand, noEr, sTryAs, unAs, mFld, mIsE, mRepK, kRepK, cmpI, ltI, leI, gtI, geI, isNone, notNone, isN, asB, asT, truD, mNot, mAnd, mOr, vAnd, vOr, vNot, mIf, mNeg, mTup, mTupZ, frz, mLst, mOwn, mCons, mNil, datas, atD_tup, atD_lst, atD_rol, atD_str, seqOf, mNoPart, asI, mSl, slD_tup, slD_lst, slD_rol, slD_str, mIsI, isT, mCB, rds, mCall, mCall0, mMt, chk, isM, mApp, mExt, lenD_str, lenD_tup, lenD_lst, lenD_rol, intD, listD, tupD, mSrc, srcD, rng1, rng2, gTupD, gsCons, gsNil, mChain, thawG, thaw, snapO, MO.below, List.getElem?_cons_succ, List.getElem?_cons_zero, List.length_cons, List.length_nil, List.set_cons_succ, List.set_cons_zero, Int.natAbs_natCast, mTupRev, mCatO, mListO, gItm, minI, maxI, absI, app_take, app_take0, app_get, app_get0, app_set, app_set0, List.take_length, finO_nx, finO_rt, finO_er, finT, finE, su_check_triple_0_0, su_check_triple_1_0, hS0, h]
theorem letter_ok {c : Nat} (h : okC c) : den_is_letter [.v (.str [c])] S = some (.ok (.v (.bl true)) S) := by
  have hS0 := hS _ (Nat.le_refl _)
  refine wp_eq (fnD_wp rfl ?_)
  simp (decide := true) [wp_seq, wp_some, kQ_nx, kQ_rt, kQ_bk, kQ_ct, kQ_er, kL_nx, kL_ct, kL_bk, kL_rt, kL_er, sAsg, sE, sRet, sRetN, sDrop, sIf, sNext, sBreak, sCont, sRaise, sRaiseF, sPar, sAug, gSet, mVar, Mm.bind, Mm.ret, bin, op2, rd, orD, addD, addI, subI, i2, modI, divI, powI, s2, addS_small, addS_tup, addS_lst, addS_int, catL, catT, mulD, repS, repL, eqD, neD, okD, okDs, eqd, eqds, flatD, eqD, sTry, sHand, noEr, sTryAs, unAs, mFld, mIsE, mRepK, kRepK, cmpI, ltI, leI, gtI, geI, isNone, notNone, isN, asB, asT, truD, mNot, mAnd, mOr, vAnd, vOr, vNot, mIf, mNeg, mTup, mTupZ, frz, mLst, mOwn, mCons, mNil, datas, atD_tup, atD_lst, atD_rol, atD_str, seqOf, mNoPart, asI, mSl, slD_tup, slD_lst, slD_rol, slD_str, mIsI, isT, mCB, rds, mCall, mCall0, mMt, chk, isM, mApp, mExt, lenD_str, lenD_tup, lenD_lst, lenD_rol, intD, listD, tupD, mSrc, srcD, rng1, rng2, gTupD, gsCons, gsNil, mChain, thawG, thaw, snapO, MO.below, List.getElem?_cons_succ, List.getElem?_cons_zero, List.length_cons, List.length_nil, List.set_cons_succ, List.set_cons_zero, Int.natAbs_natCast, mTupRev, mCatO, mListO, gItm, minI, maxI, absI, app_take, app_take0, app_get, app_get0, app_set, app_set0, List.take_length, finO_nx, finO_rt, finO_er, finT, finE, su_is_letter_0_0, hS0, in_letters h, DL.lineN_one]
end
end G

namespace G
open PySem DL
/-! ### edits in plain words -/
inductive Ed where
  | put (p a c : Nat)
  | cut (p a : Nat)
  | turn (p a c : Nat)
structure Tri where
  x : List Nat
  y : List Nat
  z : List Nat
def Tri.at (t : Tri) : Nat → List Nat
  | 0 => t.x
  | 1 => t.y
  | _ => t.z
def Tri.put (t : Tri) (w : List Nat) : Nat → Tri
  | 0 => ⟨w, t.y, t.z⟩
  | 1 => ⟨t.x, w, t.z⟩
  | _ => ⟨t.x, t.y, w⟩
def Tri.d (t : Tri) : D := trD t.x t.y t.z
def Ed.p : Ed → Nat
  | .put p _ _ => p
  | .cut p _ => p
  | .turn p _ _ => p
def kput : List Nat := [112, 117, 116]
def kcut : List Nat := [99, 117, 116]
def kturn : List Nat := [116, 117, 114, 110]
def plc (p : Nat) : List Nat := [120 + p]
def Ed.d : Ed → D
  | .put p a c => .tup [.str (plc p), .str kput, .int a, .str [c]]
  | .cut p a => .tup [.str (plc p), .str kcut, .int a]
  | .turn p a c => .tup [.str (plc p), .str kturn, .int a, .str [c]]
/-- fits a triple -/
def Ed.ok (t : Tri) : Ed → Prop
  | .put p a c => p < 3 ∧ a ≤ (t.at p).length ∧ okC c
  | .cut p a => p < 3 ∧ a < (t.at p).length
  | .turn p a c => p < 3 ∧ a < (t.at p).length ∧ okC c
def Ed.word (w : List Nat) : Ed → List Nat
  | .put _ a c => w.take a ++ [c] ++ w.drop a
  | .cut _ a => w.take a ++ w.drop (a + 1)
  | .turn _ a c => w.take a ++ [c] ++ w.drop (a + 1)
def Ed.go (t : Tri) (e : Ed) : Tri := t.put (e.word (t.at e.p)) e.p
def Ed.back (t : Tri) : Ed → Ed
  | .put p a _ => .cut p a
  | .cut p a => .put p a ((t.at p)[a]?.getD 0)
  | .turn p a _ => .turn p a ((t.at p)[a]?.getD 0)
/-- words of letters, not too long -/
structure Tri.ok (t : Tri) : Prop where
  x : okW t.x
  y : okW t.y
  z : okW t.z
  lx : t.x.length ≤ 39
  ly : t.y.length ≤ 39
  lz : t.z.length ≤ 39
theorem Tri.ok.at {t : Tri} (h : t.ok) (p : Nat) : okW (t.at p) ∧ (t.at p).length ≤ 39 := by
  match p with
  | 0 => exact ⟨h.x, h.lx⟩
  | 1 => exact ⟨h.y, h.ly⟩
  | n + 2 => exact ⟨h.z, h.lz⟩
theorem Tri.ok.put {t : Tri} (h : t.ok) {w : List Nat} (hw : okW w) (hl : w.length ≤ 39) (p : Nat) : (t.put w p).ok := by
  match p with
  | 0 => exact ⟨hw, h.y, h.z, hl, h.ly, h.lz⟩
  | 1 => exact ⟨h.x, hw, h.z, h.lx, hl, h.lz⟩
  | n + 2 => exact ⟨h.x, h.y, hw, h.lx, h.ly, hl⟩
theorem put_at (t : Tri) (w : List Nat) (p : Nat) : (t.put w p).at p = w := by
  match p with
  | 0 => rfl
  | 1 => rfl
  | n + 2 => rfl
theorem put_put (t : Tri) (w v : List Nat) (p : Nat) : (t.put w p).put v p = t.put v p := by
  match p with
  | 0 => rfl
  | 1 => rfl
  | n + 2 => rfl
theorem put_same (t : Tri) (p : Nat) : t.put (t.at p) p = t := by
  match p with
  | 0 => rfl
  | 1 => rfl
  | n + 2 => rfl
theorem okW_take {w : List Nat} (h : okW w) (a : Nat) : okW (w.take a) := fun c hc => h c (List.mem_of_mem_take hc)
theorem okW_drop {w : List Nat} (h : okW w) (a : Nat) : okW (w.drop a) := fun c hc => h c (List.mem_of_mem_drop hc)
theorem okW_app {w v : List Nat} (h : okW w) (k : okW v) : okW (w ++ v) := fun c hc => (List.mem_append.mp hc).elim (h c) (k c)
theorem okW_one {c : Nat} (h : okC c) : okW [c] := fun x hx => by simp at hx; subst hx; exact h
theorem word_okW {t : Tri} {e : Ed} (he : e.ok t) (h : okW (t.at e.p)) : okW (e.word (t.at e.p)) := by
  cases e with
  | put p a c => exact okW_app (okW_app (okW_take h a) (okW_one he.2.2)) (okW_drop h a)
  | cut p a => exact okW_app (okW_take h a) (okW_drop h (a + 1))
  | turn p a c => exact okW_app (okW_app (okW_take h a) (okW_one he.2.2)) (okW_drop h (a + 1))
theorem getD_okC {w : List Nat} (h : okW w) {a : Nat} (ha : a < w.length) : okC (w[a]?.getD 0) := by
  rw [List.getElem?_eq_getElem ha]
  exact h _ (List.getElem_mem ha)
theorem ins_len (w : List Nat) (a c : Nat) (h : a ≤ w.length) : (w.take a ++ [c] ++ w.drop a).length = w.length + 1 := by simp; omega
theorem rep_len (w : List Nat) (a c : Nat) (h : a < w.length) : (w.take a ++ [c] ++ w.drop (a + 1)).length = w.length := by simp; omega
theorem del_len (w : List Nat) (a : Nat) (h : a < w.length) : (w.take a ++ w.drop (a + 1)).length = w.length - 1 := by simp; omega
/-- the edit that leads back can be done -/
theorem back_ok {t : Tri} {e : Ed} (he : e.ok t) (h : okW (t.at e.p)) : (e.back t).ok (e.go t) := by
  cases e with
  | put p a c =>
    refine ⟨he.1, ?_⟩
    show a < ((t.put _ p).at p).length
    rw [put_at]
    show a < (_ : List Nat).length
    have := ins_len (t.at p) a c he.2.1
    have e2 : (Ed.put p a c).word (t.at (Ed.put p a c).p) = (t.at p).take a ++ [c] ++ (t.at p).drop a := rfl
    rw [e2, this]
    have := he.2.1
    omega
  | cut p a =>
    refine ⟨he.1, ?_, getD_okC h he.2⟩
    show a ≤ ((t.put _ p).at p).length
    rw [put_at]
    have e2 : (Ed.cut p a).word (t.at (Ed.cut p a).p) = (t.at p).take a ++ (t.at p).drop (a + 1) := rfl
    rw [e2, del_len _ _ he.2]
    have := he.2
    omega
  | turn p a c =>
    refine ⟨he.1, ?_, getD_okC h he.2.1⟩
    show a < ((t.put _ p).at p).length
    rw [put_at]
    have e2 : (Ed.turn p a c).word (t.at (Ed.turn p a c).p) = (t.at p).take a ++ [c] ++ (t.at p).drop (a + 1) := rfl
    rw [e2, rep_len _ _ _ he.2.1]
    exact he.2.1
theorem take_drop_mid {w : List Nat} {a : Nat} (h : a < w.length) : w.take a ++ [w[a]?.getD 0] ++ w.drop (a + 1) = w := by
  rw [List.getElem?_eq_getElem h]
  simp
theorem take_ins {w : List Nat} {a : Nat} (h : a ≤ w.length) (v : List Nat) : (w.take a ++ v).take a = w.take a := by
  rw [List.take_append_of_le_length (by simp; omega), List.take_take, Nat.min_self]
theorem drop_ins {w : List Nat} {a : Nat} (h : a ≤ w.length) (v : List Nat) : (w.take a ++ v).drop a = v := by
  have : (w.take a).length = a := by simp; omega
  rw [List.drop_append, List.drop_of_length_le (by omega), this]
  simp
theorem drop_ins1 {w : List Nat} {a c : Nat} (h : a ≤ w.length) (v : List Nat) : (w.take a ++ [c] ++ v).drop (a + 1) = v := by
  have : (w.take a ++ [c]).length = a + 1 := by simp; omega
  rw [List.drop_append, List.drop_of_length_le (by omega), this]
  simp
/-- .. and leads back -/
theorem back_go {t : Tri} {e : Ed} (he : e.ok t) : (e.back t).go (e.go t) = t := by
  cases e with
  | put p a c =>
    show (t.put _ p).put _ p = t
    rw [put_put]
    show t.put (((t.put _ p).at p).take a ++ ((t.put _ p).at p).drop (a + 1)) p = t
    rw [put_at]
    show t.put (((t.at p).take a ++ [c] ++ (t.at p).drop a).take a ++ ((t.at p).take a ++ [c] ++ (t.at p).drop a).drop (a + 1)) p = t
    rw [List.append_assoc, take_ins he.2.1, ← List.append_assoc, drop_ins1 he.2.1, List.take_append_drop, put_same]
  | cut p a =>
    show (t.put _ p).put _ p = t
    rw [put_put]
    show t.put (((t.put _ p).at p).take a ++ [(t.at p)[a]?.getD 0] ++ ((t.put _ p).at p).drop a) p = t
    rw [put_at]
    show t.put (((t.at p).take a ++ (t.at p).drop (a + 1)).take a ++ [(t.at p)[a]?.getD 0] ++ ((t.at p).take a ++ (t.at p).drop (a + 1)).drop a) p = t
    rw [take_ins (Nat.le_of_lt he.2), drop_ins (Nat.le_of_lt he.2), take_drop_mid he.2, put_same]
  | turn p a c =>
    show (t.put _ p).put _ p = t
    rw [put_put]
    show t.put (((t.put _ p).at p).take a ++ [(t.at p)[a]?.getD 0] ++ ((t.put _ p).at p).drop (a + 1)) p = t
    rw [put_at]
    show t.put (((t.at p).take a ++ [c] ++ (t.at p).drop (a + 1)).take a ++ [(t.at p)[a]?.getD 0] ++ ((t.at p).take a ++ [c] ++ (t.at p).drop (a + 1)).drop (a + 1)) p = t
    have h1 : ((t.at p).take a ++ [c] ++ (t.at p).drop (a + 1)).take a = (t.at p).take a := by
      rw [List.append_assoc]
      exact take_ins (Nat.le_of_lt he.2.1) _
    rw [h1, drop_ins1 (Nat.le_of_lt he.2.1), take_drop_mid he.2.1, put_same]
/-- .. and its own back is the edit -/
theorem back_back {t : Tri} {e : Ed} (he : e.ok t) : (e.back t).back (e.go t) = e := by
  cases e with
  | put p a c =>
    show Ed.put p a (((t.put _ p).at p)[a]?.getD 0) = .put p a c
    rw [put_at]
    show Ed.put p a (((t.at p).take a ++ [c] ++ (t.at p).drop a)[a]?.getD 0) = .put p a c
    have hl : ((t.at p).take a).length = a := by have := he.2.1; simp; omega
    rw [List.append_assoc, List.getElem?_append_right (by omega), hl]
    simp
  | cut p a => rfl
  | turn p a c =>
    show Ed.turn p a (((t.put _ p).at p)[a]?.getD 0) = .turn p a c
    rw [put_at]
    show Ed.turn p a (((t.at p).take a ++ [c] ++ (t.at p).drop (a + 1))[a]?.getD 0) = .turn p a c
    have hl : ((t.at p).take a).length = a := by have := he.2.1; simp; omega
    rw [List.append_assoc, List.getElem?_append_right (by omega), hl]
    simp
end G

namespace G
open PySem DL
theorem okC_plc {p : Nat} (h : p < 3) : okC (120 + p) := by unfold okC; omega
theorem ni_plc {p : Nat} (h : p < 3) : niD (.str [120 + p]) c_PLACES = some (.bl false) := by
  rcases (by omega : p = 0 ∨ p = 1 ∨ p = 2) with rfl | rfl | rfl <;> rfl
theorem ix_plc {p : Nat} (h : p < 3) : indexD c_PLACES [.str [120 + p]] = some (.int p) := by
  rcases (by omega : p = 0 ∨ p = 1 ∨ p = 2) with rfl | rfl | rfl <;> rfl
theorem ix_xyz {p : Nat} (h : p < 3) : indexD (.str [120, 121, 122]) [.str [120 + p]] = some (.int p) := ix_plc h
theorem at_tri {t : Tri} {p : Nat} (h : p < 3) : atD t.d (.int p) = some (.str (t.at p)) := by
  rcases (by omega : p = 0 ∨ p = 1 ∨ p = 2) with rfl | rfl | rfl <;> rfl
theorem lo_tri {t : Tri} {p : Nat} (h : p < 3) : ∃ us vs : List D, slD none (some (p : Int)) t.d = some (.tup us) ∧ slD (some ((p : Int) + 1)) none t.d = some (.tup vs) ∧ us.length ≤ 3 ∧ vs.length ≤ 3 ∧ ∀ w : List Nat, .tup (us ++ [.str w] ++ vs) = (t.put w p).d := by
  rcases (by omega : p = 0 ∨ p = 1 ∨ p = 2) with rfl | rfl | rfl
  · exact ⟨[], [.str t.y, .str t.z], rfl, rfl, by decide, by show 2 ≤ 3; decide, fun w => rfl⟩
  · exact ⟨[.str t.x], [.str t.z], rfl, rfl, by show 1 ≤ 3; decide, by show 1 ≤ 3; decide, fun w => rfl⟩
  · exact ⟨[.str t.x, .str t.y], [], rfl, rfl, by show 2 ≤ 3; decide, by decide, fun w => rfl⟩
theorem ni_put : niD (.str [112, 117, 116]) (.tup [.str [112, 117, 116], .str [116, 117, 114, 110]]) = some (.bl false) := rfl
theorem ni_turn : niD (.str [116, 117, 114, 110]) (.tup [.str [112, 117, 116], .str [116, 117, 114, 110]]) = some (.bl false) := rfl
theorem rd_d (S : Sto) (d : D) : rd S (.v d) = some d := rfl
theorem at4_0 (a b c d : D) : L2.atI [a, b, c, d] 0 = some a := rfl
theorem at4_1 (a b c d : D) : L2.atI [a, b, c, d] 1 = some b := rfl
theorem at4_2 (a b c d : D) : L2.atI [a, b, c, d] 2 = some c := rfl
theorem at4_3 (a b c d : D) : L2.atI [a, b, c, d] 3 = some d := rfl
theorem at3_0 (a b c : D) : L2.atI [a, b, c] 0 = some a := rfl
theorem at3_1 (a b c : D) : L2.atI [a, b, c] 1 = some b := rfl
theorem at3_2 (a b c : D) : L2.atI [a, b, c] 2 = some c := rfl
section
variable {S : Sto} (hS : Cl S)
include hS
theorem rawis_ok {t : Tri} (ht : t.ok) {e : Ed} (he : e.ok t) : den_raw_is_edit [.v t.d, .v e.d] S = some (.ok (.v (.bl true)) S) := by
  have hS0 := hS _ (Nat.le_refl _)
  refine wp_eq (fnD_wp rfl ?_)
  have hl := (ht.at e.p).2
  have hl' : (t.at e.p).length ≤ lineN := by rw [lineN_eq]; omega
  cases e with
  | put p a c =>
    obtain ⟨hp, ha, hc⟩ := he
    have t1 := tuple_ok hS (ds := [.str (plc p), .str kput, .int a, .str [c]]) (a := 3) (b := 4) (by show (3 : Int) ≤ 4; decide) (by show (4 : Int) ≤ 4; decide)
    have l1 := letter_ok hS (okC_plc hp)
    have l2 := letter_ok hS hc
    have w1 := within_ok hS (i := (a : Int)) (a := 0) (b := (t.at p).length) (by omega) (by omega)
    have hl2 : (t.at p).length ≤ lineN := hl'
    unfold plc kput at t1
    have r1 := rd_d S t.d
    simp (decide := true) [wp_seq, wp_some, kQ_nx, kQ_rt, kQ_bk, kQ_ct, kQ_er, kL_nx, kL_ct, kL_bk, kL_rt, kL_er, sAsg, sE, sRet, sRetN, sDrop, sIf, sNext, sBreak, sCont, sRaise, sRaiseF, sPar, sAug, gSet, mVar, Mm.bind, Mm.ret, bin, op2, rd, orD, addD, addI, subI, i2, modI, divI, powI, s2, addS_small, addS_tup, addS_lst, addS_int, catL, catT, mulD, repS, repL, eqD, neD, okD, okDs, eqd, eqds, flatD, eqD, sTry, sHand, noEr, sTryAs, unAs, mFld, mIsE, mRepK, kRepK, cmpI, ltI, leI, gtI, geI, isNone, notNone, isN, asB, asT, truD, mNot, mAnd, mOr, vAnd, vOr, vNot, mIf, mNeg, mTup, mTupZ, frz, mLst, mOwn, mCons, mNil, datas, atD_tup, atD_lst, atD_rol, atD_str, seqOf, mNoPart, asI, mSl, slD_tup, slD_lst, slD_rol, slD_str, mIsI, isT, mCB, rds, mCall, mCall0, mMt, chk, isM, mApp, mExt, lenD_str, lenD_tup, lenD_lst, lenD_rol, intD, listD, tupD, mSrc, srcD, rng1, rng2, gTupD, gsCons, gsNil, mChain, thawG, thaw, snapO, MO.below, List.getElem?_cons_succ, List.getElem?_cons_zero, List.length_cons, List.length_nil, List.set_cons_succ, List.set_cons_zero, Int.natAbs_natCast, mTupRev, mCatO, mListO, gItm, minI, maxI, absI, app_take, app_take0, app_get, app_get0, app_set, app_set0, List.take_length, finO_nx, finO_rt, finO_er, finT, finE, su_raw_is_edit_0_0, hS0, Ed.d, plc, kput, t1, at4_0, at4_1, at4_2, at4_3, l1, ni_plc hp]
    simp (decide := true) [wp_seq, wp_some, kQ_nx, kQ_rt, kQ_bk, kQ_ct, kQ_er, kL_nx, kL_ct, kL_bk, kL_rt, kL_er, sAsg, sE, sRet, sRetN, sDrop, sIf, sNext, sBreak, sCont, sRaise, sRaiseF, sPar, sAug, gSet, mVar, Mm.bind, Mm.ret, bin, op2, rd, orD, addD, addI, subI, i2, modI, divI, powI, s2, addS_small, addS_tup, addS_lst, addS_int, catL, catT, mulD, repS, repL, eqD, neD, okD, okDs, eqd, eqds, flatD, eqD, sTry, sHand, noEr, sTryAs, unAs, mFld, mIsE, mRepK, kRepK, cmpI, ltI, leI, gtI, geI, isNone, notNone, isN, asB, asT, truD, mNot, mAnd, mOr, vAnd, vOr, vNot, mIf, mNeg, mTup, mTupZ, frz, mLst, mOwn, mCons, mNil, datas, atD_tup, atD_lst, atD_rol, atD_str, seqOf, mNoPart, asI, mSl, slD_tup, slD_lst, slD_rol, slD_str, mIsI, isT, mCB, rds, mCall, mCall0, mMt, chk, isM, mApp, mExt, lenD_str, lenD_tup, lenD_lst, lenD_rol, intD, listD, tupD, mSrc, srcD, rng1, rng2, gTupD, gsCons, gsNil, mChain, thawG, thaw, snapO, MO.below, List.getElem?_cons_succ, List.getElem?_cons_zero, List.length_cons, List.length_nil, List.set_cons_succ, List.set_cons_zero, Int.natAbs_natCast, mTupRev, mCatO, mListO, gItm, minI, maxI, absI, app_take, app_take0, app_get, app_get0, app_set, app_set0, List.take_length, finO_nx, finO_rt, finO_er, finT, finE, su_raw_is_edit_0_1, at4_0, show c_PLACES = .str [120, 121, 122] from rfl, ix_xyz hp, at_tri hp, hl2]
    simp (decide := true) [wp_seq, wp_some, kQ_nx, kQ_rt, kQ_bk, kQ_ct, kQ_er, kL_nx, kL_ct, kL_bk, kL_rt, kL_er, sAsg, sE, sRet, sRetN, sDrop, sIf, sNext, sBreak, sCont, sRaise, sRaiseF, sPar, sAug, gSet, mVar, Mm.bind, Mm.ret, bin, op2, rd, orD, addD, addI, subI, i2, modI, divI, powI, s2, addS_small, addS_tup, addS_lst, addS_int, catL, catT, mulD, repS, repL, eqD, neD, okD, okDs, eqd, eqds, flatD, eqD, sTry, sHand, noEr, sTryAs, unAs, mFld, mIsE, mRepK, kRepK, cmpI, ltI, leI, gtI, geI, isNone, notNone, isN, asB, asT, truD, mNot, mAnd, mOr, vAnd, vOr, vNot, mIf, mNeg, mTup, mTupZ, frz, mLst, mOwn, mCons, mNil, datas, atD_tup, atD_lst, atD_rol, atD_str, seqOf, mNoPart, asI, mSl, slD_tup, slD_lst, slD_rol, slD_str, mIsI, isT, mCB, rds, mCall, mCall0, mMt, chk, isM, mApp, mExt, lenD_str, lenD_tup, lenD_lst, lenD_rol, intD, listD, tupD, mSrc, srcD, rng1, rng2, gTupD, gsCons, gsNil, mChain, thawG, thaw, snapO, MO.below, List.getElem?_cons_succ, List.getElem?_cons_zero, List.length_cons, List.length_nil, List.set_cons_succ, List.set_cons_zero, Int.natAbs_natCast, mTupRev, mCatO, mListO, gItm, minI, maxI, absI, app_take, app_take0, app_get, app_get0, app_set, app_set0, List.take_length, finO_nx, finO_rt, finO_er, finT, finE, su_raw_is_edit_0_2, su_raw_is_edit_0_3, su_raw_is_edit_0_4, su_raw_is_edit_0_5, hS0, at4_0, at4_1, at4_2, at4_3, c_PUT, c_CUT, c_TURN, ni_put, l2, w1]
  | cut p a =>
    obtain ⟨hp, ha⟩ := he
    have t1 := tuple_ok hS (ds := [.str (plc p), .str kcut, .int a]) (a := 3) (b := 4) (by show (3 : Int) ≤ 3; decide) (by show (3 : Int) ≤ 4; decide)
    have l1 := letter_ok hS (okC_plc hp)
    have w1 := within_ok hS (i := (a : Int)) (a := 0) (b := (t.at p).length - 1) (by omega) (by omega)
    have hl2 : (t.at p).length ≤ lineN := hl'
    unfold plc kcut at t1
    simp (decide := true) [wp_seq, wp_some, kQ_nx, kQ_rt, kQ_bk, kQ_ct, kQ_er, kL_nx, kL_ct, kL_bk, kL_rt, kL_er, sAsg, sE, sRet, sRetN, sDrop, sIf, sNext, sBreak, sCont, sRaise, sRaiseF, sPar, sAug, gSet, mVar, Mm.bind, Mm.ret, bin, op2, rd, orD, addD, addI, subI, i2, modI, divI, powI, s2, addS_small, addS_tup, addS_lst, addS_int, catL, catT, mulD, repS, repL, eqD, neD, okD, okDs, eqd, eqds, flatD, eqD, sTry, sHand, noEr, sTryAs, unAs, mFld, mIsE, mRepK, kRepK, cmpI, ltI, leI, gtI, geI, isNone, notNone, isN, asB, asT, truD, mNot, mAnd, mOr, vAnd, vOr, vNot, mIf, mNeg, mTup, mTupZ, frz, mLst, mOwn, mCons, mNil, datas, atD_tup, atD_lst, atD_rol, atD_str, seqOf, mNoPart, asI, mSl, slD_tup, slD_lst, slD_rol, slD_str, mIsI, isT, mCB, rds, mCall, mCall0, mMt, chk, isM, mApp, mExt, lenD_str, lenD_tup, lenD_lst, lenD_rol, intD, listD, tupD, mSrc, srcD, rng1, rng2, gTupD, gsCons, gsNil, mChain, thawG, thaw, snapO, MO.below, List.getElem?_cons_succ, List.getElem?_cons_zero, List.length_cons, List.length_nil, List.set_cons_succ, List.set_cons_zero, Int.natAbs_natCast, mTupRev, mCatO, mListO, gItm, minI, maxI, absI, app_take, app_take0, app_get, app_get0, app_set, app_set0, List.take_length, finO_nx, finO_rt, finO_er, finT, finE, su_raw_is_edit_0_0, hS0, Ed.d, plc, kcut, t1, at3_0, at3_1, at3_2, l1, ni_plc hp]
    simp (decide := true) [wp_seq, wp_some, kQ_nx, kQ_rt, kQ_bk, kQ_ct, kQ_er, kL_nx, kL_ct, kL_bk, kL_rt, kL_er, sAsg, sE, sRet, sRetN, sDrop, sIf, sNext, sBreak, sCont, sRaise, sRaiseF, sPar, sAug, gSet, mVar, Mm.bind, Mm.ret, bin, op2, rd, orD, addD, addI, subI, i2, modI, divI, powI, s2, addS_small, addS_tup, addS_lst, addS_int, catL, catT, mulD, repS, repL, eqD, neD, okD, okDs, eqd, eqds, flatD, eqD, sTry, sHand, noEr, sTryAs, unAs, mFld, mIsE, mRepK, kRepK, cmpI, ltI, leI, gtI, geI, isNone, notNone, isN, asB, asT, truD, mNot, mAnd, mOr, vAnd, vOr, vNot, mIf, mNeg, mTup, mTupZ, frz, mLst, mOwn, mCons, mNil, datas, atD_tup, atD_lst, atD_rol, atD_str, seqOf, mNoPart, asI, mSl, slD_tup, slD_lst, slD_rol, slD_str, mIsI, isT, mCB, rds, mCall, mCall0, mMt, chk, isM, mApp, mExt, lenD_str, lenD_tup, lenD_lst, lenD_rol, intD, listD, tupD, mSrc, srcD, rng1, rng2, gTupD, gsCons, gsNil, mChain, thawG, thaw, snapO, MO.below, List.getElem?_cons_succ, List.getElem?_cons_zero, List.length_cons, List.length_nil, List.set_cons_succ, List.set_cons_zero, Int.natAbs_natCast, mTupRev, mCatO, mListO, gItm, minI, maxI, absI, app_take, app_take0, app_get, app_get0, app_set, app_set0, List.take_length, finO_nx, finO_rt, finO_er, finT, finE, su_raw_is_edit_0_1, at3_0, show c_PLACES = .str [120, 121, 122] from rfl, ix_xyz hp, at_tri hp, hl2]
    simp (decide := true) [wp_seq, wp_some, kQ_nx, kQ_rt, kQ_bk, kQ_ct, kQ_er, kL_nx, kL_ct, kL_bk, kL_rt, kL_er, sAsg, sE, sRet, sRetN, sDrop, sIf, sNext, sBreak, sCont, sRaise, sRaiseF, sPar, sAug, gSet, mVar, Mm.bind, Mm.ret, bin, op2, rd, orD, addD, addI, subI, i2, modI, divI, powI, s2, addS_small, addS_tup, addS_lst, addS_int, catL, catT, mulD, repS, repL, eqD, neD, okD, okDs, eqd, eqds, flatD, eqD, sTry, sHand, noEr, sTryAs, unAs, mFld, mIsE, mRepK, kRepK, cmpI, ltI, leI, gtI, geI, isNone, notNone, isN, asB, asT, truD, mNot, mAnd, mOr, vAnd, vOr, vNot, mIf, mNeg, mTup, mTupZ, frz, mLst, mOwn, mCons, mNil, datas, atD_tup, atD_lst, atD_rol, atD_str, seqOf, mNoPart, asI, mSl, slD_tup, slD_lst, slD_rol, slD_str, mIsI, isT, mCB, rds, mCall, mCall0, mMt, chk, isM, mApp, mExt, lenD_str, lenD_tup, lenD_lst, lenD_rol, intD, listD, tupD, mSrc, srcD, rng1, rng2, gTupD, gsCons, gsNil, mChain, thawG, thaw, snapO, MO.below, List.getElem?_cons_succ, List.getElem?_cons_zero, List.length_cons, List.length_nil, List.set_cons_succ, List.set_cons_zero, Int.natAbs_natCast, mTupRev, mCatO, mListO, gItm, minI, maxI, absI, app_take, app_take0, app_get, app_get0, app_set, app_set0, List.take_length, finO_nx, finO_rt, finO_er, finT, finE, su_raw_is_edit_0_2, su_raw_is_edit_0_3, su_raw_is_edit_3_0, hS0, at3_0, at3_1, at3_2, c_PUT, c_CUT, c_TURN, w1]
  | turn p a c =>
    obtain ⟨hp, ha, hc⟩ := he
    have t1 := tuple_ok hS (ds := [.str (plc p), .str kturn, .int a, .str [c]]) (a := 3) (b := 4) (by show (3 : Int) ≤ 4; decide) (by show (4 : Int) ≤ 4; decide)
    have l1 := letter_ok hS (okC_plc hp)
    have l2 := letter_ok hS hc
    have w1 := within_ok hS (i := (a : Int)) (a := 0) (b := (t.at p).length - 1) (by omega) (by omega)
    have hl2 : (t.at p).length ≤ lineN := hl'
    unfold plc kturn at t1
    simp (decide := true) [wp_seq, wp_some, kQ_nx, kQ_rt, kQ_bk, kQ_ct, kQ_er, kL_nx, kL_ct, kL_bk, kL_rt, kL_er, sAsg, sE, sRet, sRetN, sDrop, sIf, sNext, sBreak, sCont, sRaise, sRaiseF, sPar, sAug, gSet, mVar, Mm.bind, Mm.ret, bin, op2, rd, orD, addD, addI, subI, i2, modI, divI, powI, s2, addS_small, addS_tup, addS_lst, addS_int, catL, catT, mulD, repS, repL, eqD, neD, okD, okDs, eqd, eqds, flatD, eqD, sTry, sHand, noEr, sTryAs, unAs, mFld, mIsE, mRepK, kRepK, cmpI, ltI, leI, gtI, geI, isNone, notNone, isN, asB, asT, truD, mNot, mAnd, mOr, vAnd, vOr, vNot, mIf, mNeg, mTup, mTupZ, frz, mLst, mOwn, mCons, mNil, datas, atD_tup, atD_lst, atD_rol, atD_str, seqOf, mNoPart, asI, mSl, slD_tup, slD_lst, slD_rol, slD_str, mIsI, isT, mCB, rds, mCall, mCall0, mMt, chk, isM, mApp, mExt, lenD_str, lenD_tup, lenD_lst, lenD_rol, intD, listD, tupD, mSrc, srcD, rng1, rng2, gTupD, gsCons, gsNil, mChain, thawG, thaw, snapO, MO.below, List.getElem?_cons_succ, List.getElem?_cons_zero, List.length_cons, List.length_nil, List.set_cons_succ, List.set_cons_zero, Int.natAbs_natCast, mTupRev, mCatO, mListO, gItm, minI, maxI, absI, app_take, app_take0, app_get, app_get0, app_set, app_set0, List.take_length, finO_nx, finO_rt, finO_er, finT, finE, su_raw_is_edit_0_0, hS0, Ed.d, plc, kturn, t1, at4_0, at4_1, at4_2, at4_3, l1, ni_plc hp]
    simp (decide := true) [wp_seq, wp_some, kQ_nx, kQ_rt, kQ_bk, kQ_ct, kQ_er, kL_nx, kL_ct, kL_bk, kL_rt, kL_er, sAsg, sE, sRet, sRetN, sDrop, sIf, sNext, sBreak, sCont, sRaise, sRaiseF, sPar, sAug, gSet, mVar, Mm.bind, Mm.ret, bin, op2, rd, orD, addD, addI, subI, i2, modI, divI, powI, s2, addS_small, addS_tup, addS_lst, addS_int, catL, catT, mulD, repS, repL, eqD, neD, okD, okDs, eqd, eqds, flatD, eqD, sTry, sHand, noEr, sTryAs, unAs, mFld, mIsE, mRepK, kRepK, cmpI, ltI, leI, gtI, geI, isNone, notNone, isN, asB, asT, truD, mNot, mAnd, mOr, vAnd, vOr, vNot, mIf, mNeg, mTup, mTupZ, frz, mLst, mOwn, mCons, mNil, datas, atD_tup, atD_lst, atD_rol, atD_str, seqOf, mNoPart, asI, mSl, slD_tup, slD_lst, slD_rol, slD_str, mIsI, isT, mCB, rds, mCall, mCall0, mMt, chk, isM, mApp, mExt, lenD_str, lenD_tup, lenD_lst, lenD_rol, intD, listD, tupD, mSrc, srcD, rng1, rng2, gTupD, gsCons, gsNil, mChain, thawG, thaw, snapO, MO.below, List.getElem?_cons_succ, List.getElem?_cons_zero, List.length_cons, List.length_nil, List.set_cons_succ, List.set_cons_zero, Int.natAbs_natCast, mTupRev, mCatO, mListO, gItm, minI, maxI, absI, app_take, app_take0, app_get, app_get0, app_set, app_set0, List.take_length, finO_nx, finO_rt, finO_er, finT, finE, su_raw_is_edit_0_1, at4_0, show c_PLACES = .str [120, 121, 122] from rfl, ix_xyz hp, at_tri hp, hl2]
    simp (decide := true) [wp_seq, wp_some, kQ_nx, kQ_rt, kQ_bk, kQ_ct, kQ_er, kL_nx, kL_ct, kL_bk, kL_rt, kL_er, sAsg, sE, sRet, sRetN, sDrop, sIf, sNext, sBreak, sCont, sRaise, sRaiseF, sPar, sAug, gSet, mVar, Mm.bind, Mm.ret, bin, op2, rd, orD, addD, addI, subI, i2, modI, divI, powI, s2, addS_small, addS_tup, addS_lst, addS_int, catL, catT, mulD, repS, repL, eqD, neD, okD, okDs, eqd, eqds, flatD, eqD, sTry, sHand, noEr, sTryAs, unAs, mFld, mIsE, mRepK, kRepK, cmpI, ltI, leI, gtI, geI, isNone, notNone, isN, asB, asT, truD, mNot, mAnd, mOr, vAnd, vOr, vNot, mIf, mNeg, mTup, mTupZ, frz, mLst, mOwn, mCons, mNil, datas, atD_tup, atD_lst, atD_rol, atD_str, seqOf, mNoPart, asI, mSl, slD_tup, slD_lst, slD_rol, slD_str, mIsI, isT, mCB, rds, mCall, mCall0, mMt, chk, isM, mApp, mExt, lenD_str, lenD_tup, lenD_lst, lenD_rol, intD, listD, tupD, mSrc, srcD, rng1, rng2, gTupD, gsCons, gsNil, mChain, thawG, thaw, snapO, MO.below, List.getElem?_cons_succ, List.getElem?_cons_zero, List.length_cons, List.length_nil, List.set_cons_succ, List.set_cons_zero, Int.natAbs_natCast, mTupRev, mCatO, mListO, gItm, minI, maxI, absI, app_take, app_take0, app_get, app_get0, app_set, app_set0, List.take_length, finO_nx, finO_rt, finO_er, finT, finE, su_raw_is_edit_0_2, su_raw_is_edit_0_3, su_raw_is_edit_0_4, su_raw_is_edit_0_5, hS0, at4_0, at4_1, at4_2, at4_3, c_PUT, c_CUT, c_TURN, ni_turn, l2, w1]
end
end G

namespace G
open PySem DL
theorem at2_0 (a b : D) : L2.atI [a, b] 0 = some a := rfl
theorem at2_1 (a b : D) : L2.atI [a, b] 1 = some b := rfl
theorem cut3 (l : List D) : cutD l none (some 3) = l.take 3 := cut_take l 3
theorem at_getD {w : List Nat} {a : Nat} (h : a < w.length) : L2.atI w (a : Int) = some (w[a]?.getD 0) := by
  rw [atI_nat (List.getElem?_eq_getElem h), List.getElem?_eq_getElem h]
  rfl
section
variable {S : Sto} (hS : Cl S)
include hS
theorem rawed_ok {t : Tri} (ht : t.ok) {e : Ed} (he : e.ok t) : den_raw_edited [.v t.d, .v e.d] S = some (.ok (.v (e.go t).d) S) := by
  have hS0 := hS _ (Nat.le_refl _)
  refine wp_eq (fnD_wp rfl ?_)
  have hl := (ht.at e.p).2
  have hl' : (t.at e.p).length ≤ lineN := by rw [lineN_eq]; omega
  cases e with
  | put p a c =>
    obtain ⟨hp, ha, hc⟩ := he
    have hl2 : (t.at p).length ≤ lineN := hl'
    have hl3 : (t.at p).length ≤ 39 := hl
    obtain ⟨us, vs, h1, h2, h3, h4, h5⟩ := lo_tri (t := t) hp
    have q1 : us.length + 1 ≤ lineN := by rw [lineN_eq]; omega
    have q2 : us.length + 1 + vs.length ≤ lineN := by rw [lineN_eq]; omega
    have q3 : us.length + (vs.length + 1) ≤ lineN := by rw [lineN_eq]; omega
    simp (decide := true) (disch := (first | omega | ((try simp only [List.length_append, List.length_cons, List.length_nil, List.length_take, List.length_drop, lineN_eq]); omega))) [wp_seq, wp_some, kQ_nx, kQ_rt, kQ_bk, kQ_ct, kQ_er, kL_nx, kL_ct, kL_bk, kL_rt, kL_er, sAsg, sE, sRet, sRetN, sDrop, sIf, sNext, sBreak, sCont, sRaise, sRaiseF, sPar, sAug, gSet, mVar, Mm.bind, Mm.ret, bin, op2, rd, orD, addD, addI, subI, i2, modI, divI, powI, s2, addS_small, addS_tup, addS_lst, addS_int, catL, catT, mulD, repS, repL, eqD, neD, okD, okDs, eqd, eqds, flatD, eqD, sTry, sHand, noEr, sTryAs, unAs, mFld, mIsE, mRepK, kRepK, cmpI, ltI, leI, gtI, geI, isNone, notNone, isN, asB, asT, truD, mNot, mAnd, mOr, vAnd, vOr, vNot, mIf, mNeg, mTup, mTupZ, frz, mLst, mOwn, mCons, mNil, datas, atD_tup, atD_lst, atD_rol, atD_str, seqOf, mNoPart, asI, mSl, slD_tup, slD_lst, slD_rol, slD_str, mIsI, isT, mCB, rds, mCall, mCall0, mMt, chk, isM, mApp, mExt, lenD_str, lenD_tup, lenD_lst, lenD_rol, intD, listD, tupD, mSrc, srcD, rng1, rng2, gTupD, gsCons, gsNil, mChain, thawG, thaw, snapO, MO.below, List.getElem?_cons_succ, List.getElem?_cons_zero, List.length_cons, List.length_nil, List.set_cons_succ, List.set_cons_zero, Int.natAbs_natCast, mTupRev, mCatO, mListO, gItm, minI, maxI, absI, app_take, app_take0, app_get, app_get0, app_set, app_set0, List.take_length, finO_nx, finO_rt, finO_er, finT, finE, mulI_small, su_raw_edited_0_0, Ed.d, plc, kput, at4_0, at4_2, show c_PLACES = .str [120, 121, 122] from rfl, ix_xyz hp, su_raw_edited_0_1, at_tri hp]
    simp (decide := true) (disch := (first | omega | ((try simp only [List.length_append, List.length_cons, List.length_nil, List.length_take, List.length_drop, lineN_eq]); omega))) [wp_seq, wp_some, kQ_nx, kQ_rt, kQ_bk, kQ_ct, kQ_er, kL_nx, kL_ct, kL_bk, kL_rt, kL_er, sAsg, sE, sRet, sRetN, sDrop, sIf, sNext, sBreak, sCont, sRaise, sRaiseF, sPar, sAug, gSet, mVar, Mm.bind, Mm.ret, bin, op2, rd, orD, addD, addI, subI, i2, modI, divI, powI, s2, addS_small, addS_tup, addS_lst, addS_int, catL, catT, mulD, repS, repL, eqD, neD, okD, okDs, eqd, eqds, flatD, eqD, sTry, sHand, noEr, sTryAs, unAs, mFld, mIsE, mRepK, kRepK, cmpI, ltI, leI, gtI, geI, isNone, notNone, isN, asB, asT, truD, mNot, mAnd, mOr, vAnd, vOr, vNot, mIf, mNeg, mTup, mTupZ, frz, mLst, mOwn, mCons, mNil, datas, atD_tup, atD_lst, atD_rol, atD_str, seqOf, mNoPart, asI, mSl, slD_tup, slD_lst, slD_rol, slD_str, mIsI, isT, mCB, rds, mCall, mCall0, mMt, chk, isM, mApp, mExt, lenD_str, lenD_tup, lenD_lst, lenD_rol, intD, listD, tupD, mSrc, srcD, rng1, rng2, gTupD, gsCons, gsNil, mChain, thawG, thaw, snapO, MO.below, List.getElem?_cons_succ, List.getElem?_cons_zero, List.length_cons, List.length_nil, List.set_cons_succ, List.set_cons_zero, Int.natAbs_natCast, mTupRev, mCatO, mListO, gItm, minI, maxI, absI, app_take, app_take0, app_get, app_get0, app_set, app_set0, List.take_length, finO_nx, finO_rt, finO_er, finT, finE, mulI_small, su_raw_edited_0_2, at4_1, at4_3, c_PUT, su_raw_edited_1_0, hl2, cut_take, cut_drop]
    simp (decide := true) (disch := (first | omega | ((try simp only [List.length_append, List.length_cons, List.length_nil, List.length_take, List.length_drop, lineN_eq]); omega))) [wp_seq, wp_some, kQ_nx, kQ_rt, kQ_bk, kQ_ct, kQ_er, kL_nx, kL_ct, kL_bk, kL_rt, kL_er, sAsg, sE, sRet, sRetN, sDrop, sIf, sNext, sBreak, sCont, sRaise, sRaiseF, sPar, sAug, gSet, mVar, Mm.bind, Mm.ret, bin, op2, rd, orD, addD, addI, subI, i2, modI, divI, powI, s2, addS_small, addS_tup, addS_lst, addS_int, catL, catT, mulD, repS, repL, eqD, neD, okD, okDs, eqd, eqds, flatD, eqD, sTry, sHand, noEr, sTryAs, unAs, mFld, mIsE, mRepK, kRepK, cmpI, ltI, leI, gtI, geI, isNone, notNone, isN, asB, asT, truD, mNot, mAnd, mOr, vAnd, vOr, vNot, mIf, mNeg, mTup, mTupZ, frz, mLst, mOwn, mCons, mNil, datas, atD_tup, atD_lst, atD_rol, atD_str, seqOf, mNoPart, asI, mSl, slD_tup, slD_lst, slD_rol, slD_str, mIsI, isT, mCB, rds, mCall, mCall0, mMt, chk, isM, mApp, mExt, lenD_str, lenD_tup, lenD_lst, lenD_rol, intD, listD, tupD, mSrc, srcD, rng1, rng2, gTupD, gsCons, gsNil, mChain, thawG, thaw, snapO, MO.below, List.getElem?_cons_succ, List.getElem?_cons_zero, List.length_cons, List.length_nil, List.set_cons_succ, List.set_cons_zero, Int.natAbs_natCast, mTupRev, mCatO, mListO, gItm, minI, maxI, absI, app_take, app_take0, app_get, app_get0, app_set, app_set0, List.take_length, finO_nx, finO_rt, finO_er, finT, finE, mulI_small, su_raw_edited_0_3, h1, h2, q1, q2, q3, hS0]
    have := h5 ((t.at p).take a ++ [c] ++ (t.at p).drop a)
    simpa [Ed.go, Ed.word, Ed.p] using this
  | cut p a =>
    obtain ⟨hp, ha⟩ := he
    have hl2 : (t.at p).length ≤ lineN := hl'
    have hl3 : (t.at p).length ≤ 39 := hl
    obtain ⟨us, vs, h1, h2, h3, h4, h5⟩ := lo_tri (t := t) hp
    have q1 : us.length + 1 ≤ lineN := by rw [lineN_eq]; omega
    have q2 : us.length + 1 + vs.length ≤ lineN := by rw [lineN_eq]; omega
    have q3 : us.length + (vs.length + 1) ≤ lineN := by rw [lineN_eq]; omega
    simp (decide := true) (disch := (first | omega | ((try simp only [List.length_append, List.length_cons, List.length_nil, List.length_take, List.length_drop, lineN_eq]); omega))) [wp_seq, wp_some, kQ_nx, kQ_rt, kQ_bk, kQ_ct, kQ_er, kL_nx, kL_ct, kL_bk, kL_rt, kL_er, sAsg, sE, sRet, sRetN, sDrop, sIf, sNext, sBreak, sCont, sRaise, sRaiseF, sPar, sAug, gSet, mVar, Mm.bind, Mm.ret, bin, op2, rd, orD, addD, addI, subI, i2, modI, divI, powI, s2, addS_small, addS_tup, addS_lst, addS_int, catL, catT, mulD, repS, repL, eqD, neD, okD, okDs, eqd, eqds, flatD, eqD, sTry, sHand, noEr, sTryAs, unAs, mFld, mIsE, mRepK, kRepK, cmpI, ltI, leI, gtI, geI, isNone, notNone, isN, asB, asT, truD, mNot, mAnd, mOr, vAnd, vOr, vNot, mIf, mNeg, mTup, mTupZ, frz, mLst, mOwn, mCons, mNil, datas, atD_tup, atD_lst, atD_rol, atD_str, seqOf, mNoPart, asI, mSl, slD_tup, slD_lst, slD_rol, slD_str, mIsI, isT, mCB, rds, mCall, mCall0, mMt, chk, isM, mApp, mExt, lenD_str, lenD_tup, lenD_lst, lenD_rol, intD, listD, tupD, mSrc, srcD, rng1, rng2, gTupD, gsCons, gsNil, mChain, thawG, thaw, snapO, MO.below, List.getElem?_cons_succ, List.getElem?_cons_zero, List.length_cons, List.length_nil, List.set_cons_succ, List.set_cons_zero, Int.natAbs_natCast, mTupRev, mCatO, mListO, gItm, minI, maxI, absI, app_take, app_take0, app_get, app_get0, app_set, app_set0, List.take_length, finO_nx, finO_rt, finO_er, finT, finE, mulI_small, su_raw_edited_0_0, Ed.d, plc, kcut, at3_0, at3_2, show c_PLACES = .str [120, 121, 122] from rfl, ix_xyz hp, su_raw_edited_0_1, at_tri hp]
    simp (decide := true) (disch := (first | omega | ((try simp only [List.length_append, List.length_cons, List.length_nil, List.length_take, List.length_drop, lineN_eq]); omega))) [wp_seq, wp_some, kQ_nx, kQ_rt, kQ_bk, kQ_ct, kQ_er, kL_nx, kL_ct, kL_bk, kL_rt, kL_er, sAsg, sE, sRet, sRetN, sDrop, sIf, sNext, sBreak, sCont, sRaise, sRaiseF, sPar, sAug, gSet, mVar, Mm.bind, Mm.ret, bin, op2, rd, orD, addD, addI, subI, i2, modI, divI, powI, s2, addS_small, addS_tup, addS_lst, addS_int, catL, catT, mulD, repS, repL, eqD, neD, okD, okDs, eqd, eqds, flatD, eqD, sTry, sHand, noEr, sTryAs, unAs, mFld, mIsE, mRepK, kRepK, cmpI, ltI, leI, gtI, geI, isNone, notNone, isN, asB, asT, truD, mNot, mAnd, mOr, vAnd, vOr, vNot, mIf, mNeg, mTup, mTupZ, frz, mLst, mOwn, mCons, mNil, datas, atD_tup, atD_lst, atD_rol, atD_str, seqOf, mNoPart, asI, mSl, slD_tup, slD_lst, slD_rol, slD_str, mIsI, isT, mCB, rds, mCall, mCall0, mMt, chk, isM, mApp, mExt, lenD_str, lenD_tup, lenD_lst, lenD_rol, intD, listD, tupD, mSrc, srcD, rng1, rng2, gTupD, gsCons, gsNil, mChain, thawG, thaw, snapO, MO.below, List.getElem?_cons_succ, List.getElem?_cons_zero, List.length_cons, List.length_nil, List.set_cons_succ, List.set_cons_zero, Int.natAbs_natCast, mTupRev, mCatO, mListO, gItm, minI, maxI, absI, app_take, app_take0, app_get, app_get0, app_set, app_set0, List.take_length, finO_nx, finO_rt, finO_er, finT, finE, mulI_small, su_raw_edited_0_2, at3_1, c_PUT, c_TURN, su_raw_edited_2_0, hl2, cut_take, cut_drop1]
    simp (decide := true) (disch := (first | omega | ((try simp only [List.length_append, List.length_cons, List.length_nil, List.length_take, List.length_drop, lineN_eq]); omega))) [wp_seq, wp_some, kQ_nx, kQ_rt, kQ_bk, kQ_ct, kQ_er, kL_nx, kL_ct, kL_bk, kL_rt, kL_er, sAsg, sE, sRet, sRetN, sDrop, sIf, sNext, sBreak, sCont, sRaise, sRaiseF, sPar, sAug, gSet, mVar, Mm.bind, Mm.ret, bin, op2, rd, orD, addD, addI, subI, i2, modI, divI, powI, s2, addS_small, addS_tup, addS_lst, addS_int, catL, catT, mulD, repS, repL, eqD, neD, okD, okDs, eqd, eqds, flatD, eqD, sTry, sHand, noEr, sTryAs, unAs, mFld, mIsE, mRepK, kRepK, cmpI, ltI, leI, gtI, geI, isNone, notNone, isN, asB, asT, truD, mNot, mAnd, mOr, vAnd, vOr, vNot, mIf, mNeg, mTup, mTupZ, frz, mLst, mOwn, mCons, mNil, datas, atD_tup, atD_lst, atD_rol, atD_str, seqOf, mNoPart, asI, mSl, slD_tup, slD_lst, slD_rol, slD_str, mIsI, isT, mCB, rds, mCall, mCall0, mMt, chk, isM, mApp, mExt, lenD_str, lenD_tup, lenD_lst, lenD_rol, intD, listD, tupD, mSrc, srcD, rng1, rng2, gTupD, gsCons, gsNil, mChain, thawG, thaw, snapO, MO.below, List.getElem?_cons_succ, List.getElem?_cons_zero, List.length_cons, List.length_nil, List.set_cons_succ, List.set_cons_zero, Int.natAbs_natCast, mTupRev, mCatO, mListO, gItm, minI, maxI, absI, app_take, app_take0, app_get, app_get0, app_set, app_set0, List.take_length, finO_nx, finO_rt, finO_er, finT, finE, mulI_small, su_raw_edited_0_3, h1, h2, q1, q2, q3, hS0]
    have := h5 ((t.at p).take a ++ (t.at p).drop (a + 1))
    simpa [Ed.go, Ed.word, Ed.p] using this
  | turn p a c =>
    obtain ⟨hp, ha, hc⟩ := he
    have hl2 : (t.at p).length ≤ lineN := hl'
    have hl3 : (t.at p).length ≤ 39 := hl
    obtain ⟨us, vs, h1, h2, h3, h4, h5⟩ := lo_tri (t := t) hp
    have q1 : us.length + 1 ≤ lineN := by rw [lineN_eq]; omega
    have q2 : us.length + 1 + vs.length ≤ lineN := by rw [lineN_eq]; omega
    have q3 : us.length + (vs.length + 1) ≤ lineN := by rw [lineN_eq]; omega
    simp (decide := true) (disch := (first | omega | ((try simp only [List.length_append, List.length_cons, List.length_nil, List.length_take, List.length_drop, lineN_eq]); omega))) [wp_seq, wp_some, kQ_nx, kQ_rt, kQ_bk, kQ_ct, kQ_er, kL_nx, kL_ct, kL_bk, kL_rt, kL_er, sAsg, sE, sRet, sRetN, sDrop, sIf, sNext, sBreak, sCont, sRaise, sRaiseF, sPar, sAug, gSet, mVar, Mm.bind, Mm.ret, bin, op2, rd, orD, addD, addI, subI, i2, modI, divI, powI, s2, addS_small, addS_tup, addS_lst, addS_int, catL, catT, mulD, repS, repL, eqD, neD, okD, okDs, eqd, eqds, flatD, eqD, sTry, sHand, noEr, sTryAs, unAs, mFld, mIsE, mRepK, kRepK, cmpI, ltI, leI, gtI, geI, isNone, notNone, isN, asB, asT, truD, mNot, mAnd, mOr, vAnd, vOr, vNot, mIf, mNeg, mTup, mTupZ, frz, mLst, mOwn, mCons, mNil, datas, atD_tup, atD_lst, atD_rol, atD_str, seqOf, mNoPart, asI, mSl, slD_tup, slD_lst, slD_rol, slD_str, mIsI, isT, mCB, rds, mCall, mCall0, mMt, chk, isM, mApp, mExt, lenD_str, lenD_tup, lenD_lst, lenD_rol, intD, listD, tupD, mSrc, srcD, rng1, rng2, gTupD, gsCons, gsNil, mChain, thawG, thaw, snapO, MO.below, List.getElem?_cons_succ, List.getElem?_cons_zero, List.length_cons, List.length_nil, List.set_cons_succ, List.set_cons_zero, Int.natAbs_natCast, mTupRev, mCatO, mListO, gItm, minI, maxI, absI, app_take, app_take0, app_get, app_get0, app_set, app_set0, List.take_length, finO_nx, finO_rt, finO_er, finT, finE, mulI_small, su_raw_edited_0_0, Ed.d, plc, kturn, at4_0, at4_2, show c_PLACES = .str [120, 121, 122] from rfl, ix_xyz hp, su_raw_edited_0_1, at_tri hp]
    simp (decide := true) (disch := (first | omega | ((try simp only [List.length_append, List.length_cons, List.length_nil, List.length_take, List.length_drop, lineN_eq]); omega))) [wp_seq, wp_some, kQ_nx, kQ_rt, kQ_bk, kQ_ct, kQ_er, kL_nx, kL_ct, kL_bk, kL_rt, kL_er, sAsg, sE, sRet, sRetN, sDrop, sIf, sNext, sBreak, sCont, sRaise, sRaiseF, sPar, sAug, gSet, mVar, Mm.bind, Mm.ret, bin, op2, rd, orD, addD, addI, subI, i2, modI, divI, powI, s2, addS_small, addS_tup, addS_lst, addS_int, catL, catT, mulD, repS, repL, eqD, neD, okD, okDs, eqd, eqds, flatD, eqD, sTry, sHand, noEr, sTryAs, unAs, mFld, mIsE, mRepK, kRepK, cmpI, ltI, leI, gtI, geI, isNone, notNone, isN, asB, asT, truD, mNot, mAnd, mOr, vAnd, vOr, vNot, mIf, mNeg, mTup, mTupZ, frz, mLst, mOwn, mCons, mNil, datas, atD_tup, atD_lst, atD_rol, atD_str, seqOf, mNoPart, asI, mSl, slD_tup, slD_lst, slD_rol, slD_str, mIsI, isT, mCB, rds, mCall, mCall0, mMt, chk, isM, mApp, mExt, lenD_str, lenD_tup, lenD_lst, lenD_rol, intD, listD, tupD, mSrc, srcD, rng1, rng2, gTupD, gsCons, gsNil, mChain, thawG, thaw, snapO, MO.below, List.getElem?_cons_succ, List.getElem?_cons_zero, List.length_cons, List.length_nil, List.set_cons_succ, List.set_cons_zero, Int.natAbs_natCast, mTupRev, mCatO, mListO, gItm, minI, maxI, absI, app_take, app_take0, app_get, app_get0, app_set, app_set0, List.take_length, finO_nx, finO_rt, finO_er, finT, finE, mulI_small, su_raw_edited_0_2, at4_1, at4_3, c_PUT, c_TURN, su_raw_edited_2_0, hl2, cut_take, cut_drop1]
    simp (decide := true) (disch := (first | omega | ((try simp only [List.length_append, List.length_cons, List.length_nil, List.length_take, List.length_drop, lineN_eq]); omega))) [wp_seq, wp_some, kQ_nx, kQ_rt, kQ_bk, kQ_ct, kQ_er, kL_nx, kL_ct, kL_bk, kL_rt, kL_er, sAsg, sE, sRet, sRetN, sDrop, sIf, sNext, sBreak, sCont, sRaise, sRaiseF, sPar, sAug, gSet, mVar, Mm.bind, Mm.ret, bin, op2, rd, orD, addD, addI, subI, i2, modI, divI, powI, s2, addS_small, addS_tup, addS_lst, addS_int, catL, catT, mulD, repS, repL, eqD, neD, okD, okDs, eqd, eqds, flatD, eqD, sTry, sHand, noEr, sTryAs, unAs, mFld, mIsE, mRepK, kRepK, cmpI, ltI, leI, gtI, geI, isNone, notNone, isN, asB, asT, truD, mNot, mAnd, mOr, vAnd, vOr, vNot, mIf, mNeg, mTup, mTupZ, frz, mLst, mOwn, mCons, mNil, datas, atD_tup, atD_lst, atD_rol, atD_str, seqOf, mNoPart, asI, mSl, slD_tup, slD_lst, slD_rol, slD_str, mIsI, isT, mCB, rds, mCall, mCall0, mMt, chk, isM, mApp, mExt, lenD_str, lenD_tup, lenD_lst, lenD_rol, intD, listD, tupD, mSrc, srcD, rng1, rng2, gTupD, gsCons, gsNil, mChain, thawG, thaw, snapO, MO.below, List.getElem?_cons_succ, List.getElem?_cons_zero, List.length_cons, List.length_nil, List.set_cons_succ, List.set_cons_zero, Int.natAbs_natCast, mTupRev, mCatO, mListO, gItm, minI, maxI, absI, app_take, app_take0, app_get, app_get0, app_set, app_set0, List.take_length, finO_nx, finO_rt, finO_er, finT, finE, mulI_small, su_raw_edited_0_3, h1, h2, q1, q2, q3, hS0]
    have := h5 ((t.at p).take a ++ [c] ++ (t.at p).drop (a + 1))
    simpa [Ed.go, Ed.word, Ed.p] using this
theorem lawed_ok {t : Tri} (ht : t.ok) {e : Ed} (he : e.ok t) : den__law_edited [.v t.d, .v e.d] S = some (.ok (.v (e.go t).d) S) := by
  have hS0 := hS _ (Nat.le_refl _)
  refine wp_eq (fnD_wp rfl ?_)
  have hl := (ht.at e.p).2
  have hl' : (t.at e.p).length ≤ lineN := by rw [lineN_eq]; omega
  cases e with
  | put p a c =>
    obtain ⟨hp, ha, hc⟩ := he
    have hl2 : (t.at p).length ≤ lineN := hl'
    have hl3 : (t.at p).length ≤ 39 := hl
    obtain ⟨us, vs, h1, h2, h3, h4, h5⟩ := lo_tri (t := t) hp
    have q1 : us.length + 1 ≤ lineN := by rw [lineN_eq]; omega
    have q2 : us.length + 1 + vs.length ≤ lineN := by rw [lineN_eq]; omega
    have q3 : us.length + (vs.length + 1) ≤ lineN := by rw [lineN_eq]; omega
    simp (decide := true) (disch := (first | omega | ((try simp only [List.length_append, List.length_cons, List.length_nil, List.length_take, List.length_drop, lineN_eq]); omega))) [wp_seq, wp_some, kQ_nx, kQ_rt, kQ_bk, kQ_ct, kQ_er, kL_nx, kL_ct, kL_bk, kL_rt, kL_er, sAsg, sE, sRet, sRetN, sDrop, sIf, sNext, sBreak, sCont, sRaise, sRaiseF, sPar, sAug, gSet, mVar, Mm.bind, Mm.ret, bin, op2, rd, orD, addD, addI, subI, i2, modI, divI, powI, s2, addS_small, addS_tup, addS_lst, addS_int, catL, catT, mulD, repS, repL, eqD, neD, okD, okDs, eqd, eqds, flatD, eqD, sTry, sHand, noEr, sTryAs, unAs, mFld, mIsE, mRepK, kRepK, cmpI, ltI, leI, gtI, geI, isNone, notNone, isN, asB, asT, truD, mNot, mAnd, mOr, vAnd, vOr, vNot, mIf, mNeg, mTup, mTupZ, frz, mLst, mOwn, mCons, mNil, datas, atD_tup, atD_lst, atD_rol, atD_str, seqOf, mNoPart, asI, mSl, slD_tup, slD_lst, slD_rol, slD_str, mIsI, isT, mCB, rds, mCall, mCall0, mMt, chk, isM, mApp, mExt, lenD_str, lenD_tup, lenD_lst, lenD_rol, intD, listD, tupD, mSrc, srcD, rng1, rng2, gTupD, gsCons, gsNil, mChain, thawG, thaw, snapO, MO.below, List.getElem?_cons_succ, List.getElem?_cons_zero, List.length_cons, List.length_nil, List.set_cons_succ, List.set_cons_zero, Int.natAbs_natCast, mTupRev, mCatO, mListO, gItm, minI, maxI, absI, app_take, app_take0, app_get, app_get0, app_set, app_set0, List.take_length, finO_nx, finO_rt, finO_er, finT, finE, mulI_small, su__law_edited_0_0, Ed.d, plc, kput, at4_0, ix_xyz hp, su__law_edited_0_1, at_tri hp, su__law_edited_0_2, at4_2]
    simp (decide := true) (disch := (first | omega | ((try simp only [List.length_append, List.length_cons, List.length_nil, List.length_take, List.length_drop, lineN_eq]); omega))) [wp_seq, wp_some, kQ_nx, kQ_rt, kQ_bk, kQ_ct, kQ_er, kL_nx, kL_ct, kL_bk, kL_rt, kL_er, sAsg, sE, sRet, sRetN, sDrop, sIf, sNext, sBreak, sCont, sRaise, sRaiseF, sPar, sAug, gSet, mVar, Mm.bind, Mm.ret, bin, op2, rd, orD, addD, addI, subI, i2, modI, divI, powI, s2, addS_small, addS_tup, addS_lst, addS_int, catL, catT, mulD, repS, repL, eqD, neD, okD, okDs, eqd, eqds, flatD, eqD, sTry, sHand, noEr, sTryAs, unAs, mFld, mIsE, mRepK, kRepK, cmpI, ltI, leI, gtI, geI, isNone, notNone, isN, asB, asT, truD, mNot, mAnd, mOr, vAnd, vOr, vNot, mIf, mNeg, mTup, mTupZ, frz, mLst, mOwn, mCons, mNil, datas, atD_tup, atD_lst, atD_rol, atD_str, seqOf, mNoPart, asI, mSl, slD_tup, slD_lst, slD_rol, slD_str, mIsI, isT, mCB, rds, mCall, mCall0, mMt, chk, isM, mApp, mExt, lenD_str, lenD_tup, lenD_lst, lenD_rol, intD, listD, tupD, mSrc, srcD, rng1, rng2, gTupD, gsCons, gsNil, mChain, thawG, thaw, snapO, MO.below, List.getElem?_cons_succ, List.getElem?_cons_zero, List.length_cons, List.length_nil, List.set_cons_succ, List.set_cons_zero, Int.natAbs_natCast, mTupRev, mCatO, mListO, gItm, minI, maxI, absI, app_take, app_take0, app_get, app_get0, app_set, app_set0, List.take_length, finO_nx, finO_rt, finO_er, finT, finE, mulI_small, su__law_edited_0_3, at4_1, at4_3, su__law_edited_1_0, hl2, cut_take, cut_drop]
    simp (decide := true) (disch := (first | omega | ((try simp only [List.length_append, List.length_cons, List.length_nil, List.length_take, List.length_drop, lineN_eq]); omega))) [wp_seq, wp_some, kQ_nx, kQ_rt, kQ_bk, kQ_ct, kQ_er, kL_nx, kL_ct, kL_bk, kL_rt, kL_er, sAsg, sE, sRet, sRetN, sDrop, sIf, sNext, sBreak, sCont, sRaise, sRaiseF, sPar, sAug, gSet, mVar, Mm.bind, Mm.ret, bin, op2, rd, orD, addD, addI, subI, i2, modI, divI, powI, s2, addS_small, addS_tup, addS_lst, addS_int, catL, catT, mulD, repS, repL, eqD, neD, okD, okDs, eqd, eqds, flatD, eqD, sTry, sHand, noEr, sTryAs, unAs, mFld, mIsE, mRepK, kRepK, cmpI, ltI, leI, gtI, geI, isNone, notNone, isN, asB, asT, truD, mNot, mAnd, mOr, vAnd, vOr, vNot, mIf, mNeg, mTup, mTupZ, frz, mLst, mOwn, mCons, mNil, datas, atD_tup, atD_lst, atD_rol, atD_str, seqOf, mNoPart, asI, mSl, slD_tup, slD_lst, slD_rol, slD_str, mIsI, isT, mCB, rds, mCall, mCall0, mMt, chk, isM, mApp, mExt, lenD_str, lenD_tup, lenD_lst, lenD_rol, intD, listD, tupD, mSrc, srcD, rng1, rng2, gTupD, gsCons, gsNil, mChain, thawG, thaw, snapO, MO.below, List.getElem?_cons_succ, List.getElem?_cons_zero, List.length_cons, List.length_nil, List.set_cons_succ, List.set_cons_zero, Int.natAbs_natCast, mTupRev, mCatO, mListO, gItm, minI, maxI, absI, app_take, app_take0, app_get, app_get0, app_set, app_set0, List.take_length, finO_nx, finO_rt, finO_er, finT, finE, mulI_small, su__law_edited_0_4, h1, h2, q1, q2, q3, hS0]
    have := h5 ((t.at p).take a ++ [c] ++ (t.at p).drop a)
    simpa [Ed.go, Ed.word, Ed.p] using this
  | cut p a =>
    obtain ⟨hp, ha⟩ := he
    have hl2 : (t.at p).length ≤ lineN := hl'
    have hl3 : (t.at p).length ≤ 39 := hl
    obtain ⟨us, vs, h1, h2, h3, h4, h5⟩ := lo_tri (t := t) hp
    have q1 : us.length + 1 ≤ lineN := by rw [lineN_eq]; omega
    have q2 : us.length + 1 + vs.length ≤ lineN := by rw [lineN_eq]; omega
    have q3 : us.length + (vs.length + 1) ≤ lineN := by rw [lineN_eq]; omega
    simp (decide := true) (disch := (first | omega | ((try simp only [List.length_append, List.length_cons, List.length_nil, List.length_take, List.length_drop, lineN_eq]); omega))) [wp_seq, wp_some, kQ_nx, kQ_rt, kQ_bk, kQ_ct, kQ_er, kL_nx, kL_ct, kL_bk, kL_rt, kL_er, sAsg, sE, sRet, sRetN, sDrop, sIf, sNext, sBreak, sCont, sRaise, sRaiseF, sPar, sAug, gSet, mVar, Mm.bind, Mm.ret, bin, op2, rd, orD, addD, addI, subI, i2, modI, divI, powI, s2, addS_small, addS_tup, addS_lst, addS_int, catL, catT, mulD, repS, repL, eqD, neD, okD, okDs, eqd, eqds, flatD, eqD, sTry, sHand, noEr, sTryAs, unAs, mFld, mIsE, mRepK, kRepK, cmpI, ltI, leI, gtI, geI, isNone, notNone, isN, asB, asT, truD, mNot, mAnd, mOr, vAnd, vOr, vNot, mIf, mNeg, mTup, mTupZ, frz, mLst, mOwn, mCons, mNil, datas, atD_tup, atD_lst, atD_rol, atD_str, seqOf, mNoPart, asI, mSl, slD_tup, slD_lst, slD_rol, slD_str, mIsI, isT, mCB, rds, mCall, mCall0, mMt, chk, isM, mApp, mExt, lenD_str, lenD_tup, lenD_lst, lenD_rol, intD, listD, tupD, mSrc, srcD, rng1, rng2, gTupD, gsCons, gsNil, mChain, thawG, thaw, snapO, MO.below, List.getElem?_cons_succ, List.getElem?_cons_zero, List.length_cons, List.length_nil, List.set_cons_succ, List.set_cons_zero, Int.natAbs_natCast, mTupRev, mCatO, mListO, gItm, minI, maxI, absI, app_take, app_take0, app_get, app_get0, app_set, app_set0, List.take_length, finO_nx, finO_rt, finO_er, finT, finE, mulI_small, su__law_edited_0_0, Ed.d, plc, kcut, at3_0, ix_xyz hp, su__law_edited_0_1, at_tri hp, su__law_edited_0_2, at3_2]
    simp (decide := true) (disch := (first | omega | ((try simp only [List.length_append, List.length_cons, List.length_nil, List.length_take, List.length_drop, lineN_eq]); omega))) [wp_seq, wp_some, kQ_nx, kQ_rt, kQ_bk, kQ_ct, kQ_er, kL_nx, kL_ct, kL_bk, kL_rt, kL_er, sAsg, sE, sRet, sRetN, sDrop, sIf, sNext, sBreak, sCont, sRaise, sRaiseF, sPar, sAug, gSet, mVar, Mm.bind, Mm.ret, bin, op2, rd, orD, addD, addI, subI, i2, modI, divI, powI, s2, addS_small, addS_tup, addS_lst, addS_int, catL, catT, mulD, repS, repL, eqD, neD, okD, okDs, eqd, eqds, flatD, eqD, sTry, sHand, noEr, sTryAs, unAs, mFld, mIsE, mRepK, kRepK, cmpI, ltI, leI, gtI, geI, isNone, notNone, isN, asB, asT, truD, mNot, mAnd, mOr, vAnd, vOr, vNot, mIf, mNeg, mTup, mTupZ, frz, mLst, mOwn, mCons, mNil, datas, atD_tup, atD_lst, atD_rol, atD_str, seqOf, mNoPart, asI, mSl, slD_tup, slD_lst, slD_rol, slD_str, mIsI, isT, mCB, rds, mCall, mCall0, mMt, chk, isM, mApp, mExt, lenD_str, lenD_tup, lenD_lst, lenD_rol, intD, listD, tupD, mSrc, srcD, rng1, rng2, gTupD, gsCons, gsNil, mChain, thawG, thaw, snapO, MO.below, List.getElem?_cons_succ, List.getElem?_cons_zero, List.length_cons, List.length_nil, List.set_cons_succ, List.set_cons_zero, Int.natAbs_natCast, mTupRev, mCatO, mListO, gItm, minI, maxI, absI, app_take, app_take0, app_get, app_get0, app_set, app_set0, List.take_length, finO_nx, finO_rt, finO_er, finT, finE, mulI_small, su__law_edited_0_3, at3_1, su__law_edited_2_0, su__law_edited_3_0, hl2, cut_take, cut_drop1]
    simp (decide := true) (disch := (first | omega | ((try simp only [List.length_append, List.length_cons, List.length_nil, List.length_take, List.length_drop, lineN_eq]); omega))) [wp_seq, wp_some, kQ_nx, kQ_rt, kQ_bk, kQ_ct, kQ_er, kL_nx, kL_ct, kL_bk, kL_rt, kL_er, sAsg, sE, sRet, sRetN, sDrop, sIf, sNext, sBreak, sCont, sRaise, sRaiseF, sPar, sAug, gSet, mVar, Mm.bind, Mm.ret, bin, op2, rd, orD, addD, addI, subI, i2, modI, divI, powI, s2, addS_small, addS_tup, addS_lst, addS_int, catL, catT, mulD, repS, repL, eqD, neD, okD, okDs, eqd, eqds, flatD, eqD, sTry, sHand, noEr, sTryAs, unAs, mFld, mIsE, mRepK, kRepK, cmpI, ltI, leI, gtI, geI, isNone, notNone, isN, asB, asT, truD, mNot, mAnd, mOr, vAnd, vOr, vNot, mIf, mNeg, mTup, mTupZ, frz, mLst, mOwn, mCons, mNil, datas, atD_tup, atD_lst, atD_rol, atD_str, seqOf, mNoPart, asI, mSl, slD_tup, slD_lst, slD_rol, slD_str, mIsI, isT, mCB, rds, mCall, mCall0, mMt, chk, isM, mApp, mExt, lenD_str, lenD_tup, lenD_lst, lenD_rol, intD, listD, tupD, mSrc, srcD, rng1, rng2, gTupD, gsCons, gsNil, mChain, thawG, thaw, snapO, MO.below, List.getElem?_cons_succ, List.getElem?_cons_zero, List.length_cons, List.length_nil, List.set_cons_succ, List.set_cons_zero, Int.natAbs_natCast, mTupRev, mCatO, mListO, gItm, minI, maxI, absI, app_take, app_take0, app_get, app_get0, app_set, app_set0, List.take_length, finO_nx, finO_rt, finO_er, finT, finE, mulI_small, su__law_edited_0_4, h1, h2, q1, q2, q3, hS0]
    have := h5 ((t.at p).take a ++ (t.at p).drop (a + 1))
    simpa [Ed.go, Ed.word, Ed.p] using this
  | turn p a c =>
    obtain ⟨hp, ha, hc⟩ := he
    have hl2 : (t.at p).length ≤ lineN := hl'
    have hl3 : (t.at p).length ≤ 39 := hl
    obtain ⟨us, vs, h1, h2, h3, h4, h5⟩ := lo_tri (t := t) hp
    have q1 : us.length + 1 ≤ lineN := by rw [lineN_eq]; omega
    have q2 : us.length + 1 + vs.length ≤ lineN := by rw [lineN_eq]; omega
    have q3 : us.length + (vs.length + 1) ≤ lineN := by rw [lineN_eq]; omega
    simp (decide := true) (disch := (first | omega | ((try simp only [List.length_append, List.length_cons, List.length_nil, List.length_take, List.length_drop, lineN_eq]); omega))) [wp_seq, wp_some, kQ_nx, kQ_rt, kQ_bk, kQ_ct, kQ_er, kL_nx, kL_ct, kL_bk, kL_rt, kL_er, sAsg, sE, sRet, sRetN, sDrop, sIf, sNext, sBreak, sCont, sRaise, sRaiseF, sPar, sAug, gSet, mVar, Mm.bind, Mm.ret, bin, op2, rd, orD, addD, addI, subI, i2, modI, divI, powI, s2, addS_small, addS_tup, addS_lst, addS_int, catL, catT, mulD, repS, repL, eqD, neD, okD, okDs, eqd, eqds, flatD, eqD, sTry, sHand, noEr, sTryAs, unAs, mFld, mIsE, mRepK, kRepK, cmpI, ltI, leI, gtI, geI, isNone, notNone, isN, asB, asT, truD, mNot, mAnd, mOr, vAnd, vOr, vNot, mIf, mNeg, mTup, mTupZ, frz, mLst, mOwn, mCons, mNil, datas, atD_tup, atD_lst, atD_rol, atD_str, seqOf, mNoPart, asI, mSl, slD_tup, slD_lst, slD_rol, slD_str, mIsI, isT, mCB, rds, mCall, mCall0, mMt, chk, isM, mApp, mExt, lenD_str, lenD_tup, lenD_lst, lenD_rol, intD, listD, tupD, mSrc, srcD, rng1, rng2, gTupD, gsCons, gsNil, mChain, thawG, thaw, snapO, MO.below, List.getElem?_cons_succ, List.getElem?_cons_zero, List.length_cons, List.length_nil, List.set_cons_succ, List.set_cons_zero, Int.natAbs_natCast, mTupRev, mCatO, mListO, gItm, minI, maxI, absI, app_take, app_take0, app_get, app_get0, app_set, app_set0, List.take_length, finO_nx, finO_rt, finO_er, finT, finE, mulI_small, su__law_edited_0_0, Ed.d, plc, kturn, at4_0, ix_xyz hp, su__law_edited_0_1, at_tri hp, su__law_edited_0_2, at4_2]
    simp (decide := true) (disch := (first | omega | ((try simp only [List.length_append, List.length_cons, List.length_nil, List.length_take, List.length_drop, lineN_eq]); omega))) [wp_seq, wp_some, kQ_nx, kQ_rt, kQ_bk, kQ_ct, kQ_er, kL_nx, kL_ct, kL_bk, kL_rt, kL_er, sAsg, sE, sRet, sRetN, sDrop, sIf, sNext, sBreak, sCont, sRaise, sRaiseF, sPar, sAug, gSet, mVar, Mm.bind, Mm.ret, bin, op2, rd, orD, addD, addI, subI, i2, modI, divI, powI, s2, addS_small, addS_tup, addS_lst, addS_int, catL, catT, mulD, repS, repL, eqD, neD, okD, okDs, eqd, eqds, flatD, eqD, sTry, sHand, noEr, sTryAs, unAs, mFld, mIsE, mRepK, kRepK, cmpI, ltI, leI, gtI, geI, isNone, notNone, isN, asB, asT, truD, mNot, mAnd, mOr, vAnd, vOr, vNot, mIf, mNeg, mTup, mTupZ, frz, mLst, mOwn, mCons, mNil, datas, atD_tup, atD_lst, atD_rol, atD_str, seqOf, mNoPart, asI, mSl, slD_tup, slD_lst, slD_rol, slD_str, mIsI, isT, mCB, rds, mCall, mCall0, mMt, chk, isM, mApp, mExt, lenD_str, lenD_tup, lenD_lst, lenD_rol, intD, listD, tupD, mSrc, srcD, rng1, rng2, gTupD, gsCons, gsNil, mChain, thawG, thaw, snapO, MO.below, List.getElem?_cons_succ, List.getElem?_cons_zero, List.length_cons, List.length_nil, List.set_cons_succ, List.set_cons_zero, Int.natAbs_natCast, mTupRev, mCatO, mListO, gItm, minI, maxI, absI, app_take, app_take0, app_get, app_get0, app_set, app_set0, List.take_length, finO_nx, finO_rt, finO_er, finT, finE, mulI_small, su__law_edited_0_3, at4_1, at4_3, su__law_edited_2_0, su__law_edited_4_0, hl2, cut_take, cut_drop1]
    simp (decide := true) (disch := (first | omega | ((try simp only [List.length_append, List.length_cons, List.length_nil, List.length_take, List.length_drop, lineN_eq]); omega))) [wp_seq, wp_some, kQ_nx, kQ_rt, kQ_bk, kQ_ct, kQ_er, kL_nx, kL_ct, kL_bk, kL_rt, kL_er, sAsg, sE, sRet, sRetN, sDrop, sIf, sNext, sBreak, sCont, sRaise, sRaiseF, sPar, sAug, gSet, mVar, Mm.bind, Mm.ret, bin, op2, rd, orD, addD, addI, subI, i2, modI, divI, powI, s2, addS_small, addS_tup, addS_lst, addS_int, catL, catT, mulD, repS, repL, eqD, neD, okD, okDs, eqd, eqds, flatD, eqD, sTry, sHand, noEr, sTryAs, unAs, mFld, mIsE, mRepK, kRepK, cmpI, ltI, leI, gtI, geI, isNone, notNone, isN, asB, asT, truD, mNot, mAnd, mOr, vAnd, vOr, vNot, mIf, mNeg, mTup, mTupZ, frz, mLst, mOwn, mCons, mNil, datas, atD_tup, atD_lst, atD_rol, atD_str, seqOf, mNoPart, asI, mSl, slD_tup, slD_lst, slD_rol, slD_str, mIsI, isT, mCB, rds, mCall, mCall0, mMt, chk, isM, mApp, mExt, lenD_str, lenD_tup, lenD_lst, lenD_rol, intD, listD, tupD, mSrc, srcD, rng1, rng2, gTupD, gsCons, gsNil, mChain, thawG, thaw, snapO, MO.below, List.getElem?_cons_succ, List.getElem?_cons_zero, List.length_cons, List.length_nil, List.set_cons_succ, List.set_cons_zero, Int.natAbs_natCast, mTupRev, mCatO, mListO, gItm, minI, maxI, absI, app_take, app_take0, app_get, app_get0, app_set, app_set0, List.take_length, finO_nx, finO_rt, finO_er, finT, finE, mulI_small, su__law_edited_0_4, h1, h2, q1, q2, q3, hS0]
    have := h5 ((t.at p).take a ++ [c] ++ (t.at p).drop (a + 1))
    simpa [Ed.go, Ed.word, Ed.p] using this
end
end G

namespace G
open PySem DL
/-- edits that can be done one behind the other -/
inductive Path : Tri → List Ed → Tri → Prop
  | nil {t : Tri} (h : t.ok) : Path t [] t
  | cons {t u : Tri} {e : Ed} {es : List Ed} (h : t.ok) (he : e.ok t) (r : Path (e.go t) es u) : Path t (e :: es) u
theorem Path.ok {t u : Tri} {es : List Ed} (h : Path t es u) : t.ok := by
  cases h with
  | nil h => exact h
  | cons h _ _ => exact h
theorem Path.snoc {t u : Tri} {es : List Ed} {e : Ed} (h : Path t es u) (he : e.ok u) (hu : (e.go u).ok) : Path t (es ++ [e]) (e.go u) := by
  induction h with
  | nil h => exact .cons h he (.nil hu)
  | cons h h2 _ ih => exact .cons h h2 (ih he hu)
theorem Path.okE {t u : Tri} {es : List Ed} (h : Path t es u) : u.ok := by
  induction h with
  | nil h => exact h
  | cons _ _ _ ih => exact ih
theorem Path.app {t u v : Tri} {es fs : List Ed} (h : Path t es u) (k : Path u fs v) : Path t (es ++ fs) v := by
  induction h with
  | nil _ => exact k
  | cons h h2 _ ih => exact .cons h h2 (ih k)
theorem Path.take {t u : Tri} {es : List Ed} (h : Path t es u) (k : Nat) : ∃ v, Path t (es.take k) v := by
  induction h generalizing k with
  | nil h => exact ⟨_, by simpa using Path.nil h⟩
  | cons h h2 _ ih =>
    cases k with
    | zero => exact ⟨_, .nil h⟩
    | succ k =>
      obtain ⟨v, hv⟩ := ih k
      exact ⟨v, .cons h h2 hv⟩
def nTrip : List Nat := [78, 111, 84, 114, 105, 112, 108, 101]
def nEdit : List Nat := [78, 111, 69, 100, 105, 116]
def nEdits : List Nat := [78, 111, 69, 100, 105, 116, 115]
def told : List Nat := [116, 111, 108, 100]
section
variable {S : Sto} (hS : Cl S)
include hS
theorem tri_ok {t : Tri} (h : t.ok) : den_is_triple [.v t.d] S = some (.ok (.v (.bl true)) S) := triple_ok hS h.x h.y h.z (by have := h.lx; omega) (by have := h.ly; omega) (by have := h.lz; omega)
theorem isedit_ok {t : Tri} (ht : t.ok) {e : Ed} (he : e.ok t) : den_is_edit [.v t.d, .v e.d] S = some (.ok (.v (.bl true)) S) := by
  have hS0 := hS _ (Nat.le_refl _)
  refine wp_eq (fnD_wp rfl ?_)
  simp (decide := true) [wp_seq, wp_some, kQ_nx, kQ_rt, kQ_bk, kQ_ct, kQ_er, kL_nx, kL_ct, kL_bk, kL_rt, kL_er, sAsg, sE, sRet, sRetN, sDrop, sIf, sNext, sBreak, sCont, sRaise, sRaiseF, sPar, sAug, gSet, mVar, Mm.bind, Mm.ret, bin, op2, rd, orD, addD, addI, subI, i2, modI, divI, powI, s2, addS_small, addS_tup, addS_lst, addS_int, catL, catT, mulD, repS, repL, eqD, neD, okD, okDs, eqd, eqds, flatD, eqD, sTry, sHand, noEr, sTryAs, unAs, mFld, mIsE, mRepK, kRepK, cmpI, ltI, leI, gtI, geI, isNone, notNone, isN, asB, asT, truD, mNot, mAnd, mOr, vAnd, vOr, vNot, mIf, mNeg, mTup, mTupZ, frz, mLst, mOwn, mCons, mNil, datas, atD_tup, atD_lst, atD_rol, atD_str, seqOf, mNoPart, asI, mSl, slD_tup, slD_lst, slD_rol, slD_str, mIsI, isT, mCB, rds, mCall, mCall0, mMt, chk, isM, mApp, mExt, lenD_str, lenD_tup, lenD_lst, lenD_rol, intD, listD, tupD, mSrc, srcD, rng1, rng2, gTupD, gsCons, gsNil, mChain, thawG, thaw, snapO, MO.below, List.getElem?_cons_succ, List.getElem?_cons_zero, List.length_cons, List.length_nil, List.set_cons_succ, List.set_cons_zero, Int.natAbs_natCast, mTupRev, mCatO, mListO, gItm, minI, maxI, absI, app_take, app_take0, app_get, app_get0, app_set, app_set0, List.take_length, finO_nx, finO_rt, finO_er, finT, finE, su_is_edit_0_0, ctriple_ok hS (tri_ok hS ht), su_is_edit_0_1, rawis_ok hS ht he, hS0]
theorem rawis_no {t d : D} (h : isT .tup d = false) : den_raw_is_edit [.v t, .v d] S = some (.ok (.v (.bl false)) S) := by
  have hS0 := hS _ (Nat.le_refl _)
  refine wp_eq (fnD_wp rfl ?_)
  simp (decide := true) [wp_seq, wp_some, kQ_nx, kQ_rt, kQ_bk, kQ_ct, kQ_er, kL_nx, kL_ct, kL_bk, kL_rt, kL_er, sAsg, sE, sRet, sRetN, sDrop, sIf, sNext, sBreak, sCont, sRaise, sRaiseF, sPar, sAug, gSet, mVar, Mm.bind, Mm.ret, bin, op2, rd, orD, addD, addI, subI, i2, modI, divI, powI, s2, addS_small, addS_tup, addS_lst, addS_int, catL, catT, mulD, repS, repL, eqD, neD, okD, okDs, eqd, eqds, flatD, eqD, sTry, sHand, noEr, sTryAs, unAs, mFld, mIsE, mRepK, kRepK, cmpI, ltI, leI, gtI, geI, isNone, notNone, isN, asB, asT, truD, mNot, mAnd, mOr, vAnd, vOr, vNot, mIf, mNeg, mTup, mTupZ, frz, mLst, mOwn, mCons, mNil, datas, atD_tup, atD_lst, atD_rol, atD_str, seqOf, mNoPart, asI, mSl, slD_tup, slD_lst, slD_rol, slD_str, mIsI, isT, mCB, rds, mCall, mCall0, mMt, chk, isM, mApp, mExt, lenD_str, lenD_tup, lenD_lst, lenD_rol, intD, listD, tupD, mSrc, srcD, rng1, rng2, gTupD, gsCons, gsNil, mChain, thawG, thaw, snapO, MO.below, List.getElem?_cons_succ, List.getElem?_cons_zero, List.length_cons, List.length_nil, List.set_cons_succ, List.set_cons_zero, Int.natAbs_natCast, mTupRev, mCatO, mListO, gItm, minI, maxI, absI, app_take, app_take0, app_get, app_get0, app_set, app_set0, List.take_length, finO_nx, finO_rt, finO_er, finT, finE, su_raw_is_edit_0_0, tuple_no hS h, su_raw_is_edit_1_0, hS0]
theorem rawis_short {t : D} {ds : List D} (h : ds.length < 3) : den_raw_is_edit [.v t, .v (.tup ds)] S = some (.ok (.v (.bl false)) S) := by
  have hS0 := hS _ (Nat.le_refl _)
  have t1 := tuple_lo hS (ds := ds) (a := 3) (b := 4) (by omega)
  refine wp_eq (fnD_wp rfl ?_)
  simp (decide := true) [wp_seq, wp_some, kQ_nx, kQ_rt, kQ_bk, kQ_ct, kQ_er, kL_nx, kL_ct, kL_bk, kL_rt, kL_er, sAsg, sE, sRet, sRetN, sDrop, sIf, sNext, sBreak, sCont, sRaise, sRaiseF, sPar, sAug, gSet, mVar, Mm.bind, Mm.ret, bin, op2, rd, orD, addD, addI, subI, i2, modI, divI, powI, s2, addS_small, addS_tup, addS_lst, addS_int, catL, catT, mulD, repS, repL, eqD, neD, okD, okDs, eqd, eqds, flatD, eqD, sTry, sHand, noEr, sTryAs, unAs, mFld, mIsE, mRepK, kRepK, cmpI, ltI, leI, gtI, geI, isNone, notNone, isN, asB, asT, truD, mNot, mAnd, mOr, vAnd, vOr, vNot, mIf, mNeg, mTup, mTupZ, frz, mLst, mOwn, mCons, mNil, datas, atD_tup, atD_lst, atD_rol, atD_str, seqOf, mNoPart, asI, mSl, slD_tup, slD_lst, slD_rol, slD_str, mIsI, isT, mCB, rds, mCall, mCall0, mMt, chk, isM, mApp, mExt, lenD_str, lenD_tup, lenD_lst, lenD_rol, intD, listD, tupD, mSrc, srcD, rng1, rng2, gTupD, gsCons, gsNil, mChain, thawG, thaw, snapO, MO.below, List.getElem?_cons_succ, List.getElem?_cons_zero, List.length_cons, List.length_nil, List.set_cons_succ, List.set_cons_zero, Int.natAbs_natCast, mTupRev, mCatO, mListO, gItm, minI, maxI, absI, app_take, app_take0, app_get, app_get0, app_set, app_set0, List.take_length, finO_nx, finO_rt, finO_er, finT, finE, su_raw_is_edit_0_0, t1, su_raw_is_edit_1_0, hS0]
theorem rawis_far {t : Tri} (ht : t.ok) {p : Nat} (hp : p < 3) {n : Int} (hn : 39 < n) : den_raw_is_edit [.v t.d, .v (.tup [.str (plc p), .str kcut, .int n])] S = some (.ok (.v (.bl false)) S) := by
  have hS0 := hS _ (Nat.le_refl _)
  refine wp_eq (fnD_wp rfl ?_)
  have hl := (ht.at p).2
  have hl2 : (t.at p).length ≤ lineN := by rw [lineN_eq]; omega
  have t1 := tuple_ok hS (ds := [.str (plc p), .str kcut, .int n]) (a := 3) (b := 4) (by show (3 : Int) ≤ 3; decide) (by show (3 : Int) ≤ 4; decide)
  have l1 := letter_ok hS (okC_plc hp)
  have w1 := within_hi hS (i := n) (a := 0) (b := (t.at p).length - 1) (by omega) (by omega)
  unfold plc kcut at t1
  simp (decide := true) [wp_seq, wp_some, kQ_nx, kQ_rt, kQ_bk, kQ_ct, kQ_er, kL_nx, kL_ct, kL_bk, kL_rt, kL_er, sAsg, sE, sRet, sRetN, sDrop, sIf, sNext, sBreak, sCont, sRaise, sRaiseF, sPar, sAug, gSet, mVar, Mm.bind, Mm.ret, bin, op2, rd, orD, addD, addI, subI, i2, modI, divI, powI, s2, addS_small, addS_tup, addS_lst, addS_int, catL, catT, mulD, repS, repL, eqD, neD, okD, okDs, eqd, eqds, flatD, eqD, sTry, sHand, noEr, sTryAs, unAs, mFld, mIsE, mRepK, kRepK, cmpI, ltI, leI, gtI, geI, isNone, notNone, isN, asB, asT, truD, mNot, mAnd, mOr, vAnd, vOr, vNot, mIf, mNeg, mTup, mTupZ, frz, mLst, mOwn, mCons, mNil, datas, atD_tup, atD_lst, atD_rol, atD_str, seqOf, mNoPart, asI, mSl, slD_tup, slD_lst, slD_rol, slD_str, mIsI, isT, mCB, rds, mCall, mCall0, mMt, chk, isM, mApp, mExt, lenD_str, lenD_tup, lenD_lst, lenD_rol, intD, listD, tupD, mSrc, srcD, rng1, rng2, gTupD, gsCons, gsNil, mChain, thawG, thaw, snapO, MO.below, List.getElem?_cons_succ, List.getElem?_cons_zero, List.length_cons, List.length_nil, List.set_cons_succ, List.set_cons_zero, Int.natAbs_natCast, mTupRev, mCatO, mListO, gItm, minI, maxI, absI, app_take, app_take0, app_get, app_get0, app_set, app_set0, List.take_length, finO_nx, finO_rt, finO_er, finT, finE, su_raw_is_edit_0_0, hS0, plc, kcut, t1, at3_0, at3_1, at3_2, l1, ni_plc hp]
  simp (decide := true) [wp_seq, wp_some, kQ_nx, kQ_rt, kQ_bk, kQ_ct, kQ_er, kL_nx, kL_ct, kL_bk, kL_rt, kL_er, sAsg, sE, sRet, sRetN, sDrop, sIf, sNext, sBreak, sCont, sRaise, sRaiseF, sPar, sAug, gSet, mVar, Mm.bind, Mm.ret, bin, op2, rd, orD, addD, addI, subI, i2, modI, divI, powI, s2, addS_small, addS_tup, addS_lst, addS_int, catL, catT, mulD, repS, repL, eqD, neD, okD, okDs, eqd, eqds, flatD, eqD, sTry, sHand, noEr, sTryAs, unAs, mFld, mIsE, mRepK, kRepK, cmpI, ltI, leI, gtI, geI, isNone, notNone, isN, asB, asT, truD, mNot, mAnd, mOr, vAnd, vOr, vNot, mIf, mNeg, mTup, mTupZ, frz, mLst, mOwn, mCons, mNil, datas, atD_tup, atD_lst, atD_rol, atD_str, seqOf, mNoPart, asI, mSl, slD_tup, slD_lst, slD_rol, slD_str, mIsI, isT, mCB, rds, mCall, mCall0, mMt, chk, isM, mApp, mExt, lenD_str, lenD_tup, lenD_lst, lenD_rol, intD, listD, tupD, mSrc, srcD, rng1, rng2, gTupD, gsCons, gsNil, mChain, thawG, thaw, snapO, MO.below, List.getElem?_cons_succ, List.getElem?_cons_zero, List.length_cons, List.length_nil, List.set_cons_succ, List.set_cons_zero, Int.natAbs_natCast, mTupRev, mCatO, mListO, gItm, minI, maxI, absI, app_take, app_take0, app_get, app_get0, app_set, app_set0, List.take_length, finO_nx, finO_rt, finO_er, finT, finE, su_raw_is_edit_0_1, at3_0, show c_PLACES = .str [120, 121, 122] from rfl, ix_xyz hp, at_tri hp, hl2]
  simp (decide := true) [wp_seq, wp_some, kQ_nx, kQ_rt, kQ_bk, kQ_ct, kQ_er, kL_nx, kL_ct, kL_bk, kL_rt, kL_er, sAsg, sE, sRet, sRetN, sDrop, sIf, sNext, sBreak, sCont, sRaise, sRaiseF, sPar, sAug, gSet, mVar, Mm.bind, Mm.ret, bin, op2, rd, orD, addD, addI, subI, i2, modI, divI, powI, s2, addS_small, addS_tup, addS_lst, addS_int, catL, catT, mulD, repS, repL, eqD, neD, okD, okDs, eqd, eqds, flatD, eqD, sTry, sHand, noEr, sTryAs, unAs, mFld, mIsE, mRepK, kRepK, cmpI, ltI, leI, gtI, geI, isNone, notNone, isN, asB, asT, truD, mNot, mAnd, mOr, vAnd, vOr, vNot, mIf, mNeg, mTup, mTupZ, frz, mLst, mOwn, mCons, mNil, datas, atD_tup, atD_lst, atD_rol, atD_str, seqOf, mNoPart, asI, mSl, slD_tup, slD_lst, slD_rol, slD_str, mIsI, isT, mCB, rds, mCall, mCall0, mMt, chk, isM, mApp, mExt, lenD_str, lenD_tup, lenD_lst, lenD_rol, intD, listD, tupD, mSrc, srcD, rng1, rng2, gTupD, gsCons, gsNil, mChain, thawG, thaw, snapO, MO.below, List.getElem?_cons_succ, List.getElem?_cons_zero, List.length_cons, List.length_nil, List.set_cons_succ, List.set_cons_zero, Int.natAbs_natCast, mTupRev, mCatO, mListO, gItm, minI, maxI, absI, app_take, app_take0, app_get, app_get0, app_set, app_set0, List.take_length, finO_nx, finO_rt, finO_er, finT, finE, su_raw_is_edit_0_2, su_raw_is_edit_0_3, su_raw_is_edit_3_0, hS0, at3_0, at3_1, at3_2, c_PUT, c_CUT, c_TURN, w1]
theorem cedit_ok {t : Tri} (ht : t.ok) {e : Ed} (he : e.ok t) : den_check_edit [.v t.d, .v e.d] S = some (.ok (.v .non) S) := by
  have hS0 := hS _ (Nat.le_refl _)
  refine wp_eq (fnD_wp rfl ?_)
  simp (decide := true) [wp_seq, wp_some, kQ_nx, kQ_rt, kQ_bk, kQ_ct, kQ_er, kL_nx, kL_ct, kL_bk, kL_rt, kL_er, sAsg, sE, sRet, sRetN, sDrop, sIf, sNext, sBreak, sCont, sRaise, sRaiseF, sPar, sAug, gSet, mVar, Mm.bind, Mm.ret, bin, op2, rd, orD, addD, addI, subI, i2, modI, divI, powI, s2, addS_small, addS_tup, addS_lst, addS_int, catL, catT, mulD, repS, repL, eqD, neD, okD, okDs, eqd, eqds, flatD, eqD, sTry, sHand, noEr, sTryAs, unAs, mFld, mIsE, mRepK, kRepK, cmpI, ltI, leI, gtI, geI, isNone, notNone, isN, asB, asT, truD, mNot, mAnd, mOr, vAnd, vOr, vNot, mIf, mNeg, mTup, mTupZ, frz, mLst, mOwn, mCons, mNil, datas, atD_tup, atD_lst, atD_rol, atD_str, seqOf, mNoPart, asI, mSl, slD_tup, slD_lst, slD_rol, slD_str, mIsI, isT, mCB, rds, mCall, mCall0, mMt, chk, isM, mApp, mExt, lenD_str, lenD_tup, lenD_lst, lenD_rol, intD, listD, tupD, mSrc, srcD, rng1, rng2, gTupD, gsCons, gsNil, mChain, thawG, thaw, snapO, MO.below, List.getElem?_cons_succ, List.getElem?_cons_zero, List.length_cons, List.length_nil, List.set_cons_succ, List.set_cons_zero, Int.natAbs_natCast, mTupRev, mCatO, mListO, gItm, minI, maxI, absI, app_take, app_take0, app_get, app_get0, app_set, app_set0, List.take_length, finO_nx, finO_rt, finO_er, finT, finE, su_check_edit_0_0, rawis_ok hS ht he, hS0]
theorem cedit_bad {t x : D} (h : den_raw_is_edit [.v t, .v x] S = some (.ok (.v (.bl false)) S)) : den_check_edit [.v t, .v x] S = some (.er "NoEdit" none S) := by
  have hS0 := hS _ (Nat.le_refl _)
  refine wp_eq (fnD_wp rfl ?_)
  simp (decide := true) [wp_seq, wp_some, kQ_nx, kQ_rt, kQ_bk, kQ_ct, kQ_er, kL_nx, kL_ct, kL_bk, kL_rt, kL_er, sAsg, sE, sRet, sRetN, sDrop, sIf, sNext, sBreak, sCont, sRaise, sRaiseF, sPar, sAug, gSet, mVar, Mm.bind, Mm.ret, bin, op2, rd, orD, addD, addI, subI, i2, modI, divI, powI, s2, addS_small, addS_tup, addS_lst, addS_int, catL, catT, mulD, repS, repL, eqD, neD, okD, okDs, eqd, eqds, flatD, eqD, sTry, sHand, noEr, sTryAs, unAs, mFld, mIsE, mRepK, kRepK, cmpI, ltI, leI, gtI, geI, isNone, notNone, isN, asB, asT, truD, mNot, mAnd, mOr, vAnd, vOr, vNot, mIf, mNeg, mTup, mTupZ, frz, mLst, mOwn, mCons, mNil, datas, atD_tup, atD_lst, atD_rol, atD_str, seqOf, mNoPart, asI, mSl, slD_tup, slD_lst, slD_rol, slD_str, mIsI, isT, mCB, rds, mCall, mCall0, mMt, chk, isM, mApp, mExt, lenD_str, lenD_tup, lenD_lst, lenD_rol, intD, listD, tupD, mSrc, srcD, rng1, rng2, gTupD, gsCons, gsNil, mChain, thawG, thaw, snapO, MO.below, List.getElem?_cons_succ, List.getElem?_cons_zero, List.length_cons, List.length_nil, List.set_cons_succ, List.set_cons_zero, Int.natAbs_natCast, mTupRev, mCatO, mListO, gItm, minI, maxI, absI, app_take, app_take0, app_get, app_get0, app_set, app_set0, List.take_length, finO_nx, finO_rt, finO_er, finT, finE, su_check_edit_0_0, su_check_edit_1_0, h, hS0]
end
end G

namespace G
open PySem DL
def ab : List Nat := [97, 98, 99, 100, 101, 102, 103, 104, 105, 106, 107, 108, 109, 110, 111, 112, 113, 114, 115, 116, 117, 118, 119, 120, 121, 122]
theorem okW_nil : okW [] := fun c hc => by cases hc
def one (c : Nat) : D := .str [c]
theorem ab_left {f : List Nat} (h : f.length ≤ 2) : ab.filter (fun c => !decide (c ∈ f)) ≠ [] := by
  intro z
  rw [List.filter_eq_nil_iff] at z
  have h1 : (97 : Nat) ∈ f := by simpa using z 97 (by decide)
  have h2 : (98 : Nat) ∈ f := by simpa using z 98 (by decide)
  have h3 : (99 : Nat) ∈ f := by simpa using z 99 (by decide)
  match f, h with
  | [], _ => simp at h1
  | [a], _ => simp at h1 h2; omega
  | [a, b], _ => simp at h1 h2 h3; omega
theorem fm_one {p : Nat → Bool} : ∀ l : List Nat, (l.map one).filterMap (fun d => match d with | .str [c] => if p c = true then some d else none | _ => none) = (l.filter p).map one
  | [] => rfl
  | c :: l => by
    have ih := fm_one (p := p) l
    cases h : p c with
    | true => simp [List.filterMap_cons, one, h] ; simpa [one] using ih
    | false => simp [List.filterMap_cons, one, h] ; simpa [one] using ih
theorem at_ones {l : List Nat} {i : Int} (h0 : 0 ≤ i) (h : i < l.length) : ∃ c ∈ l, L2.atI (l.map one) i = some (.str [c]) := by
  obtain ⟨x, h1, h2⟩ := atI_map (f := one) h0 h
  exact ⟨x, List.mem_of_getElem? h1, h2⟩
section
variable {S : Sto} (hS : Cl S)
include hS
theorem letters_lc {f : List Nat} {G0 G2 G3 G4 G5 : Option SV} : lc__law_letters_0 [G0, some (.v (.str f)), G2, G3, G4, G5] S = some (.ok (.v (.lst ((ab.filter fun c => !decide (c ∈ f)).map one))) S) := by
  have hS0 := hS _ (Nat.le_refl _)
  have hS1 := hS (S.length + 1) (by omega)
  unfold lc__law_letters_0
  rw [mLc_eq (ds := ab.map one) (S1 := S) (fun d => match d with | .str [c] => if (!decide (c ∈ f)) = true then some d else none | _ => none) (by simp (decide := true) [wp_seq, wp_some, kQ_nx, kQ_rt, kQ_bk, kQ_ct, kQ_er, kL_nx, kL_ct, kL_bk, kL_rt, kL_er, sAsg, sE, sRet, sRetN, sDrop, sIf, sNext, sBreak, sCont, sRaise, sRaiseF, sPar, sAug, gSet, mVar, Mm.bind, Mm.ret, bin, op2, rd, orD, addD, addI, subI, i2, modI, divI, powI, s2, addS_small, addS_tup, addS_lst, addS_int, catL, catT, mulD, repS, repL, eqD, neD, okD, okDs, eqd, eqds, flatD, eqD, sTry, sHand, noEr, sTryAs, unAs, mFld, mIsE, mRepK, kRepK, cmpI, ltI, leI, gtI, geI, isNone, notNone, isN, asB, asT, truD, mNot, mAnd, mOr, vAnd, vOr, vNot, mIf, mNeg, mTup, mTupZ, frz, mLst, mOwn, mCons, mNil, datas, atD_tup, atD_lst, atD_rol, atD_str, seqOf, mNoPart, asI, mSl, slD_tup, slD_lst, slD_rol, slD_str, mIsI, isT, mCB, rds, mCall, mCall0, mMt, chk, isM, mApp, mExt, lenD_str, lenD_tup, lenD_lst, lenD_rol, intD, listD, tupD, mSrc, srcD, rng1, rng2, gTupD, gsCons, gsNil, mChain, thawG, thaw, snapO, MO.below, List.getElem?_cons_succ, List.getElem?_cons_zero, List.length_cons, List.length_nil, List.set_cons_succ, List.set_cons_zero, Int.natAbs_natCast, mTupRev, mCatO, mListO, gItm, minI, maxI, absI, app_take, app_take0, app_get, app_get0, app_set, app_set0, List.take_length, finO_nx, finO_rt, finO_er, finT, finE, hS0, ab, one, signs]) hS0 hS1 (by show 26 ≤ lineN; decide), fm_one]
  intro d hd acc
  obtain ⟨c, hc, rfl⟩ := List.mem_map.mp hd
  refine ⟨_, rfl, ?_⟩
  by_cases h : c ∈ f
  · left
    simp (decide := true) [wp_seq, wp_some, kQ_nx, kQ_rt, kQ_bk, kQ_ct, kQ_er, kL_nx, kL_ct, kL_bk, kL_rt, kL_er, sAsg, sE, sRet, sRetN, sDrop, sIf, sNext, sBreak, sCont, sRaise, sRaiseF, sPar, sAug, gSet, mVar, Mm.bind, Mm.ret, bin, op2, rd, orD, addD, addI, subI, i2, modI, divI, powI, s2, addS_small, addS_tup, addS_lst, addS_int, catL, catT, mulD, repS, repL, eqD, neD, okD, okDs, eqd, eqds, flatD, eqD, sTry, sHand, noEr, sTryAs, unAs, mFld, mIsE, mRepK, kRepK, cmpI, ltI, leI, gtI, geI, isNone, notNone, isN, asB, asT, truD, mNot, mAnd, mOr, vAnd, vOr, vNot, mIf, mNeg, mTup, mTupZ, frz, mLst, mOwn, mCons, mNil, datas, atD_tup, atD_lst, atD_rol, atD_str, seqOf, mNoPart, asI, mSl, slD_tup, slD_lst, slD_rol, slD_str, mIsI, isT, mCB, rds, mCall, mCall0, mMt, chk, isM, mApp, mExt, lenD_str, lenD_tup, lenD_lst, lenD_rol, intD, listD, tupD, mSrc, srcD, rng1, rng2, gTupD, gsCons, gsNil, mChain, thawG, thaw, snapO, MO.below, List.getElem?_cons_succ, List.getElem?_cons_zero, List.length_cons, List.length_nil, List.set_cons_succ, List.set_cons_zero, Int.natAbs_natCast, mTupRev, mCatO, mListO, gItm, minI, maxI, absI, app_take, app_take0, app_get, app_get0, app_set, app_set0, List.take_length, finO_nx, finO_rt, finO_er, finT, finE, wipeG, one, h, niD, inF, niS]
  · right
    refine ⟨one c, ?_, ?_, ?_⟩
    · simp [one, h]
    · simp (decide := true) [wp_seq, wp_some, kQ_nx, kQ_rt, kQ_bk, kQ_ct, kQ_er, kL_nx, kL_ct, kL_bk, kL_rt, kL_er, sAsg, sE, sRet, sRetN, sDrop, sIf, sNext, sBreak, sCont, sRaise, sRaiseF, sPar, sAug, gSet, mVar, Mm.bind, Mm.ret, bin, op2, rd, orD, addD, addI, subI, i2, modI, divI, powI, s2, addS_small, addS_tup, addS_lst, addS_int, catL, catT, mulD, repS, repL, eqD, neD, okD, okDs, eqd, eqds, flatD, eqD, sTry, sHand, noEr, sTryAs, unAs, mFld, mIsE, mRepK, kRepK, cmpI, ltI, leI, gtI, geI, isNone, notNone, isN, asB, asT, truD, mNot, mAnd, mOr, vAnd, vOr, vNot, mIf, mNeg, mTup, mTupZ, frz, mLst, mOwn, mCons, mNil, datas, atD_tup, atD_lst, atD_rol, atD_str, seqOf, mNoPart, asI, mSl, slD_tup, slD_lst, slD_rol, slD_str, mIsI, isT, mCB, rds, mCall, mCall0, mMt, chk, isM, mApp, mExt, lenD_str, lenD_tup, lenD_lst, lenD_rol, intD, listD, tupD, mSrc, srcD, rng1, rng2, gTupD, gsCons, gsNil, mChain, thawG, thaw, snapO, MO.below, List.getElem?_cons_succ, List.getElem?_cons_zero, List.length_cons, List.length_nil, List.set_cons_succ, List.set_cons_zero, Int.natAbs_natCast, mTupRev, mCatO, mListO, gItm, minI, maxI, absI, app_take, app_take0, app_get, app_get0, app_set, app_set0, List.take_length, finO_nx, finO_rt, finO_er, finT, finE, wipeG, one, h, niD, inF, niS]
    · simp (decide := true) [wp_seq, wp_some, kQ_nx, kQ_rt, kQ_bk, kQ_ct, kQ_er, kL_nx, kL_ct, kL_bk, kL_rt, kL_er, sAsg, sE, sRet, sRetN, sDrop, sIf, sNext, sBreak, sCont, sRaise, sRaiseF, sPar, sAug, gSet, mVar, Mm.bind, Mm.ret, bin, op2, rd, orD, addD, addI, subI, i2, modI, divI, powI, s2, addS_small, addS_tup, addS_lst, addS_int, catL, catT, mulD, repS, repL, eqD, neD, okD, okDs, eqd, eqds, flatD, eqD, sTry, sHand, noEr, sTryAs, unAs, mFld, mIsE, mRepK, kRepK, cmpI, ltI, leI, gtI, geI, isNone, notNone, isN, asB, asT, truD, mNot, mAnd, mOr, vAnd, vOr, vNot, mIf, mNeg, mTup, mTupZ, frz, mLst, mOwn, mCons, mNil, datas, atD_tup, atD_lst, atD_rol, atD_str, seqOf, mNoPart, asI, mSl, slD_tup, slD_lst, slD_rol, slD_str, mIsI, isT, mCB, rds, mCall, mCall0, mMt, chk, isM, mApp, mExt, lenD_str, lenD_tup, lenD_lst, lenD_rol, intD, listD, tupD, mSrc, srcD, rng1, rng2, gTupD, gsCons, gsNil, mChain, thawG, thaw, snapO, MO.below, List.getElem?_cons_succ, List.getElem?_cons_zero, List.length_cons, List.length_nil, List.set_cons_succ, List.set_cons_zero, Int.natAbs_natCast, mTupRev, mCatO, mListO, gItm, minI, maxI, absI, app_take, app_take0, app_get, app_get0, app_set, app_set0, List.take_length, finO_nx, finO_rt, finO_er, finT, finE, wipeG, one]
theorem letters_ok {n : Int} (hn : 0 ≤ n) : ∃ l : List Nat, den__law_letters [.v (.int n)] S = some (.ok (.v (.str l)) S) ∧ 2 ≤ l.length ∧ l.length ≤ 3 ∧ okW l := by
  have hS0 := hS _ (Nat.le_refl _)
  have key : wp (den__law_letters [.v (.int n)] S) fun r => ∃ l : List Nat, r = .ok (.v (.str l)) S ∧ 2 ≤ l.length ∧ l.length ≤ 3 ∧ okW l := by
    refine fnD_wp rfl ?_
    generalize hQ : (fun o => wp (finO S.length o) _) = Q
    have l3 : Nat.log2 3 < 9000 := by decide +kernel
    have l26 : Nat.log2 26 < 9000 := by decide +kernel
    simp (decide := true) [wp_seq, wp_some, kQ_nx, kQ_rt, kQ_bk, kQ_ct, kQ_er, kL_nx, kL_ct, kL_bk, kL_rt, kL_er, sAsg, sE, sRet, sRetN, sDrop, sIf, sNext, sBreak, sCont, sRaise, sRaiseF, sPar, sAug, gSet, mVar, Mm.bind, Mm.ret, bin, op2, rd, orD, addD, addI, subI, i2, modI, divI, powI, s2, addS_small, addS_tup, addS_lst, addS_int, catL, catT, mulD, repS, repL, eqD, neD, okD, okDs, eqd, eqds, flatD, eqD, sTry, sHand, noEr, sTryAs, unAs, mFld, mIsE, mRepK, kRepK, cmpI, ltI, leI, gtI, geI, isNone, notNone, isN, asB, asT, truD, mNot, mAnd, mOr, vAnd, vOr, vNot, mIf, mNeg, mTup, mTupZ, frz, mLst, mOwn, mCons, mNil, datas, atD_tup, atD_lst, atD_rol, atD_str, seqOf, mNoPart, asI, mSl, slD_tup, slD_lst, slD_rol, slD_str, mIsI, isT, mCB, rds, mCall, mCall0, mMt, chk, isM, mApp, mExt, lenD_str, lenD_tup, lenD_lst, lenD_rol, intD, listD, tupD, mSrc, srcD, rng1, rng2, gTupD, gsCons, gsNil, mChain, thawG, thaw, snapO, MO.below, List.getElem?_cons_succ, List.getElem?_cons_zero, List.length_cons, List.length_nil, List.set_cons_succ, List.set_cons_zero, Int.natAbs_natCast, mTupRev, mCatO, mListO, gItm, minI, maxI, absI, app_take, app_take0, app_get, app_get0, app_set, app_set0, List.take_length, finO_nx, finO_rt, finO_er, finT, finE, su__law_letters_0_0, su__law_letters_0_1, l3]
    unfold su__law_letters_0_2
    rw [wp_seq]
    obtain ⟨m, hm, hm2, hm3⟩ : ∃ m : Nat, 2 + n % 2 = (m : Int) ∧ 2 ≤ m ∧ m ≤ 3 := ⟨(2 + n % 2).toNat, by omega, by omega, by omega⟩
    have hml : m ≤ lineN := by rw [lineN_eq]; omega
    refine wp_for (fun i G S' => ∃ (f : List Nat) (r : Int) (j3 j4 j5 : Option SV), 0 ≤ r ∧ f.length = i ∧ okW f ∧ G = [some (.v (.int n)), some (.v (.str f)), some (.v (.int r)), j3, j4, j5] ∧ S = S') (ds := rngD 0 m) (S1 := S) (by simp (decide := true) [wp_seq, wp_some, kQ_nx, kQ_rt, kQ_bk, kQ_ct, kQ_er, kL_nx, kL_ct, kL_bk, kL_rt, kL_er, sAsg, sE, sRet, sRetN, sDrop, sIf, sNext, sBreak, sCont, sRaise, sRaiseF, sPar, sAug, gSet, mVar, Mm.bind, Mm.ret, bin, op2, rd, orD, addD, addI, subI, i2, modI, divI, powI, s2, addS_small, addS_tup, addS_lst, addS_int, catL, catT, mulD, repS, repL, eqD, neD, okD, okDs, eqd, eqds, flatD, eqD, sTry, sHand, noEr, sTryAs, unAs, mFld, mIsE, mRepK, kRepK, cmpI, ltI, leI, gtI, geI, isNone, notNone, isN, asB, asT, truD, mNot, mAnd, mOr, vAnd, vOr, vNot, mIf, mNeg, mTup, mTupZ, frz, mLst, mOwn, mCons, mNil, datas, atD_tup, atD_lst, atD_rol, atD_str, seqOf, mNoPart, asI, mSl, slD_tup, slD_lst, slD_rol, slD_str, mIsI, isT, mCB, rds, mCall, mCall0, mMt, chk, isM, mApp, mExt, lenD_str, lenD_tup, lenD_lst, lenD_rol, intD, listD, tupD, mSrc, srcD, rng1, rng2, gTupD, gsCons, gsNil, mChain, thawG, thaw, snapO, MO.below, List.getElem?_cons_succ, List.getElem?_cons_zero, List.length_cons, List.length_nil, List.set_cons_succ, List.set_cons_zero, Int.natAbs_natCast, mTupRev, mCatO, mListO, gItm, minI, maxI, absI, app_take, app_take0, app_get, app_get0, app_set, app_set0, List.take_length, finO_nx, finO_rt, finO_er, finT, finE, hS0, hm, hml]) ⟨[], n / 3, none, none, none, by omega, rfl, okW_nil, rfl, rfl⟩ ?_ ?_
    · rintro i d G S' hd ⟨f, r, j3, j4, j5, hr, hf, hfw, rfl, rfl⟩
      obtain ⟨hi, rfl⟩ := rngD_get hd
      generalize hR : kL _ _ _ = R
      have hne := ab_left (f := f) (by omega)
      have hlen : 0 < (ab.filter fun c => !decide (c ∈ f)).length := List.length_pos_iff.mpr hne
      obtain ⟨c, hc, hat⟩ := at_ones (l := ab.filter fun c => !decide (c ∈ f)) (i := r % ((ab.filter fun c => !decide (c ∈ f)).length : Nat)) (Int.emod_nonneg _ (by omega)) (Int.emod_lt_of_pos _ (by omega))
      have hcc : okC c := ab_mem.mp (List.mem_filter.mp hc).1
      have hfl : f.length + 1 ≤ lineN := by rw [lineN_eq]; omega
      have hlc := fun G0 G2 G3 G4 G5 => letters_lc hS (f := f) (G0 := G0) (G2 := G2) (G3 := G3) (G4 := G4) (G5 := G5)
      generalize hL : (ab.filter fun c => !decide (c ∈ f)) = L at *
      have hlen' : (0 : Int) < L.length := by omega
      simp (decide := true) [wp_seq, wp_some, kQ_nx, kQ_rt, kQ_bk, kQ_ct, kQ_er, kL_nx, kL_ct, kL_bk, kL_rt, kL_er, sAsg, sE, sRet, sRetN, sDrop, sIf, sNext, sBreak, sCont, sRaise, sRaiseF, sPar, sAug, gSet, mVar, Mm.bind, Mm.ret, bin, op2, rd, orD, addD, addI, subI, i2, modI, divI, powI, s2, addS_small, addS_tup, addS_lst, addS_int, catL, catT, mulD, repS, repL, eqD, neD, okD, okDs, eqd, eqds, flatD, eqD, sTry, sHand, noEr, sTryAs, unAs, mFld, mIsE, mRepK, kRepK, cmpI, ltI, leI, gtI, geI, isNone, notNone, isN, asB, asT, truD, mNot, mAnd, mOr, vAnd, vOr, vNot, mIf, mNeg, mTup, mTupZ, frz, mLst, mOwn, mCons, mNil, datas, atD_tup, atD_lst, atD_rol, atD_str, seqOf, mNoPart, asI, mSl, slD_tup, slD_lst, slD_rol, slD_str, mIsI, isT, mCB, rds, mCall, mCall0, mMt, chk, isM, mApp, mExt, lenD_str, lenD_tup, lenD_lst, lenD_rol, intD, listD, tupD, mSrc, srcD, rng1, rng2, gTupD, gsCons, gsNil, mChain, thawG, thaw, snapO, MO.below, List.getElem?_cons_succ, List.getElem?_cons_zero, List.length_cons, List.length_nil, List.set_cons_succ, List.set_cons_zero, Int.natAbs_natCast, mTupRev, mCatO, mListO, gItm, minI, maxI, absI, app_take, app_take0, app_get, app_get0, app_set, app_set0, List.take_length, finO_nx, finO_rt, finO_er, finT, finE, su__law_letters_1_0, hlc, su__law_letters_1_1, hat, hlen, hlen', hfl, su__law_letters_1_2, l26]
      subst hR
      exact ⟨by simp (decide := true) [wp_seq, wp_some, kQ_nx, kQ_rt, kQ_bk, kQ_ct, kQ_er, kL_nx, kL_ct, kL_bk, kL_rt, kL_er, sAsg, sE, sRet, sRetN, sDrop, sIf, sNext, sBreak, sCont, sRaise, sRaiseF, sPar, sAug, gSet, mVar, Mm.bind, Mm.ret, bin, op2, rd, orD, addD, addI, subI, i2, modI, divI, powI, s2, addS_small, addS_tup, addS_lst, addS_int, catL, catT, mulD, repS, repL, eqD, neD, okD, okDs, eqd, eqds, flatD, eqD, sTry, sHand, noEr, sTryAs, unAs, mFld, mIsE, mRepK, kRepK, cmpI, ltI, leI, gtI, geI, isNone, notNone, isN, asB, asT, truD, mNot, mAnd, mOr, vAnd, vOr, vNot, mIf, mNeg, mTup, mTupZ, frz, mLst, mOwn, mCons, mNil, datas, atD_tup, atD_lst, atD_rol, atD_str, seqOf, mNoPart, asI, mSl, slD_tup, slD_lst, slD_rol, slD_str, mIsI, isT, mCB, rds, mCall, mCall0, mMt, chk, isM, mApp, mExt, lenD_str, lenD_tup, lenD_lst, lenD_rol, intD, listD, tupD, mSrc, srcD, rng1, rng2, gTupD, gsCons, gsNil, mChain, thawG, thaw, snapO, MO.below, List.getElem?_cons_succ, List.getElem?_cons_zero, List.length_cons, List.length_nil, List.set_cons_succ, List.set_cons_zero, Int.natAbs_natCast, mTupRev, mCatO, mListO, gItm, minI, maxI, absI, app_take, app_take0, app_get, app_get0, app_set, app_set0, List.take_length, finO_nx, finO_rt, finO_er, finT, finE, hS0], f ++ [c], r / 26, some (.v (.int i)), some (.v (.lst (L.map one))), j5.bind (thaw S S.length), by omega, by simp [hf], okW_app hfw (okW_one hcc), by simp (decide := true) [wp_seq, wp_some, kQ_nx, kQ_rt, kQ_bk, kQ_ct, kQ_er, kL_nx, kL_ct, kL_bk, kL_rt, kL_er, sAsg, sE, sRet, sRetN, sDrop, sIf, sNext, sBreak, sCont, sRaise, sRaiseF, sPar, sAug, gSet, mVar, Mm.bind, Mm.ret, bin, op2, rd, orD, addD, addI, subI, i2, modI, divI, powI, s2, addS_small, addS_tup, addS_lst, addS_int, catL, catT, mulD, repS, repL, eqD, neD, okD, okDs, eqd, eqds, flatD, eqD, sTry, sHand, noEr, sTryAs, unAs, mFld, mIsE, mRepK, kRepK, cmpI, ltI, leI, gtI, geI, isNone, notNone, isN, asB, asT, truD, mNot, mAnd, mOr, vAnd, vOr, vNot, mIf, mNeg, mTup, mTupZ, frz, mLst, mOwn, mCons, mNil, datas, atD_tup, atD_lst, atD_rol, atD_str, seqOf, mNoPart, asI, mSl, slD_tup, slD_lst, slD_rol, slD_str, mIsI, isT, mCB, rds, mCall, mCall0, mMt, chk, isM, mApp, mExt, lenD_str, lenD_tup, lenD_lst, lenD_rol, intD, listD, tupD, mSrc, srcD, rng1, rng2, gTupD, gsCons, gsNil, mChain, thawG, thaw, snapO, MO.below, List.getElem?_cons_succ, List.getElem?_cons_zero, List.length_cons, List.length_nil, List.set_cons_succ, List.set_cons_zero, Int.natAbs_natCast, mTupRev, mCatO, mListO, gItm, minI, maxI, absI, app_take, app_take0, app_get, app_get0, app_set, app_set0, List.take_length, finO_nx, finO_rt, finO_er, finT, finE, hS0], by simp (decide := true) [wp_seq, wp_some, kQ_nx, kQ_rt, kQ_bk, kQ_ct, kQ_er, kL_nx, kL_ct, kL_bk, kL_rt, kL_er, sAsg, sE, sRet, sRetN, sDrop, sIf, sNext, sBreak, sCont, sRaise, sRaiseF, sPar, sAug, gSet, mVar, Mm.bind, Mm.ret, bin, op2, rd, orD, addD, addI, subI, i2, modI, divI, powI, s2, addS_small, addS_tup, addS_lst, addS_int, catL, catT, mulD, repS, repL, eqD, neD, okD, okDs, eqd, eqds, flatD, eqD, sTry, sHand, noEr, sTryAs, unAs, mFld, mIsE, mRepK, kRepK, cmpI, ltI, leI, gtI, geI, isNone, notNone, isN, asB, asT, truD, mNot, mAnd, mOr, vAnd, vOr, vNot, mIf, mNeg, mTup, mTupZ, frz, mLst, mOwn, mCons, mNil, datas, atD_tup, atD_lst, atD_rol, atD_str, seqOf, mNoPart, asI, mSl, slD_tup, slD_lst, slD_rol, slD_str, mIsI, isT, mCB, rds, mCall, mCall0, mMt, chk, isM, mApp, mExt, lenD_str, lenD_tup, lenD_lst, lenD_rol, intD, listD, tupD, mSrc, srcD, rng1, rng2, gTupD, gsCons, gsNil, mChain, thawG, thaw, snapO, MO.below, List.getElem?_cons_succ, List.getElem?_cons_zero, List.length_cons, List.length_nil, List.set_cons_succ, List.set_cons_zero, Int.natAbs_natCast, mTupRev, mCatO, mListO, gItm, minI, maxI, absI, app_take, app_take0, app_get, app_get0, app_set, app_set0, List.take_length, finO_nx, finO_rt, finO_er, finT, finE, hS0]⟩
    · rintro G S' ⟨f, r, j3, j4, j5, hr, hf, hfw, rfl, rfl⟩
      simp (decide := true) [wp_seq, wp_some, kQ_nx, kQ_rt, kQ_bk, kQ_ct, kQ_er, kL_nx, kL_ct, kL_bk, kL_rt, kL_er, sAsg, sE, sRet, sRetN, sDrop, sIf, sNext, sBreak, sCont, sRaise, sRaiseF, sPar, sAug, gSet, mVar, Mm.bind, Mm.ret, bin, op2, rd, orD, addD, addI, subI, i2, modI, divI, powI, s2, addS_small, addS_tup, addS_lst, addS_int, catL, catT, mulD, repS, repL, eqD, neD, okD, okDs, eqd, eqds, flatD, eqD, sTry, sHand, noEr, sTryAs, unAs, mFld, mIsE, mRepK, kRepK, cmpI, ltI, leI, gtI, geI, isNone, notNone, isN, asB, asT, truD, mNot, mAnd, mOr, vAnd, vOr, vNot, mIf, mNeg, mTup, mTupZ, frz, mLst, mOwn, mCons, mNil, datas, atD_tup, atD_lst, atD_rol, atD_str, seqOf, mNoPart, asI, mSl, slD_tup, slD_lst, slD_rol, slD_str, mIsI, isT, mCB, rds, mCall, mCall0, mMt, chk, isM, mApp, mExt, lenD_str, lenD_tup, lenD_lst, lenD_rol, intD, listD, tupD, mSrc, srcD, rng1, rng2, gTupD, gsCons, gsNil, mChain, thawG, thaw, snapO, MO.below, List.getElem?_cons_succ, List.getElem?_cons_zero, List.length_cons, List.length_nil, List.set_cons_succ, List.set_cons_zero, Int.natAbs_natCast, mTupRev, mCatO, mListO, gItm, minI, maxI, absI, app_take, app_take0, app_get, app_get0, app_set, app_set0, List.take_length, finO_nx, finO_rt, finO_er, finT, finE, su__law_letters_0_3]
      subst hQ
      rw [rngD_len] at hf
      exact ⟨_, by simp (decide := true) [wp_seq, wp_some, kQ_nx, kQ_rt, kQ_bk, kQ_ct, kQ_er, kL_nx, kL_ct, kL_bk, kL_rt, kL_er, sAsg, sE, sRet, sRetN, sDrop, sIf, sNext, sBreak, sCont, sRaise, sRaiseF, sPar, sAug, gSet, mVar, Mm.bind, Mm.ret, bin, op2, rd, orD, addD, addI, subI, i2, modI, divI, powI, s2, addS_small, addS_tup, addS_lst, addS_int, catL, catT, mulD, repS, repL, eqD, neD, okD, okDs, eqd, eqds, flatD, eqD, sTry, sHand, noEr, sTryAs, unAs, mFld, mIsE, mRepK, kRepK, cmpI, ltI, leI, gtI, geI, isNone, notNone, isN, asB, asT, truD, mNot, mAnd, mOr, vAnd, vOr, vNot, mIf, mNeg, mTup, mTupZ, frz, mLst, mOwn, mCons, mNil, datas, atD_tup, atD_lst, atD_rol, atD_str, seqOf, mNoPart, asI, mSl, slD_tup, slD_lst, slD_rol, slD_str, mIsI, isT, mCB, rds, mCall, mCall0, mMt, chk, isM, mApp, mExt, lenD_str, lenD_tup, lenD_lst, lenD_rol, intD, listD, tupD, mSrc, srcD, rng1, rng2, gTupD, gsCons, gsNil, mChain, thawG, thaw, snapO, MO.below, List.getElem?_cons_succ, List.getElem?_cons_zero, List.length_cons, List.length_nil, List.set_cons_succ, List.set_cons_zero, Int.natAbs_natCast, mTupRev, mCatO, mListO, gItm, minI, maxI, absI, app_take, app_take0, app_get, app_get0, app_set, app_set0, List.take_length, finO_nx, finO_rt, finO_er, finT, finE, hS0] <;> rfl, f, rfl, by omega, by omega, hfw⟩
  obtain ⟨r, e, l, rfl, h⟩ := key
  exact ⟨l, e, h⟩
end
end G

namespace G
open PySem DL
theorem at_str {l : List Nat} {i : Int} (h0 : 0 ≤ i) (h : i < l.length) : ∃ c ∈ l, L2.atI l i = some c := atI_mem h0 h
def wl (a b c d : List Nat) : List D := [.str a, .str b, .str c, .str d]
section
variable {S : Sto} (hS : Cl S)
include hS
theorem woven_ok {X : List Int} (hX : X.length = 40) (hX0 : ∀ z ∈ X, 0 ≤ z ∧ z < 2147483648) {m : Nat} (hm : m ≤ 9) {l : List Nat} (hl : 2 ≤ l.length) (hl2 : l.length ≤ 3) (hlw : okW l) :
    ∃ (a b c d : List Nat) (M : List D), den__law_woven [.v (.lst (X.map .int)), .v (.int m), .v (.str l)] S = some (.ok (.v (.tup [.lst (wl a b c d), .lst M])) S) ∧ (okW a ∧ okW b ∧ okW c ∧ okW d) ∧ a.length ≤ 9 ∧ b.length ≤ 9 ∧ c.length ≤ 9 := by
  have hS0 := hS _ (Nat.le_refl _)
  have hS2 := hS (S.length + 2) (by omega)
  have key : wp (den__law_woven [.v (.lst (X.map .int)), .v (.int m), .v (.str l)] S) fun r => ∃ (a b c d : List Nat) (M : List D), r = .ok (.v (.tup [.lst (wl a b c d), .lst M])) S ∧ (okW a ∧ okW b ∧ okW c ∧ okW d) ∧ a.length ≤ 9 ∧ b.length ≤ 9 ∧ c.length ≤ 9 := by
    refine fnD_wp rfl ?_
    generalize hQ : (fun o => wp (finO S.length o) _) = Q
    have h4 : 4 ≤ lineN := by decide
    have h2 : 2 ≤ lineN := by decide
    have hml : m ≤ lineN := by rw [lineN_eq]; omega
    have hll : l.length ≤ lineN := by rw [lineN_eq]; omega
    simp (decide := true) [wp_seq, wp_some, kQ_nx, kQ_rt, kQ_bk, kQ_ct, kQ_er, kL_nx, kL_ct, kL_bk, kL_rt, kL_er, sAsg, sE, sRet, sRetN, sDrop, sIf, sNext, sBreak, sCont, sRaise, sRaiseF, sPar, sAug, gSet, mVar, Mm.bind, Mm.ret, bin, op2, rd, orD, addD, addI, subI, i2, modI, divI, powI, s2, addS_small, addS_tup, addS_lst, addS_int, catL, catT, mulD, repS, repL, eqD, neD, okD, okDs, eqd, eqds, flatD, eqD, sTry, sHand, noEr, sTryAs, unAs, mFld, mIsE, mRepK, kRepK, cmpI, ltI, leI, gtI, geI, isNone, notNone, isN, asB, asT, truD, mNot, mAnd, mOr, vAnd, vOr, vNot, mIf, mNeg, mTup, mTupZ, frz, mLst, mOwn, mCons, mNil, datas, atD_tup, atD_lst, atD_rol, atD_str, seqOf, mNoPart, asI, mSl, slD_tup, slD_lst, slD_rol, slD_str, mIsI, isT, mCB, rds, mCall, mCall0, mMt, chk, isM, mApp, mExt, lenD_str, lenD_tup, lenD_lst, lenD_rol, intD, listD, tupD, mSrc, srcD, rng1, rng2, gTupD, gsCons, gsNil, mChain, thawG, thaw, snapO, MO.below, List.getElem?_cons_succ, List.getElem?_cons_zero, List.length_cons, List.length_nil, List.set_cons_succ, List.set_cons_zero, Int.natAbs_natCast, mTupRev, mCatO, mListO, gItm, minI, maxI, absI, app_take, app_take0, app_get, app_get0, app_set, app_set0, List.take_length, finO_nx, finO_rt, finO_er, finT, finE, su__law_woven_0_0, su__law_woven_0_1, h4]
    unfold su__law_woven_0_2
    rw [wp_seq]
    refine wp_for (fun i G S' => ∃ (a b c d : List Nat) (M : List D) (j5 j6 j7 j8 j9 : Option SV), (okW a ∧ okW b ∧ okW c ∧ okW d) ∧ (a.length ≤ i ∧ b.length ≤ i ∧ c.length ≤ i ∧ d.length ≤ i) ∧ M.length = i ∧ G = [some (.v (.lst (X.map .int))), some (.v (.int m)), some (.v (.str l)), some (.o S.length), some (.o (S.length + 1)), j5, j6, j7, j8, j9] ∧ S ++ [.lst (wl a b c d), .lst M] = S') (ds := rngD 0 m) (S1 := S ++ [.lst (wl [] [] [] []), .lst []]) (by simp (decide := true) [wp_seq, wp_some, kQ_nx, kQ_rt, kQ_bk, kQ_ct, kQ_er, kL_nx, kL_ct, kL_bk, kL_rt, kL_er, sAsg, sE, sRet, sRetN, sDrop, sIf, sNext, sBreak, sCont, sRaise, sRaiseF, sPar, sAug, gSet, mVar, Mm.bind, Mm.ret, bin, op2, rd, orD, addD, addI, subI, i2, modI, divI, powI, s2, addS_small, addS_tup, addS_lst, addS_int, catL, catT, mulD, repS, repL, eqD, neD, okD, okDs, eqd, eqds, flatD, eqD, sTry, sHand, noEr, sTryAs, unAs, mFld, mIsE, mRepK, kRepK, cmpI, ltI, leI, gtI, geI, isNone, notNone, isN, asB, asT, truD, mNot, mAnd, mOr, vAnd, vOr, vNot, mIf, mNeg, mTup, mTupZ, frz, mLst, mOwn, mCons, mNil, datas, atD_tup, atD_lst, atD_rol, atD_str, seqOf, mNoPart, asI, mSl, slD_tup, slD_lst, slD_rol, slD_str, mIsI, isT, mCB, rds, mCall, mCall0, mMt, chk, isM, mApp, mExt, lenD_str, lenD_tup, lenD_lst, lenD_rol, intD, listD, tupD, mSrc, srcD, rng1, rng2, gTupD, gsCons, gsNil, mChain, thawG, thaw, snapO, MO.below, List.getElem?_cons_succ, List.getElem?_cons_zero, List.length_cons, List.length_nil, List.set_cons_succ, List.set_cons_zero, Int.natAbs_natCast, mTupRev, mCatO, mListO, gItm, minI, maxI, absI, app_take, app_take0, app_get, app_get0, app_set, app_set0, List.take_length, finO_nx, finO_rt, finO_er, finT, finE, hS0, hml, wl]) ⟨[], [], [], [], [], none, none, none, none, none, ⟨okW_nil, okW_nil, okW_nil, okW_nil⟩, by simp, rfl, by simp (decide := true) [wp_seq, wp_some, kQ_nx, kQ_rt, kQ_bk, kQ_ct, kQ_er, kL_nx, kL_ct, kL_bk, kL_rt, kL_er, sAsg, sE, sRet, sRetN, sDrop, sIf, sNext, sBreak, sCont, sRaise, sRaiseF, sPar, sAug, gSet, mVar, Mm.bind, Mm.ret, bin, op2, rd, orD, addD, addI, subI, i2, modI, divI, powI, s2, addS_small, addS_tup, addS_lst, addS_int, catL, catT, mulD, repS, repL, eqD, neD, okD, okDs, eqd, eqds, flatD, eqD, sTry, sHand, noEr, sTryAs, unAs, mFld, mIsE, mRepK, kRepK, cmpI, ltI, leI, gtI, geI, isNone, notNone, isN, asB, asT, truD, mNot, mAnd, mOr, vAnd, vOr, vNot, mIf, mNeg, mTup, mTupZ, frz, mLst, mOwn, mCons, mNil, datas, atD_tup, atD_lst, atD_rol, atD_str, seqOf, mNoPart, asI, mSl, slD_tup, slD_lst, slD_rol, slD_str, mIsI, isT, mCB, rds, mCall, mCall0, mMt, chk, isM, mApp, mExt, lenD_str, lenD_tup, lenD_lst, lenD_rol, intD, listD, tupD, mSrc, srcD, rng1, rng2, gTupD, gsCons, gsNil, mChain, thawG, thaw, snapO, MO.below, List.getElem?_cons_succ, List.getElem?_cons_zero, List.length_cons, List.length_nil, List.set_cons_succ, List.set_cons_zero, Int.natAbs_natCast, mTupRev, mCatO, mListO, gItm, minI, maxI, absI, app_take, app_take0, app_get, app_get0, app_set, app_set0, List.take_length, finO_nx, finO_rt, finO_er, finT, finE, DL.lineN_pos], by simp (decide := true) [wp_seq, wp_some, kQ_nx, kQ_rt, kQ_bk, kQ_ct, kQ_er, kL_nx, kL_ct, kL_bk, kL_rt, kL_er, sAsg, sE, sRet, sRetN, sDrop, sIf, sNext, sBreak, sCont, sRaise, sRaiseF, sPar, sAug, gSet, mVar, Mm.bind, Mm.ret, bin, op2, rd, orD, addD, addI, subI, i2, modI, divI, powI, s2, addS_small, addS_tup, addS_lst, addS_int, catL, catT, mulD, repS, repL, eqD, neD, okD, okDs, eqd, eqds, flatD, eqD, sTry, sHand, noEr, sTryAs, unAs, mFld, mIsE, mRepK, kRepK, cmpI, ltI, leI, gtI, geI, isNone, notNone, isN, asB, asT, truD, mNot, mAnd, mOr, vAnd, vOr, vNot, mIf, mNeg, mTup, mTupZ, frz, mLst, mOwn, mCons, mNil, datas, atD_tup, atD_lst, atD_rol, atD_str, seqOf, mNoPart, asI, mSl, slD_tup, slD_lst, slD_rol, slD_str, mIsI, isT, mCB, rds, mCall, mCall0, mMt, chk, isM, mApp, mExt, lenD_str, lenD_tup, lenD_lst, lenD_rol, intD, listD, tupD, mSrc, srcD, rng1, rng2, gTupD, gsCons, gsNil, mChain, thawG, thaw, snapO, MO.below, List.getElem?_cons_succ, List.getElem?_cons_zero, List.length_cons, List.length_nil, List.set_cons_succ, List.set_cons_zero, Int.natAbs_natCast, mTupRev, mCatO, mListO, gItm, minI, maxI, absI, app_take, app_take0, app_get, app_get0, app_set, app_set0, List.take_length, finO_nx, finO_rt, finO_er, finT, finE, wl]⟩ ?_ ?_
    · rintro i dd G S' hd ⟨a, b, c, d, M, j5, j6, j7, j8, j9, ⟨wa, wb, wc, wd⟩, ⟨la, lb, lc, ld⟩, hM, rfl, rfl⟩
      obtain ⟨hi, rfl⟩ := rngD_get hd
      generalize hR : kL _ _ _ = R
      obtain ⟨x, hx, hx1⟩ := atI_map (f := D.int) (l := X) (i := (i : Int)) (by omega) (by omega)
      have x0 := hX0 x (List.mem_of_getElem? hx)
      have e1 : (i : Int) % 40 = i := by omega
      have e2 : (i : Int) / 40 % 3 = 0 := by omega
      obtain ⟨cc, hcc, hat⟩ := at_str (l := l) (i := x / 4 % (l.length : Nat)) (Int.emod_nonneg _ (by omega)) (Int.emod_lt_of_pos _ (by omega))
      have okc := hlw cc hcc
      have hl0 : (0 : Int) < l.length := by omega
      have hl0' : 0 < l.length := by omega
      have h3 : 3 ≤ lineN := by decide
      have k1 : Nat.log2 1 < 9000 := by decide +kernel
      have k4 : Nat.log2 4 < 9000 := by decide +kernel
      have k40 : Nat.log2 40 < 9000 := by decide +kernel
      have hMl : M.length < lineN := by rw [lineN_eq]; omega
      have la' : a.length + 1 ≤ lineN := by rw [lineN_eq]; omega
      have lb' : b.length + 1 ≤ lineN := by rw [lineN_eq]; omega
      have lc' : c.length + 1 ≤ lineN := by rw [lineN_eq]; omega
      have ld' : d.length + 1 ≤ lineN := by rw [lineN_eq]; omega
      have hx40 : x / 1 = x := Int.ediv_one x
      have hmod : x % 4 = 0 ∨ x % 4 = 1 ∨ x % 4 = 2 ∨ x % 4 = 3 := by omega
      have n0 : L2.ixN 4 0 = some 0 := rfl
      have n1 : L2.ixN 4 1 = some 1 := rfl
      have n2 : L2.ixN 4 2 = some 2 := rfl
      have n3 : L2.ixN 4 3 = some 3 := rfl
      have done : ∀ (a b c d : List Nat) (M : List D) (j5 j6 j7 j8 j9 : Option SV), (okW a ∧ okW b ∧ okW c ∧ okW d) → (a.length ≤ i + 1 ∧ b.length ≤ i + 1 ∧ c.length ≤ i + 1 ∧ d.length ≤ i + 1) → M.length = i + 1 →
          R (.nx [some (.v (.lst (X.map .int))), some (.v (.int m)), some (.v (.str l)), some (.o S.length), some (.o (S.length + 1)), j5, j6, j7, j8, j9] (S ++ [.lst (wl a b c d), .lst M])) := by
        intro a b c d M j5 j6 j7 j8 j9 p1 p2 p3
        subst hR
        exact ⟨by simp (decide := true) [wp_seq, wp_some, kQ_nx, kQ_rt, kQ_bk, kQ_ct, kQ_er, kL_nx, kL_ct, kL_bk, kL_rt, kL_er, sAsg, sE, sRet, sRetN, sDrop, sIf, sNext, sBreak, sCont, sRaise, sRaiseF, sPar, sAug, gSet, mVar, Mm.bind, Mm.ret, bin, op2, rd, orD, addD, addI, subI, i2, modI, divI, powI, s2, addS_small, addS_tup, addS_lst, addS_int, catL, catT, mulD, repS, repL, eqD, neD, okD, okDs, eqd, eqds, flatD, eqD, sTry, sHand, noEr, sTryAs, unAs, mFld, mIsE, mRepK, kRepK, cmpI, ltI, leI, gtI, geI, isNone, notNone, isN, asB, asT, truD, mNot, mAnd, mOr, vAnd, vOr, vNot, mIf, mNeg, mTup, mTupZ, frz, mLst, mOwn, mCons, mNil, datas, atD_tup, atD_lst, atD_rol, atD_str, seqOf, mNoPart, asI, mSl, slD_tup, slD_lst, slD_rol, slD_str, mIsI, isT, mCB, rds, mCall, mCall0, mMt, chk, isM, mApp, mExt, lenD_str, lenD_tup, lenD_lst, lenD_rol, intD, listD, tupD, mSrc, srcD, rng1, rng2, gTupD, gsCons, gsNil, mChain, thawG, thaw, snapO, MO.below, List.getElem?_cons_succ, List.getElem?_cons_zero, List.length_cons, List.length_nil, List.set_cons_succ, List.set_cons_zero, Int.natAbs_natCast, mTupRev, mCatO, mListO, gItm, minI, maxI, absI, app_take, app_take0, app_get, app_get0, app_set, app_set0, List.take_length, finO_nx, finO_rt, finO_er, finT, finE, hS2], a, b, c, d, M, j5.bind (thaw (S ++ [.lst (wl a b c d), .lst M]) (S.length + 2)), j6.bind (thaw (S ++ [.lst (wl a b c d), .lst M]) (S.length + 2)), j7.bind (thaw (S ++ [.lst (wl a b c d), .lst M]) (S.length + 2)), j8.bind (thaw (S ++ [.lst (wl a b c d), .lst M]) (S.length + 2)), j9.bind (thaw (S ++ [.lst (wl a b c d), .lst M]) (S.length + 2)), p1, p2, p3, by simp (decide := true) [wp_seq, wp_some, kQ_nx, kQ_rt, kQ_bk, kQ_ct, kQ_er, kL_nx, kL_ct, kL_bk, kL_rt, kL_er, sAsg, sE, sRet, sRetN, sDrop, sIf, sNext, sBreak, sCont, sRaise, sRaiseF, sPar, sAug, gSet, mVar, Mm.bind, Mm.ret, bin, op2, rd, orD, addD, addI, subI, i2, modI, divI, powI, s2, addS_small, addS_tup, addS_lst, addS_int, catL, catT, mulD, repS, repL, eqD, neD, okD, okDs, eqd, eqds, flatD, eqD, sTry, sHand, noEr, sTryAs, unAs, mFld, mIsE, mRepK, kRepK, cmpI, ltI, leI, gtI, geI, isNone, notNone, isN, asB, asT, truD, mNot, mAnd, mOr, vAnd, vOr, vNot, mIf, mNeg, mTup, mTupZ, frz, mLst, mOwn, mCons, mNil, datas, atD_tup, atD_lst, atD_rol, atD_str, seqOf, mNoPart, asI, mSl, slD_tup, slD_lst, slD_rol, slD_str, mIsI, isT, mCB, rds, mCall, mCall0, mMt, chk, isM, mApp, mExt, lenD_str, lenD_tup, lenD_lst, lenD_rol, intD, listD, tupD, mSrc, srcD, rng1, rng2, gTupD, gsCons, gsNil, mChain, thawG, thaw, snapO, MO.below, List.getElem?_cons_succ, List.getElem?_cons_zero, List.length_cons, List.length_nil, List.set_cons_succ, List.set_cons_zero, Int.natAbs_natCast, mTupRev, mCatO, mListO, gItm, minI, maxI, absI, app_take, app_take0, app_get, app_get0, app_set, app_set0, List.take_length, finO_nx, finO_rt, finO_er, finT, finE, DL.lineN_pos], by simp (decide := true) [wp_seq, wp_some, kQ_nx, kQ_rt, kQ_bk, kQ_ct, kQ_er, kL_nx, kL_ct, kL_bk, kL_rt, kL_er, sAsg, sE, sRet, sRetN, sDrop, sIf, sNext, sBreak, sCont, sRaise, sRaiseF, sPar, sAug, gSet, mVar, Mm.bind, Mm.ret, bin, op2, rd, orD, addD, addI, subI, i2, modI, divI, powI, s2, addS_small, addS_tup, addS_lst, addS_int, catL, catT, mulD, repS, repL, eqD, neD, okD, okDs, eqd, eqds, flatD, eqD, sTry, sHand, noEr, sTryAs, unAs, mFld, mIsE, mRepK, kRepK, cmpI, ltI, leI, gtI, geI, isNone, notNone, isN, asB, asT, truD, mNot, mAnd, mOr, vAnd, vOr, vNot, mIf, mNeg, mTup, mTupZ, frz, mLst, mOwn, mCons, mNil, datas, atD_tup, atD_lst, atD_rol, atD_str, seqOf, mNoPart, asI, mSl, slD_tup, slD_lst, slD_rol, slD_str, mIsI, isT, mCB, rds, mCall, mCall0, mMt, chk, isM, mApp, mExt, lenD_str, lenD_tup, lenD_lst, lenD_rol, intD, listD, tupD, mSrc, srcD, rng1, rng2, gTupD, gsCons, gsNil, mChain, thawG, thaw, snapO, MO.below, List.getElem?_cons_succ, List.getElem?_cons_zero, List.length_cons, List.length_nil, List.set_cons_succ, List.set_cons_zero, Int.natAbs_natCast, mTupRev, mCatO, mListO, gItm, minI, maxI, absI, app_take, app_take0, app_get, app_get0, app_set, app_set0, List.take_length, finO_nx, finO_rt, finO_er, finT, finE, DL.lineN_pos]⟩
      rcases hmod with hm4 | hm4 | hm4 | hm4
      · simp (decide := true) [wp_seq, wp_some, kQ_nx, kQ_rt, kQ_bk, kQ_ct, kQ_er, kL_nx, kL_ct, kL_bk, kL_rt, kL_er, sAsg, sE, sRet, sRetN, sDrop, sIf, sNext, sBreak, sCont, sRaise, sRaiseF, sPar, sAug, gSet, mVar, Mm.bind, Mm.ret, bin, op2, rd, orD, addD, addI, subI, i2, modI, divI, powI, s2, addS_small, addS_tup, addS_lst, addS_int, catL, catT, mulD, repS, repL, eqD, neD, okD, okDs, eqd, eqds, flatD, eqD, sTry, sHand, noEr, sTryAs, unAs, mFld, mIsE, mRepK, kRepK, cmpI, ltI, leI, gtI, geI, isNone, notNone, isN, asB, asT, truD, mNot, mAnd, mOr, vAnd, vOr, vNot, mIf, mNeg, mTup, mTupZ, frz, mLst, mOwn, mCons, mNil, datas, atD_tup, atD_lst, atD_rol, atD_str, seqOf, mNoPart, asI, mSl, slD_tup, slD_lst, slD_rol, slD_str, mIsI, isT, mCB, rds, mCall, mCall0, mMt, chk, isM, mApp, mExt, lenD_str, lenD_tup, lenD_lst, lenD_rol, intD, listD, tupD, mSrc, srcD, rng1, rng2, gTupD, gsCons, gsNil, mChain, thawG, thaw, snapO, MO.below, List.getElem?_cons_succ, List.getElem?_cons_zero, List.length_cons, List.length_nil, List.set_cons_succ, List.set_cons_zero, Int.natAbs_natCast, mTupRev, mCatO, mListO, gItm, minI, maxI, absI, app_take, app_take0, app_get, app_get0, app_set, app_set0, List.take_length, finO_nx, finO_rt, finO_er, finT, finE, su__law_woven_1_0, hx1, e1, e2, h3, h4, h2, at3_0, k1, k4, k40, hx40, su__law_woven_1_1, hm4, at4_0, su__law_woven_1_2, hat, hl0, hl0', hll, su__law_woven_1_3, wl, la', lb', lc', ld', n0, n1, n2, n3, at4_0, at4_1, at4_2, at4_3]
        simp (decide := true) [wp_seq, wp_some, kQ_nx, kQ_rt, kQ_bk, kQ_ct, kQ_er, kL_nx, kL_ct, kL_bk, kL_rt, kL_er, sAsg, sE, sRet, sRetN, sDrop, sIf, sNext, sBreak, sCont, sRaise, sRaiseF, sPar, sAug, gSet, mVar, Mm.bind, Mm.ret, bin, op2, rd, orD, addD, addI, subI, i2, modI, divI, powI, s2, addS_small, addS_tup, addS_lst, addS_int, catL, catT, mulD, repS, repL, eqD, neD, okD, okDs, eqd, eqds, flatD, eqD, sTry, sHand, noEr, sTryAs, unAs, mFld, mIsE, mRepK, kRepK, cmpI, ltI, leI, gtI, geI, isNone, notNone, isN, asB, asT, truD, mNot, mAnd, mOr, vAnd, vOr, vNot, mIf, mNeg, mTup, mTupZ, frz, mLst, mOwn, mCons, mNil, datas, atD_tup, atD_lst, atD_rol, atD_str, seqOf, mNoPart, asI, mSl, slD_tup, slD_lst, slD_rol, slD_str, mIsI, isT, mCB, rds, mCall, mCall0, mMt, chk, isM, mApp, mExt, lenD_str, lenD_tup, lenD_lst, lenD_rol, intD, listD, tupD, mSrc, srcD, rng1, rng2, gTupD, gsCons, gsNil, mChain, thawG, thaw, snapO, MO.below, List.getElem?_cons_succ, List.getElem?_cons_zero, List.length_cons, List.length_nil, List.set_cons_succ, List.set_cons_zero, Int.natAbs_natCast, mTupRev, mCatO, mListO, gItm, minI, maxI, absI, app_take, app_take0, app_get, app_get0, app_set, app_set0, List.take_length, finO_nx, finO_rt, finO_er, finT, finE, su__law_woven_1_4, h3, h4, h2, la', lb', lc', ld', n0, n1, n2, n3, at4_0, at4_1, at4_2, at4_3]
        simp (decide := true) [wp_seq, wp_some, kQ_nx, kQ_rt, kQ_bk, kQ_ct, kQ_er, kL_nx, kL_ct, kL_bk, kL_rt, kL_er, sAsg, sE, sRet, sRetN, sDrop, sIf, sNext, sBreak, sCont, sRaise, sRaiseF, sPar, sAug, gSet, mVar, Mm.bind, Mm.ret, bin, op2, rd, orD, addD, addI, subI, i2, modI, divI, powI, s2, addS_small, addS_tup, addS_lst, addS_int, catL, catT, mulD, repS, repL, eqD, neD, okD, okDs, eqd, eqds, flatD, eqD, sTry, sHand, noEr, sTryAs, unAs, mFld, mIsE, mRepK, kRepK, cmpI, ltI, leI, gtI, geI, isNone, notNone, isN, asB, asT, truD, mNot, mAnd, mOr, vAnd, vOr, vNot, mIf, mNeg, mTup, mTupZ, frz, mLst, mOwn, mCons, mNil, datas, atD_tup, atD_lst, atD_rol, atD_str, seqOf, mNoPart, asI, mSl, slD_tup, slD_lst, slD_rol, slD_str, mIsI, isT, mCB, rds, mCall, mCall0, mMt, chk, isM, mApp, mExt, lenD_str, lenD_tup, lenD_lst, lenD_rol, intD, listD, tupD, mSrc, srcD, rng1, rng2, gTupD, gsCons, gsNil, mChain, thawG, thaw, snapO, MO.below, List.getElem?_cons_succ, List.getElem?_cons_zero, List.length_cons, List.length_nil, List.set_cons_succ, List.set_cons_zero, Int.natAbs_natCast, mTupRev, mCatO, mListO, gItm, minI, maxI, absI, app_take, app_take0, app_get, app_get0, app_set, app_set0, List.take_length, finO_nx, finO_rt, finO_er, finT, finE, su__law_woven_1_5, h3, h4, h2, hm4, at4_0, at4_1, at4_2, at4_3, hMl]
        exact done (a ++ [cc]) (b ++ [cc]) c d (M ++ [_]) _ _ _ _ _ ⟨okW_app wa (okW_one okc), okW_app wb (okW_one okc), wc, wd⟩ (by simp; omega) (by simp [hM])
      · simp (decide := true) [wp_seq, wp_some, kQ_nx, kQ_rt, kQ_bk, kQ_ct, kQ_er, kL_nx, kL_ct, kL_bk, kL_rt, kL_er, sAsg, sE, sRet, sRetN, sDrop, sIf, sNext, sBreak, sCont, sRaise, sRaiseF, sPar, sAug, gSet, mVar, Mm.bind, Mm.ret, bin, op2, rd, orD, addD, addI, subI, i2, modI, divI, powI, s2, addS_small, addS_tup, addS_lst, addS_int, catL, catT, mulD, repS, repL, eqD, neD, okD, okDs, eqd, eqds, flatD, eqD, sTry, sHand, noEr, sTryAs, unAs, mFld, mIsE, mRepK, kRepK, cmpI, ltI, leI, gtI, geI, isNone, notNone, isN, asB, asT, truD, mNot, mAnd, mOr, vAnd, vOr, vNot, mIf, mNeg, mTup, mTupZ, frz, mLst, mOwn, mCons, mNil, datas, atD_tup, atD_lst, atD_rol, atD_str, seqOf, mNoPart, asI, mSl, slD_tup, slD_lst, slD_rol, slD_str, mIsI, isT, mCB, rds, mCall, mCall0, mMt, chk, isM, mApp, mExt, lenD_str, lenD_tup, lenD_lst, lenD_rol, intD, listD, tupD, mSrc, srcD, rng1, rng2, gTupD, gsCons, gsNil, mChain, thawG, thaw, snapO, MO.below, List.getElem?_cons_succ, List.getElem?_cons_zero, List.length_cons, List.length_nil, List.set_cons_succ, List.set_cons_zero, Int.natAbs_natCast, mTupRev, mCatO, mListO, gItm, minI, maxI, absI, app_take, app_take0, app_get, app_get0, app_set, app_set0, List.take_length, finO_nx, finO_rt, finO_er, finT, finE, su__law_woven_1_0, hx1, e1, e2, h3, h4, h2, at3_0, k1, k4, k40, hx40, su__law_woven_1_1, hm4, at4_1, su__law_woven_1_2, hat, hl0, hl0', hll, su__law_woven_1_3, wl, la', lb', lc', ld', n0, n1, n2, n3, at4_0, at4_1, at4_2, at4_3]
        simp (decide := true) [wp_seq, wp_some, kQ_nx, kQ_rt, kQ_bk, kQ_ct, kQ_er, kL_nx, kL_ct, kL_bk, kL_rt, kL_er, sAsg, sE, sRet, sRetN, sDrop, sIf, sNext, sBreak, sCont, sRaise, sRaiseF, sPar, sAug, gSet, mVar, Mm.bind, Mm.ret, bin, op2, rd, orD, addD, addI, subI, i2, modI, divI, powI, s2, addS_small, addS_tup, addS_lst, addS_int, catL, catT, mulD, repS, repL, eqD, neD, okD, okDs, eqd, eqds, flatD, eqD, sTry, sHand, noEr, sTryAs, unAs, mFld, mIsE, mRepK, kRepK, cmpI, ltI, leI, gtI, geI, isNone, notNone, isN, asB, asT, truD, mNot, mAnd, mOr, vAnd, vOr, vNot, mIf, mNeg, mTup, mTupZ, frz, mLst, mOwn, mCons, mNil, datas, atD_tup, atD_lst, atD_rol, atD_str, seqOf, mNoPart, asI, mSl, slD_tup, slD_lst, slD_rol, slD_str, mIsI, isT, mCB, rds, mCall, mCall0, mMt, chk, isM, mApp, mExt, lenD_str, lenD_tup, lenD_lst, lenD_rol, intD, listD, tupD, mSrc, srcD, rng1, rng2, gTupD, gsCons, gsNil, mChain, thawG, thaw, snapO, MO.below, List.getElem?_cons_succ, List.getElem?_cons_zero, List.length_cons, List.length_nil, List.set_cons_succ, List.set_cons_zero, Int.natAbs_natCast, mTupRev, mCatO, mListO, gItm, minI, maxI, absI, app_take, app_take0, app_get, app_get0, app_set, app_set0, List.take_length, finO_nx, finO_rt, finO_er, finT, finE, su__law_woven_1_4, h3, h4, h2, la', lb', lc', ld', n0, n1, n2, n3, at4_0, at4_1, at4_2, at4_3]
        simp (decide := true) [wp_seq, wp_some, kQ_nx, kQ_rt, kQ_bk, kQ_ct, kQ_er, kL_nx, kL_ct, kL_bk, kL_rt, kL_er, sAsg, sE, sRet, sRetN, sDrop, sIf, sNext, sBreak, sCont, sRaise, sRaiseF, sPar, sAug, gSet, mVar, Mm.bind, Mm.ret, bin, op2, rd, orD, addD, addI, subI, i2, modI, divI, powI, s2, addS_small, addS_tup, addS_lst, addS_int, catL, catT, mulD, repS, repL, eqD, neD, okD, okDs, eqd, eqds, flatD, eqD, sTry, sHand, noEr, sTryAs, unAs, mFld, mIsE, mRepK, kRepK, cmpI, ltI, leI, gtI, geI, isNone, notNone, isN, asB, asT, truD, mNot, mAnd, mOr, vAnd, vOr, vNot, mIf, mNeg, mTup, mTupZ, frz, mLst, mOwn, mCons, mNil, datas, atD_tup, atD_lst, atD_rol, atD_str, seqOf, mNoPart, asI, mSl, slD_tup, slD_lst, slD_rol, slD_str, mIsI, isT, mCB, rds, mCall, mCall0, mMt, chk, isM, mApp, mExt, lenD_str, lenD_tup, lenD_lst, lenD_rol, intD, listD, tupD, mSrc, srcD, rng1, rng2, gTupD, gsCons, gsNil, mChain, thawG, thaw, snapO, MO.below, List.getElem?_cons_succ, List.getElem?_cons_zero, List.length_cons, List.length_nil, List.set_cons_succ, List.set_cons_zero, Int.natAbs_natCast, mTupRev, mCatO, mListO, gItm, minI, maxI, absI, app_take, app_take0, app_get, app_get0, app_set, app_set0, List.take_length, finO_nx, finO_rt, finO_er, finT, finE, su__law_woven_1_5, h3, h4, h2, hm4, at4_0, at4_1, at4_2, at4_3, hMl]
        exact done (a ++ [cc]) b (c ++ [cc]) d (M ++ [_]) _ _ _ _ _ ⟨okW_app wa (okW_one okc), wb, okW_app wc (okW_one okc), wd⟩ (by simp; omega) (by simp [hM])
      · simp (decide := true) [wp_seq, wp_some, kQ_nx, kQ_rt, kQ_bk, kQ_ct, kQ_er, kL_nx, kL_ct, kL_bk, kL_rt, kL_er, sAsg, sE, sRet, sRetN, sDrop, sIf, sNext, sBreak, sCont, sRaise, sRaiseF, sPar, sAug, gSet, mVar, Mm.bind, Mm.ret, bin, op2, rd, orD, addD, addI, subI, i2, modI, divI, powI, s2, addS_small, addS_tup, addS_lst, addS_int, catL, catT, mulD, repS, repL, eqD, neD, okD, okDs, eqd, eqds, flatD, eqD, sTry, sHand, noEr, sTryAs, unAs, mFld, mIsE, mRepK, kRepK, cmpI, ltI, leI, gtI, geI, isNone, notNone, isN, asB, asT, truD, mNot, mAnd, mOr, vAnd, vOr, vNot, mIf, mNeg, mTup, mTupZ, frz, mLst, mOwn, mCons, mNil, datas, atD_tup, atD_lst, atD_rol, atD_str, seqOf, mNoPart, asI, mSl, slD_tup, slD_lst, slD_rol, slD_str, mIsI, isT, mCB, rds, mCall, mCall0, mMt, chk, isM, mApp, mExt, lenD_str, lenD_tup, lenD_lst, lenD_rol, intD, listD, tupD, mSrc, srcD, rng1, rng2, gTupD, gsCons, gsNil, mChain, thawG, thaw, snapO, MO.below, List.getElem?_cons_succ, List.getElem?_cons_zero, List.length_cons, List.length_nil, List.set_cons_succ, List.set_cons_zero, Int.natAbs_natCast, mTupRev, mCatO, mListO, gItm, minI, maxI, absI, app_take, app_take0, app_get, app_get0, app_set, app_set0, List.take_length, finO_nx, finO_rt, finO_er, finT, finE, su__law_woven_1_0, hx1, e1, e2, h3, h4, h2, at3_0, k1, k4, k40, hx40, su__law_woven_1_1, hm4, at4_2, su__law_woven_1_2, hat, hl0, hl0', hll, su__law_woven_1_3, wl, la', lb', lc', ld', n0, n1, n2, n3, at4_0, at4_1, at4_2, at4_3]
        simp (decide := true) [wp_seq, wp_some, kQ_nx, kQ_rt, kQ_bk, kQ_ct, kQ_er, kL_nx, kL_ct, kL_bk, kL_rt, kL_er, sAsg, sE, sRet, sRetN, sDrop, sIf, sNext, sBreak, sCont, sRaise, sRaiseF, sPar, sAug, gSet, mVar, Mm.bind, Mm.ret, bin, op2, rd, orD, addD, addI, subI, i2, modI, divI, powI, s2, addS_small, addS_tup, addS_lst, addS_int, catL, catT, mulD, repS, repL, eqD, neD, okD, okDs, eqd, eqds, flatD, eqD, sTry, sHand, noEr, sTryAs, unAs, mFld, mIsE, mRepK, kRepK, cmpI, ltI, leI, gtI, geI, isNone, notNone, isN, asB, asT, truD, mNot, mAnd, mOr, vAnd, vOr, vNot, mIf, mNeg, mTup, mTupZ, frz, mLst, mOwn, mCons, mNil, datas, atD_tup, atD_lst, atD_rol, atD_str, seqOf, mNoPart, asI, mSl, slD_tup, slD_lst, slD_rol, slD_str, mIsI, isT, mCB, rds, mCall, mCall0, mMt, chk, isM, mApp, mExt, lenD_str, lenD_tup, lenD_lst, lenD_rol, intD, listD, tupD, mSrc, srcD, rng1, rng2, gTupD, gsCons, gsNil, mChain, thawG, thaw, snapO, MO.below, List.getElem?_cons_succ, List.getElem?_cons_zero, List.length_cons, List.length_nil, List.set_cons_succ, List.set_cons_zero, Int.natAbs_natCast, mTupRev, mCatO, mListO, gItm, minI, maxI, absI, app_take, app_take0, app_get, app_get0, app_set, app_set0, List.take_length, finO_nx, finO_rt, finO_er, finT, finE, su__law_woven_1_4, h3, h4, h2, la', lb', lc', ld', n0, n1, n2, n3, at4_0, at4_1, at4_2, at4_3]
        simp (decide := true) [wp_seq, wp_some, kQ_nx, kQ_rt, kQ_bk, kQ_ct, kQ_er, kL_nx, kL_ct, kL_bk, kL_rt, kL_er, sAsg, sE, sRet, sRetN, sDrop, sIf, sNext, sBreak, sCont, sRaise, sRaiseF, sPar, sAug, gSet, mVar, Mm.bind, Mm.ret, bin, op2, rd, orD, addD, addI, subI, i2, modI, divI, powI, s2, addS_small, addS_tup, addS_lst, addS_int, catL, catT, mulD, repS, repL, eqD, neD, okD, okDs, eqd, eqds, flatD, eqD, sTry, sHand, noEr, sTryAs, unAs, mFld, mIsE, mRepK, kRepK, cmpI, ltI, leI, gtI, geI, isNone, notNone, isN, asB, asT, truD, mNot, mAnd, mOr, vAnd, vOr, vNot, mIf, mNeg, mTup, mTupZ, frz, mLst, mOwn, mCons, mNil, datas, atD_tup, atD_lst, atD_rol, atD_str, seqOf, mNoPart, asI, mSl, slD_tup, slD_lst, slD_rol, slD_str, mIsI, isT, mCB, rds, mCall, mCall0, mMt, chk, isM, mApp, mExt, lenD_str, lenD_tup, lenD_lst, lenD_rol, intD, listD, tupD, mSrc, srcD, rng1, rng2, gTupD, gsCons, gsNil, mChain, thawG, thaw, snapO, MO.below, List.getElem?_cons_succ, List.getElem?_cons_zero, List.length_cons, List.length_nil, List.set_cons_succ, List.set_cons_zero, Int.natAbs_natCast, mTupRev, mCatO, mListO, gItm, minI, maxI, absI, app_take, app_take0, app_get, app_get0, app_set, app_set0, List.take_length, finO_nx, finO_rt, finO_er, finT, finE, su__law_woven_1_5, h3, h4, h2, hm4, at4_0, at4_1, at4_2, at4_3, hMl]
        exact done a (b ++ [cc]) c (d ++ [cc]) (M ++ [_]) _ _ _ _ _ ⟨wa, okW_app wb (okW_one okc), wc, okW_app wd (okW_one okc)⟩ (by simp; omega) (by simp [hM])
      · simp (decide := true) [wp_seq, wp_some, kQ_nx, kQ_rt, kQ_bk, kQ_ct, kQ_er, kL_nx, kL_ct, kL_bk, kL_rt, kL_er, sAsg, sE, sRet, sRetN, sDrop, sIf, sNext, sBreak, sCont, sRaise, sRaiseF, sPar, sAug, gSet, mVar, Mm.bind, Mm.ret, bin, op2, rd, orD, addD, addI, subI, i2, modI, divI, powI, s2, addS_small, addS_tup, addS_lst, addS_int, catL, catT, mulD, repS, repL, eqD, neD, okD, okDs, eqd, eqds, flatD, eqD, sTry, sHand, noEr, sTryAs, unAs, mFld, mIsE, mRepK, kRepK, cmpI, ltI, leI, gtI, geI, isNone, notNone, isN, asB, asT, truD, mNot, mAnd, mOr, vAnd, vOr, vNot, mIf, mNeg, mTup, mTupZ, frz, mLst, mOwn, mCons, mNil, datas, atD_tup, atD_lst, atD_rol, atD_str, seqOf, mNoPart, asI, mSl, slD_tup, slD_lst, slD_rol, slD_str, mIsI, isT, mCB, rds, mCall, mCall0, mMt, chk, isM, mApp, mExt, lenD_str, lenD_tup, lenD_lst, lenD_rol, intD, listD, tupD, mSrc, srcD, rng1, rng2, gTupD, gsCons, gsNil, mChain, thawG, thaw, snapO, MO.below, List.getElem?_cons_succ, List.getElem?_cons_zero, List.length_cons, List.length_nil, List.set_cons_succ, List.set_cons_zero, Int.natAbs_natCast, mTupRev, mCatO, mListO, gItm, minI, maxI, absI, app_take, app_take0, app_get, app_get0, app_set, app_set0, List.take_length, finO_nx, finO_rt, finO_er, finT, finE, su__law_woven_1_0, hx1, e1, e2, h3, h4, h2, at3_0, k1, k4, k40, hx40, su__law_woven_1_1, hm4, at4_3, su__law_woven_1_2, hat, hl0, hl0', hll, su__law_woven_1_3, wl, la', lb', lc', ld', n0, n1, n2, n3, at4_0, at4_1, at4_2, at4_3]
        simp (decide := true) [wp_seq, wp_some, kQ_nx, kQ_rt, kQ_bk, kQ_ct, kQ_er, kL_nx, kL_ct, kL_bk, kL_rt, kL_er, sAsg, sE, sRet, sRetN, sDrop, sIf, sNext, sBreak, sCont, sRaise, sRaiseF, sPar, sAug, gSet, mVar, Mm.bind, Mm.ret, bin, op2, rd, orD, addD, addI, subI, i2, modI, divI, powI, s2, addS_small, addS_tup, addS_lst, addS_int, catL, catT, mulD, repS, repL, eqD, neD, okD, okDs, eqd, eqds, flatD, eqD, sTry, sHand, noEr, sTryAs, unAs, mFld, mIsE, mRepK, kRepK, cmpI, ltI, leI, gtI, geI, isNone, notNone, isN, asB, asT, truD, mNot, mAnd, mOr, vAnd, vOr, vNot, mIf, mNeg, mTup, mTupZ, frz, mLst, mOwn, mCons, mNil, datas, atD_tup, atD_lst, atD_rol, atD_str, seqOf, mNoPart, asI, mSl, slD_tup, slD_lst, slD_rol, slD_str, mIsI, isT, mCB, rds, mCall, mCall0, mMt, chk, isM, mApp, mExt, lenD_str, lenD_tup, lenD_lst, lenD_rol, intD, listD, tupD, mSrc, srcD, rng1, rng2, gTupD, gsCons, gsNil, mChain, thawG, thaw, snapO, MO.below, List.getElem?_cons_succ, List.getElem?_cons_zero, List.length_cons, List.length_nil, List.set_cons_succ, List.set_cons_zero, Int.natAbs_natCast, mTupRev, mCatO, mListO, gItm, minI, maxI, absI, app_take, app_take0, app_get, app_get0, app_set, app_set0, List.take_length, finO_nx, finO_rt, finO_er, finT, finE, su__law_woven_1_4, h3, h4, h2, la', lb', lc', ld', n0, n1, n2, n3, at4_0, at4_1, at4_2, at4_3]
        simp (decide := true) [wp_seq, wp_some, kQ_nx, kQ_rt, kQ_bk, kQ_ct, kQ_er, kL_nx, kL_ct, kL_bk, kL_rt, kL_er, sAsg, sE, sRet, sRetN, sDrop, sIf, sNext, sBreak, sCont, sRaise, sRaiseF, sPar, sAug, gSet, mVar, Mm.bind, Mm.ret, bin, op2, rd, orD, addD, addI, subI, i2, modI, divI, powI, s2, addS_small, addS_tup, addS_lst, addS_int, catL, catT, mulD, repS, repL, eqD, neD, okD, okDs, eqd, eqds, flatD, eqD, sTry, sHand, noEr, sTryAs, unAs, mFld, mIsE, mRepK, kRepK, cmpI, ltI, leI, gtI, geI, isNone, notNone, isN, asB, asT, truD, mNot, mAnd, mOr, vAnd, vOr, vNot, mIf, mNeg, mTup, mTupZ, frz, mLst, mOwn, mCons, mNil, datas, atD_tup, atD_lst, atD_rol, atD_str, seqOf, mNoPart, asI, mSl, slD_tup, slD_lst, slD_rol, slD_str, mIsI, isT, mCB, rds, mCall, mCall0, mMt, chk, isM, mApp, mExt, lenD_str, lenD_tup, lenD_lst, lenD_rol, intD, listD, tupD, mSrc, srcD, rng1, rng2, gTupD, gsCons, gsNil, mChain, thawG, thaw, snapO, MO.below, List.getElem?_cons_succ, List.getElem?_cons_zero, List.length_cons, List.length_nil, List.set_cons_succ, List.set_cons_zero, Int.natAbs_natCast, mTupRev, mCatO, mListO, gItm, minI, maxI, absI, app_take, app_take0, app_get, app_get0, app_set, app_set0, List.take_length, finO_nx, finO_rt, finO_er, finT, finE, su__law_woven_1_5, h3, h4, h2, hm4, at4_0, at4_1, at4_2, at4_3, hMl]
        exact done a b (c ++ [cc]) (d ++ [cc]) (M ++ [_]) _ _ _ _ _ ⟨wa, wb, okW_app wc (okW_one okc), okW_app wd (okW_one okc)⟩ (by simp; omega) (by simp [hM])
    · rintro G S' ⟨a, b, c, d, M, j5, j6, j7, j8, j9, hw, ⟨la, lb, lc, ld⟩, hM, rfl, rfl⟩
      rw [rngD_len] at la lb lc
      simp (decide := true) [wp_seq, wp_some, kQ_nx, kQ_rt, kQ_bk, kQ_ct, kQ_er, kL_nx, kL_ct, kL_bk, kL_rt, kL_er, sAsg, sE, sRet, sRetN, sDrop, sIf, sNext, sBreak, sCont, sRaise, sRaiseF, sPar, sAug, gSet, mVar, Mm.bind, Mm.ret, bin, op2, rd, orD, addD, addI, subI, i2, modI, divI, powI, s2, addS_small, addS_tup, addS_lst, addS_int, catL, catT, mulD, repS, repL, eqD, neD, okD, okDs, eqd, eqds, flatD, eqD, sTry, sHand, noEr, sTryAs, unAs, mFld, mIsE, mRepK, kRepK, cmpI, ltI, leI, gtI, geI, isNone, notNone, isN, asB, asT, truD, mNot, mAnd, mOr, vAnd, vOr, vNot, mIf, mNeg, mTup, mTupZ, frz, mLst, mOwn, mCons, mNil, datas, atD_tup, atD_lst, atD_rol, atD_str, seqOf, mNoPart, asI, mSl, slD_tup, slD_lst, slD_rol, slD_str, mIsI, isT, mCB, rds, mCall, mCall0, mMt, chk, isM, mApp, mExt, lenD_str, lenD_tup, lenD_lst, lenD_rol, intD, listD, tupD, mSrc, srcD, rng1, rng2, gTupD, gsCons, gsNil, mChain, thawG, thaw, snapO, MO.below, List.getElem?_cons_succ, List.getElem?_cons_zero, List.length_cons, List.length_nil, List.set_cons_succ, List.set_cons_zero, Int.natAbs_natCast, mTupRev, mCatO, mListO, gItm, minI, maxI, absI, app_take, app_take0, app_get, app_get0, app_set, app_set0, List.take_length, finO_nx, finO_rt, finO_er, finT, finE, su__law_woven_0_3, h2]
      subst hQ
      exact ⟨_, by simp (decide := true) [wp_seq, wp_some, kQ_nx, kQ_rt, kQ_bk, kQ_ct, kQ_er, kL_nx, kL_ct, kL_bk, kL_rt, kL_er, sAsg, sE, sRet, sRetN, sDrop, sIf, sNext, sBreak, sCont, sRaise, sRaiseF, sPar, sAug, gSet, mVar, Mm.bind, Mm.ret, bin, op2, rd, orD, addD, addI, subI, i2, modI, divI, powI, s2, addS_small, addS_tup, addS_lst, addS_int, catL, catT, mulD, repS, repL, eqD, neD, okD, okDs, eqd, eqds, flatD, eqD, sTry, sHand, noEr, sTryAs, unAs, mFld, mIsE, mRepK, kRepK, cmpI, ltI, leI, gtI, geI, isNone, notNone, isN, asB, asT, truD, mNot, mAnd, mOr, vAnd, vOr, vNot, mIf, mNeg, mTup, mTupZ, frz, mLst, mOwn, mCons, mNil, datas, atD_tup, atD_lst, atD_rol, atD_str, seqOf, mNoPart, asI, mSl, slD_tup, slD_lst, slD_rol, slD_str, mIsI, isT, mCB, rds, mCall, mCall0, mMt, chk, isM, mApp, mExt, lenD_str, lenD_tup, lenD_lst, lenD_rol, intD, listD, tupD, mSrc, srcD, rng1, rng2, gTupD, gsCons, gsNil, mChain, thawG, thaw, snapO, MO.below, List.getElem?_cons_succ, List.getElem?_cons_zero, List.length_cons, List.length_nil, List.set_cons_succ, List.set_cons_zero, Int.natAbs_natCast, mTupRev, mCatO, mListO, gItm, minI, maxI, absI, app_take, app_take0, app_get, app_get0, app_set, app_set0, List.take_length, finO_nx, finO_rt, finO_er, finT, finE, hS0] <;> rfl, a, b, c, d, M, rfl, hw, by omega, by omega, by omega⟩
  obtain ⟨r, e, a, b, c, d, M, rfl, h⟩ := key
  exact ⟨a, b, c, d, M, e, h⟩
end
end G

namespace G
open PySem DL
/-- words of at most nine letters -/
structure T9 (t : Tri) : Prop where
  x : okW t.x
  y : okW t.y
  z : okW t.z
  lx : t.x.length ≤ 9
  ly : t.y.length ≤ 9
  lz : t.z.length ≤ 9
theorem T9.ok {t : Tri} (h : T9 t) : t.ok := ⟨h.x, h.y, h.z, by have := h.lx; omega, by have := h.ly; omega, by have := h.lz; omega⟩
theorem T9.at {t : Tri} (h : T9 t) (p : Nat) : okW (t.at p) ∧ (t.at p).length ≤ 9 := by
  match p with
  | 0 => exact ⟨h.x, h.lx⟩
  | 1 => exact ⟨h.y, h.ly⟩
  | n + 2 => exact ⟨h.z, h.lz⟩
theorem T9.put {t : Tri} (h : T9 t) {w : List Nat} (hw : okW w) (hl : w.length ≤ 9) (p : Nat) : T9 (t.put w p) := by
  match p with
  | 0 => exact ⟨hw, h.y, h.z, hl, h.ly, h.lz⟩
  | 1 => exact ⟨h.x, hw, h.z, h.lx, hl, h.lz⟩
  | n + 2 => exact ⟨h.x, h.y, hw, h.lx, h.ly, hl⟩
theorem at_xyz {p : Nat} (h : p < 3) : L2.atI [120, 121, 122] (p : Int) = some (120 + p) := by
  rcases (by omega : p = 0 ∨ p = 1 ∨ p = 2) with rfl | rfl | rfl <;> rfl
theorem nth_mod {n : Int} {w : Nat} (hn : 0 ≤ n) (hw : 0 < w) : ∃ a : Nat, n % (w : Int) = a ∧ a < w := ⟨(n % (w : Int)).toNat, by have := Int.emod_nonneg n (show (w : Int) ≠ 0 by omega); omega, by have := Int.emod_lt_of_pos n (show (0 : Int) < w by omega); have := Int.emod_nonneg n (show (w : Int) ≠ 0 by omega); omega⟩
theorem ab_ne {l : List Nat} (c : Nat) : (l ++ [97, 98]).filter (fun x => !decide (x = c)) ≠ [] := by
  intro z
  rw [List.filter_eq_nil_iff] at z
  have h1 : (97 : Nat) = c := by simpa using z 97 (by simp)
  have h2 : (98 : Nat) = c := by simpa using z 98 (by simp)
  omega
def onef (p : Nat → Bool) (d : D) : Option D := match d with
  | .str [c] => if p c = true then some d else none
  | _ => none
theorem fm_onef {p : Nat → Bool} : ∀ l : List Nat, (l.map one).filterMap (onef p) = (l.filter p).map one
  | [] => rfl
  | c :: l => by
    have ih := fm_onef (p := p) l
    cases h : p c with
    | true => simp [List.filterMap_cons, onef, one, h] ; simpa [one] using ih
    | false => simp [List.filterMap_cons, onef, one, h] ; simpa [one] using ih
section
variable {S : Sto} (hS : Cl S)
include hS
theorem edit_lc {l w : List Nat} {a : Nat} (hl : l.length ≤ 3) (hlw : okW l) (hw : okW w) (hwl : w.length ≤ 9) (ha : a < w.length) {G0 G1 G3 G4 G6 G8 G9 G10 : Option SV} :
    lc__law_edit_0 [G0, G1, some (.v (.str l)), G3, G4, some (.v (.str w)), G6, some (.v (.int a)), G8, G9, G10] S = some (.ok (.v (.lst (((l ++ [97, 98]).filter fun x => !decide (x = w[a]?.getD 0)).map one))) S) := by
  have hS0 := hS _ (Nat.le_refl _)
  have hS1 := hS (S.length + 1) (by omega)
  unfold lc__law_edit_0
  have q : l.length + 2 ≤ lineN := by rw [lineN_eq]; omega
  have qw : w.length ≤ lineN := by rw [lineN_eq]; omega
  have hat := at_getD ha
  have hwa : vcB [w[a]?.getD 0] = true := okW_vc (okW_one (getD_okC hw ha))
  rw [mLc_eq (ds := (l ++ [97, 98]).map one) (S1 := S) (onef fun x => !decide (x = w[a]?.getD 0)) (by simp (decide := true) [wp_seq, wp_some, kQ_nx, kQ_rt, kQ_bk, kQ_ct, kQ_er, kL_nx, kL_ct, kL_bk, kL_rt, kL_er, sAsg, sE, sRet, sRetN, sDrop, sIf, sNext, sBreak, sCont, sRaise, sRaiseF, sPar, sAug, gSet, mVar, Mm.bind, Mm.ret, bin, op2, rd, orD, addD, addI, subI, i2, modI, divI, powI, s2, addS_small, addS_tup, addS_lst, addS_int, catL, catT, mulD, repS, repL, eqD, neD, okD, okDs, eqd, eqds, flatD, eqD, sTry, sHand, noEr, sTryAs, unAs, mFld, mIsE, mRepK, kRepK, cmpI, ltI, leI, gtI, geI, isNone, notNone, isN, asB, asT, truD, mNot, mAnd, mOr, vAnd, vOr, vNot, mIf, mNeg, mTup, mTupZ, frz, mLst, mOwn, mCons, mNil, datas, atD_tup, atD_lst, atD_rol, atD_str, seqOf, mNoPart, asI, mSl, slD_tup, slD_lst, slD_rol, slD_str, mIsI, isT, mCB, rds, mCall, mCall0, mMt, chk, isM, mApp, mExt, lenD_str, lenD_tup, lenD_lst, lenD_rol, intD, listD, tupD, mSrc, srcD, rng1, rng2, gTupD, gsCons, gsNil, mChain, thawG, thaw, snapO, MO.below, List.getElem?_cons_succ, List.getElem?_cons_zero, List.length_cons, List.length_nil, List.set_cons_succ, List.set_cons_zero, Int.natAbs_natCast, mTupRev, mCatO, mListO, gItm, minI, maxI, absI, app_take, app_take0, app_get, app_get0, app_set, app_set0, List.take_length, finO_nx, finO_rt, finO_er, finT, finE, hS0, q, one, signs]) hS0 hS1 (by rw [lineN_eq]; simp; omega), fm_onef]
  intro d hd acc
  obtain ⟨c, hc, rfl⟩ := List.mem_map.mp hd
  have hcv : vcB [c] = true := by
    rcases List.mem_append.mp hc with h | h
    · exact okW_vc (okW_one (hlw c h))
    · exact vcB_of fun x hx => by simp at hx h; omega
  refine ⟨_, rfl, ?_⟩
  by_cases h : c = w[a]?.getD 0
  · left
    refine ⟨by simp [onef, one, h], ?_⟩
    simp (decide := true) [wp_seq, wp_some, kQ_nx, kQ_rt, kQ_bk, kQ_ct, kQ_er, kL_nx, kL_ct, kL_bk, kL_rt, kL_er, sAsg, sE, sRet, sRetN, sDrop, sIf, sNext, sBreak, sCont, sRaise, sRaiseF, sPar, sAug, gSet, mVar, Mm.bind, Mm.ret, bin, op2, rd, orD, addD, addI, subI, i2, modI, divI, powI, s2, addS_small, addS_tup, addS_lst, addS_int, catL, catT, mulD, repS, repL, eqD, neD, okD, okDs, eqd, eqds, flatD, eqD, sTry, sHand, noEr, sTryAs, unAs, mFld, mIsE, mRepK, kRepK, cmpI, ltI, leI, gtI, geI, isNone, notNone, isN, asB, asT, truD, mNot, mAnd, mOr, vAnd, vOr, vNot, mIf, mNeg, mTup, mTupZ, frz, mLst, mOwn, mCons, mNil, datas, atD_tup, atD_lst, atD_rol, atD_str, seqOf, mNoPart, asI, mSl, slD_tup, slD_lst, slD_rol, slD_str, mIsI, isT, mCB, rds, mCall, mCall0, mMt, chk, isM, mApp, mExt, lenD_str, lenD_tup, lenD_lst, lenD_rol, intD, listD, tupD, mSrc, srcD, rng1, rng2, gTupD, gsCons, gsNil, mChain, thawG, thaw, snapO, MO.below, List.getElem?_cons_succ, List.getElem?_cons_zero, List.length_cons, List.length_nil, List.set_cons_succ, List.set_cons_zero, Int.natAbs_natCast, mTupRev, mCatO, mListO, gItm, minI, maxI, absI, app_take, app_take0, app_get, app_get0, app_set, app_set0, List.take_length, finO_nx, finO_rt, finO_er, finT, finE, wipeG, one, qw, hat, hwa, hcv, h]
  · right
    refine ⟨one c, ?_, ?_, ?_⟩
    · simp [onef, one, h]
    · simp (decide := true) [wp_seq, wp_some, kQ_nx, kQ_rt, kQ_bk, kQ_ct, kQ_er, kL_nx, kL_ct, kL_bk, kL_rt, kL_er, sAsg, sE, sRet, sRetN, sDrop, sIf, sNext, sBreak, sCont, sRaise, sRaiseF, sPar, sAug, gSet, mVar, Mm.bind, Mm.ret, bin, op2, rd, orD, addD, addI, subI, i2, modI, divI, powI, s2, addS_small, addS_tup, addS_lst, addS_int, catL, catT, mulD, repS, repL, eqD, neD, okD, okDs, eqd, eqds, flatD, eqD, sTry, sHand, noEr, sTryAs, unAs, mFld, mIsE, mRepK, kRepK, cmpI, ltI, leI, gtI, geI, isNone, notNone, isN, asB, asT, truD, mNot, mAnd, mOr, vAnd, vOr, vNot, mIf, mNeg, mTup, mTupZ, frz, mLst, mOwn, mCons, mNil, datas, atD_tup, atD_lst, atD_rol, atD_str, seqOf, mNoPart, asI, mSl, slD_tup, slD_lst, slD_rol, slD_str, mIsI, isT, mCB, rds, mCall, mCall0, mMt, chk, isM, mApp, mExt, lenD_str, lenD_tup, lenD_lst, lenD_rol, intD, listD, tupD, mSrc, srcD, rng1, rng2, gTupD, gsCons, gsNil, mChain, thawG, thaw, snapO, MO.below, List.getElem?_cons_succ, List.getElem?_cons_zero, List.length_cons, List.length_nil, List.set_cons_succ, List.set_cons_zero, Int.natAbs_natCast, mTupRev, mCatO, mListO, gItm, minI, maxI, absI, app_take, app_take0, app_get, app_get0, app_set, app_set0, List.take_length, finO_nx, finO_rt, finO_er, finT, finE, wipeG, one, qw, hat, hwa, hcv, h]
    · simp (decide := true) [wp_seq, wp_some, kQ_nx, kQ_rt, kQ_bk, kQ_ct, kQ_er, kL_nx, kL_ct, kL_bk, kL_rt, kL_er, sAsg, sE, sRet, sRetN, sDrop, sIf, sNext, sBreak, sCont, sRaise, sRaiseF, sPar, sAug, gSet, mVar, Mm.bind, Mm.ret, bin, op2, rd, orD, addD, addI, subI, i2, modI, divI, powI, s2, addS_small, addS_tup, addS_lst, addS_int, catL, catT, mulD, repS, repL, eqD, neD, okD, okDs, eqd, eqds, flatD, eqD, sTry, sHand, noEr, sTryAs, unAs, mFld, mIsE, mRepK, kRepK, cmpI, ltI, leI, gtI, geI, isNone, notNone, isN, asB, asT, truD, mNot, mAnd, mOr, vAnd, vOr, vNot, mIf, mNeg, mTup, mTupZ, frz, mLst, mOwn, mCons, mNil, datas, atD_tup, atD_lst, atD_rol, atD_str, seqOf, mNoPart, asI, mSl, slD_tup, slD_lst, slD_rol, slD_str, mIsI, isT, mCB, rds, mCall, mCall0, mMt, chk, isM, mApp, mExt, lenD_str, lenD_tup, lenD_lst, lenD_rol, intD, listD, tupD, mSrc, srcD, rng1, rng2, gTupD, gsCons, gsNil, mChain, thawG, thaw, snapO, MO.below, List.getElem?_cons_succ, List.getElem?_cons_zero, List.length_cons, List.length_nil, List.set_cons_succ, List.set_cons_zero, Int.natAbs_natCast, mTupRev, mCatO, mListO, gItm, minI, maxI, absI, app_take, app_take0, app_get, app_get0, app_set, app_set0, List.take_length, finO_nx, finO_rt, finO_er, finT, finE, wipeG, one]
theorem edit_ok {t : Tri} (ht : T9 t) {n : Int} (hn : 0 ≤ n) {l : List Nat} (hl : 2 ≤ l.length) (hl3 : l.length ≤ 3) (hlw : okW l) : ∃ e : Ed, den__law_edit [.v t.d, .v (.int n), .v (.str l)] S = some (.ok (.v e.d) S) ∧ e.ok t ∧ T9 (e.go t) := by
  have hS0 := hS _ (Nat.le_refl _)
  have key : wp (den__law_edit [.v t.d, .v (.int n), .v (.str l)] S) fun r => ∃ e : Ed, r = .ok (.v e.d) S ∧ e.ok t ∧ T9 (e.go t) := by
    refine fnD_wp rfl ?_
    generalize hQ : (fun o => wp (finO S.length o) _) = Q
    have done : ∀ e : Ed, e.ok t → T9 (e.go t) → Q (.rt (.v e.d) S) := fun e h1 h2 => by
      subst hQ
      exact ⟨_, by simp (decide := true) [wp_seq, wp_some, kQ_nx, kQ_rt, kQ_bk, kQ_ct, kQ_er, kL_nx, kL_ct, kL_bk, kL_rt, kL_er, sAsg, sE, sRet, sRetN, sDrop, sIf, sNext, sBreak, sCont, sRaise, sRaiseF, sPar, sAug, gSet, mVar, Mm.bind, Mm.ret, bin, op2, rd, orD, addD, addI, subI, i2, modI, divI, powI, s2, addS_small, addS_tup, addS_lst, addS_int, catL, catT, mulD, repS, repL, eqD, neD, okD, okDs, eqd, eqds, flatD, eqD, sTry, sHand, noEr, sTryAs, unAs, mFld, mIsE, mRepK, kRepK, cmpI, ltI, leI, gtI, geI, isNone, notNone, isN, asB, asT, truD, mNot, mAnd, mOr, vAnd, vOr, vNot, mIf, mNeg, mTup, mTupZ, frz, mLst, mOwn, mCons, mNil, datas, atD_tup, atD_lst, atD_rol, atD_str, seqOf, mNoPart, asI, mSl, slD_tup, slD_lst, slD_rol, slD_str, mIsI, isT, mCB, rds, mCall, mCall0, mMt, chk, isM, mApp, mExt, lenD_str, lenD_tup, lenD_lst, lenD_rol, intD, listD, tupD, mSrc, srcD, rng1, rng2, gTupD, gsCons, gsNil, mChain, thawG, thaw, snapO, MO.below, List.getElem?_cons_succ, List.getElem?_cons_zero, List.length_cons, List.length_nil, List.set_cons_succ, List.set_cons_zero, Int.natAbs_natCast, mTupRev, mCatO, mListO, gItm, minI, maxI, absI, app_take, app_take0, app_get, app_get0, app_set, app_set0, List.take_length, finO_nx, finO_rt, finO_er, finT, finE, hS0] <;> rfl, e, rfl, h1, h2⟩
    obtain ⟨p, hp, hp3⟩ := nth_mod hn (w := 3) (by decide)
    have hp' : n % 3 = (p : Int) := hp
    obtain ⟨hw, hwl⟩ := ht.at p
    have hwv := okW_vc hw
    obtain ⟨c, hc, hat⟩ := at_str (l := l) (i := n / 512 % (l.length : Nat)) (Int.emod_nonneg _ (by omega)) (Int.emod_lt_of_pos _ (by omega))
    have okc := hlw c hc
    obtain ⟨a, ha, hal⟩ := nth_mod (n := n / 4096) (w := (t.at p).length + 1) (by omega) (by omega)
    have ha' : n / 4096 % (((t.at p).length : Int) + 1) = a := by
      rw [← ha]
      simp
    have hl0 : (0 : Int) < l.length := by omega
    have hl0' : 0 < l.length := by omega
    have hll : l.length ≤ lineN := by rw [lineN_eq]; omega
    have hwll : (t.at p).length ≤ lineN := by rw [lineN_eq]; omega
    have hw1 : (0 : Int) < ((t.at p).length : Int) + 1 := by omega
    have k3 : Nat.log2 3 < 9000 := by decide +kernel
    have k512 : Nat.log2 512 < 9000 := by decide +kernel
    have k4096 : Nat.log2 4096 < 9000 := by decide +kernel
    have h3 : 3 ≤ lineN := by decide
    have h4 : 4 ≤ lineN := by decide
    simp (decide := true) [wp_seq, wp_some, kQ_nx, kQ_rt, kQ_bk, kQ_ct, kQ_er, kL_nx, kL_ct, kL_bk, kL_rt, kL_er, sAsg, sE, sRet, sRetN, sDrop, sIf, sNext, sBreak, sCont, sRaise, sRaiseF, sPar, sAug, gSet, mVar, Mm.bind, Mm.ret, bin, op2, rd, orD, addD, addI, subI, i2, modI, divI, powI, s2, addS_small, addS_tup, addS_lst, addS_int, catL, catT, mulD, repS, repL, eqD, neD, okD, okDs, eqd, eqds, flatD, eqD, sTry, sHand, noEr, sTryAs, unAs, mFld, mIsE, mRepK, kRepK, cmpI, ltI, leI, gtI, geI, isNone, notNone, isN, asB, asT, truD, mNot, mAnd, mOr, vAnd, vOr, vNot, mIf, mNeg, mTup, mTupZ, frz, mLst, mOwn, mCons, mNil, datas, atD_tup, atD_lst, atD_rol, atD_str, seqOf, mNoPart, asI, mSl, slD_tup, slD_lst, slD_rol, slD_str, mIsI, isT, mCB, rds, mCall, mCall0, mMt, chk, isM, mApp, mExt, lenD_str, lenD_tup, lenD_lst, lenD_rol, intD, listD, tupD, mSrc, srcD, rng1, rng2, gTupD, gsCons, gsNil, mChain, thawG, thaw, snapO, MO.below, List.getElem?_cons_succ, List.getElem?_cons_zero, List.length_cons, List.length_nil, List.set_cons_succ, List.set_cons_zero, Int.natAbs_natCast, mTupRev, mCatO, mListO, gItm, minI, maxI, absI, app_take, app_take0, app_get, app_get0, app_set, app_set0, List.take_length, finO_nx, finO_rt, finO_er, finT, finE, su__law_edit_0_0, hp', su__law_edit_0_1, at_xyz hp3, h3, su__law_edit_0_2, at_tri hp3, su__law_edit_0_3, hll, hl0, hl0', k512, hat]
    simp (decide := true) [wp_seq, wp_some, kQ_nx, kQ_rt, kQ_bk, kQ_ct, kQ_er, kL_nx, kL_ct, kL_bk, kL_rt, kL_er, sAsg, sE, sRet, sRetN, sDrop, sIf, sNext, sBreak, sCont, sRaise, sRaiseF, sPar, sAug, gSet, mVar, Mm.bind, Mm.ret, bin, op2, rd, orD, addD, addI, subI, i2, modI, divI, powI, s2, addS_small, addS_tup, addS_lst, addS_int, catL, catT, mulD, repS, repL, eqD, neD, okD, okDs, eqd, eqds, flatD, eqD, sTry, sHand, noEr, sTryAs, unAs, mFld, mIsE, mRepK, kRepK, cmpI, ltI, leI, gtI, geI, isNone, notNone, isN, asB, asT, truD, mNot, mAnd, mOr, vAnd, vOr, vNot, mIf, mNeg, mTup, mTupZ, frz, mLst, mOwn, mCons, mNil, datas, atD_tup, atD_lst, atD_rol, atD_str, seqOf, mNoPart, asI, mSl, slD_tup, slD_lst, slD_rol, slD_str, mIsI, isT, mCB, rds, mCall, mCall0, mMt, chk, isM, mApp, mExt, lenD_str, lenD_tup, lenD_lst, lenD_rol, intD, listD, tupD, mSrc, srcD, rng1, rng2, gTupD, gsCons, gsNil, mChain, thawG, thaw, snapO, MO.below, List.getElem?_cons_succ, List.getElem?_cons_zero, List.length_cons, List.length_nil, List.set_cons_succ, List.set_cons_zero, Int.natAbs_natCast, mTupRev, mCatO, mListO, gItm, minI, maxI, absI, app_take, app_take0, app_get, app_get0, app_set, app_set0, List.take_length, finO_nx, finO_rt, finO_er, finT, finE, su__law_edit_0_4, hwll, hw1, k4096, ha', su__law_edit_0_5, k3]
    generalize hway : n / 3 % 4 = way
    have put : (t.at p).length < 8 → Q (.rt (.v (Ed.put p a c).d) S) := fun h => done _ ⟨hp3, by omega, okc⟩ (ht.put (okW_app (okW_app (okW_take hw a) (okW_one okc)) (okW_drop hw a)) (by
      show ((t.at p).take a ++ [c] ++ (t.at p).drop a).length ≤ 9
      rw [ins_len _ _ _ (by omega)]; omega) p)
    have cut : ∀ b : Nat, b < (t.at p).length → Q (.rt (.v (Ed.cut p b).d) S) := fun b h => done _ ⟨hp3, h⟩ (ht.put (okW_app (okW_take hw b) (okW_drop hw (b + 1))) (by
      show ((t.at p).take b ++ (t.at p).drop (b + 1)).length ≤ 9
      rw [del_len _ _ h]; omega) p)
    have turn : ∀ b cc : Nat, b < (t.at p).length → okC cc → Q (.rt (.v (Ed.turn p b cc).d) S) := fun b cc h hcc => done _ ⟨hp3, h, hcc⟩ (ht.put (okW_app (okW_app (okW_take hw b) (okW_one hcc)) (okW_drop hw (b + 1))) (by
      show ((t.at p).take b ++ [cc] ++ (t.at p).drop (b + 1)).length ≤ 9
      rw [rep_len _ _ _ h]; omega) p)
    have k8 : wp (su__law_edit_0_8 [some (.v t.d), some (.v (.int n)), some (.v (.str l)), some (.v (.int p)), some (.v (.str [120 + p])), some (.v (.str (t.at p))), some (.v (.str [c])), some (.v (.int a)), some (.v (.int way)), none, none] S) Q := by
      by_cases c8 : (t.at p).length < 8
      · have c8' : ((t.at p).length : Int) < 8 := by omega
        simp (decide := true) [wp_seq, wp_some, kQ_nx, kQ_rt, kQ_bk, kQ_ct, kQ_er, kL_nx, kL_ct, kL_bk, kL_rt, kL_er, sAsg, sE, sRet, sRetN, sDrop, sIf, sNext, sBreak, sCont, sRaise, sRaiseF, sPar, sAug, gSet, mVar, Mm.bind, Mm.ret, bin, op2, rd, orD, addD, addI, subI, i2, modI, divI, powI, s2, addS_small, addS_tup, addS_lst, addS_int, catL, catT, mulD, repS, repL, eqD, neD, okD, okDs, eqd, eqds, flatD, eqD, sTry, sHand, noEr, sTryAs, unAs, mFld, mIsE, mRepK, kRepK, cmpI, ltI, leI, gtI, geI, isNone, notNone, isN, asB, asT, truD, mNot, mAnd, mOr, vAnd, vOr, vNot, mIf, mNeg, mTup, mTupZ, frz, mLst, mOwn, mCons, mNil, datas, atD_tup, atD_lst, atD_rol, atD_str, seqOf, mNoPart, asI, mSl, slD_tup, slD_lst, slD_rol, slD_str, mIsI, isT, mCB, rds, mCall, mCall0, mMt, chk, isM, mApp, mExt, lenD_str, lenD_tup, lenD_lst, lenD_rol, intD, listD, tupD, mSrc, srcD, rng1, rng2, gTupD, gsCons, gsNil, mChain, thawG, thaw, snapO, MO.below, List.getElem?_cons_succ, List.getElem?_cons_zero, List.length_cons, List.length_nil, List.set_cons_succ, List.set_cons_zero, Int.natAbs_natCast, mTupRev, mCatO, mListO, gItm, minI, maxI, absI, app_take, app_take0, app_get, app_get0, app_set, app_set0, List.take_length, finO_nx, finO_rt, finO_er, finT, finE, su__law_edit_0_8, hwll, c8, c8', su__law_edit_3_0, h4]
        exact put c8
      · have c8' : ¬ ((t.at p).length : Int) < 8 := by omega
        obtain ⟨b, hb, hbl⟩ := nth_mod (n := (a : Int)) (w := (t.at p).length) (by omega) (by omega)
        have hl1 : (0 : Int) < ((t.at p).length : Int) := by omega
        have hl2 : 0 < (t.at p).length := by omega
        simp (decide := true) [wp_seq, wp_some, kQ_nx, kQ_rt, kQ_bk, kQ_ct, kQ_er, kL_nx, kL_ct, kL_bk, kL_rt, kL_er, sAsg, sE, sRet, sRetN, sDrop, sIf, sNext, sBreak, sCont, sRaise, sRaiseF, sPar, sAug, gSet, mVar, Mm.bind, Mm.ret, bin, op2, rd, orD, addD, addI, subI, i2, modI, divI, powI, s2, addS_small, addS_tup, addS_lst, addS_int, catL, catT, mulD, repS, repL, eqD, neD, okD, okDs, eqd, eqds, flatD, eqD, sTry, sHand, noEr, sTryAs, unAs, mFld, mIsE, mRepK, kRepK, cmpI, ltI, leI, gtI, geI, isNone, notNone, isN, asB, asT, truD, mNot, mAnd, mOr, vAnd, vOr, vNot, mIf, mNeg, mTup, mTupZ, frz, mLst, mOwn, mCons, mNil, datas, atD_tup, atD_lst, atD_rol, atD_str, seqOf, mNoPart, asI, mSl, slD_tup, slD_lst, slD_rol, slD_str, mIsI, isT, mCB, rds, mCall, mCall0, mMt, chk, isM, mApp, mExt, lenD_str, lenD_tup, lenD_lst, lenD_rol, intD, listD, tupD, mSrc, srcD, rng1, rng2, gTupD, gsCons, gsNil, mChain, thawG, thaw, snapO, MO.below, List.getElem?_cons_succ, List.getElem?_cons_zero, List.length_cons, List.length_nil, List.set_cons_succ, List.set_cons_zero, Int.natAbs_natCast, mTupRev, mCatO, mListO, gItm, minI, maxI, absI, app_take, app_take0, app_get, app_get0, app_set, app_set0, List.take_length, finO_nx, finO_rt, finO_er, finT, finE, su__law_edit_0_8, hwll, c8, c8', su__law_edit_0_9, hl1, hl2, hb, h3]
        exact cut b hbl
    by_cases hemp : t.at p = []
    · have v0 : vcB [] = true := rfl
      rw [hemp] at k8 ⊢
      by_cases c0 : way = 0
      · simp (decide := true) [wp_seq, wp_some, kQ_nx, kQ_rt, kQ_bk, kQ_ct, kQ_er, kL_nx, kL_ct, kL_bk, kL_rt, kL_er, sAsg, sE, sRet, sRetN, sDrop, sIf, sNext, sBreak, sCont, sRaise, sRaiseF, sPar, sAug, gSet, mVar, Mm.bind, Mm.ret, bin, op2, rd, orD, addD, addI, subI, i2, modI, divI, powI, s2, addS_small, addS_tup, addS_lst, addS_int, catL, catT, mulD, repS, repL, eqD, neD, okD, okDs, eqd, eqds, flatD, eqD, sTry, sHand, noEr, sTryAs, unAs, mFld, mIsE, mRepK, kRepK, cmpI, ltI, leI, gtI, geI, isNone, notNone, isN, asB, asT, truD, mNot, mAnd, mOr, vAnd, vOr, vNot, mIf, mNeg, mTup, mTupZ, frz, mLst, mOwn, mCons, mNil, datas, atD_tup, atD_lst, atD_rol, atD_str, seqOf, mNoPart, asI, mSl, slD_tup, slD_lst, slD_rol, slD_str, mIsI, isT, mCB, rds, mCall, mCall0, mMt, chk, isM, mApp, mExt, lenD_str, lenD_tup, lenD_lst, lenD_rol, intD, listD, tupD, mSrc, srcD, rng1, rng2, gTupD, gsCons, gsNil, mChain, thawG, thaw, snapO, MO.below, List.getElem?_cons_succ, List.getElem?_cons_zero, List.length_cons, List.length_nil, List.set_cons_succ, List.set_cons_zero, Int.natAbs_natCast, mTupRev, mCatO, mListO, gItm, minI, maxI, absI, app_take, app_take0, app_get, app_get0, app_set, app_set0, List.take_length, finO_nx, finO_rt, finO_er, finT, finE, su__law_edit_0_6, c0, su__law_edit_0_7]
        rw [c0] at k8
        exact k8
      · by_cases c1 : way = 1
        · simp (decide := true) [wp_seq, wp_some, kQ_nx, kQ_rt, kQ_bk, kQ_ct, kQ_er, kL_nx, kL_ct, kL_bk, kL_rt, kL_er, sAsg, sE, sRet, sRetN, sDrop, sIf, sNext, sBreak, sCont, sRaise, sRaiseF, sPar, sAug, gSet, mVar, Mm.bind, Mm.ret, bin, op2, rd, orD, addD, addI, subI, i2, modI, divI, powI, s2, addS_small, addS_tup, addS_lst, addS_int, catL, catT, mulD, repS, repL, eqD, neD, okD, okDs, eqd, eqds, flatD, eqD, sTry, sHand, noEr, sTryAs, unAs, mFld, mIsE, mRepK, kRepK, cmpI, ltI, leI, gtI, geI, isNone, notNone, isN, asB, asT, truD, mNot, mAnd, mOr, vAnd, vOr, vNot, mIf, mNeg, mTup, mTupZ, frz, mLst, mOwn, mCons, mNil, datas, atD_tup, atD_lst, atD_rol, atD_str, seqOf, mNoPart, asI, mSl, slD_tup, slD_lst, slD_rol, slD_str, mIsI, isT, mCB, rds, mCall, mCall0, mMt, chk, isM, mApp, mExt, lenD_str, lenD_tup, lenD_lst, lenD_rol, intD, listD, tupD, mSrc, srcD, rng1, rng2, gTupD, gsCons, gsNil, mChain, thawG, thaw, snapO, MO.below, List.getElem?_cons_succ, List.getElem?_cons_zero, List.length_cons, List.length_nil, List.set_cons_succ, List.set_cons_zero, Int.natAbs_natCast, mTupRev, mCatO, mListO, gItm, minI, maxI, absI, app_take, app_take0, app_get, app_get0, app_set, app_set0, List.take_length, finO_nx, finO_rt, finO_er, finT, finE, su__law_edit_0_6, c1, su__law_edit_0_7]
          rw [c1] at k8
          exact k8
        · simp (decide := true) [wp_seq, wp_some, kQ_nx, kQ_rt, kQ_bk, kQ_ct, kQ_er, kL_nx, kL_ct, kL_bk, kL_rt, kL_er, sAsg, sE, sRet, sRetN, sDrop, sIf, sNext, sBreak, sCont, sRaise, sRaiseF, sPar, sAug, gSet, mVar, Mm.bind, Mm.ret, bin, op2, rd, orD, addD, addI, subI, i2, modI, divI, powI, s2, addS_small, addS_tup, addS_lst, addS_int, catL, catT, mulD, repS, repL, eqD, neD, okD, okDs, eqd, eqds, flatD, eqD, sTry, sHand, noEr, sTryAs, unAs, mFld, mIsE, mRepK, kRepK, cmpI, ltI, leI, gtI, geI, isNone, notNone, isN, asB, asT, truD, mNot, mAnd, mOr, vAnd, vOr, vNot, mIf, mNeg, mTup, mTupZ, frz, mLst, mOwn, mCons, mNil, datas, atD_tup, atD_lst, atD_rol, atD_str, seqOf, mNoPart, asI, mSl, slD_tup, slD_lst, slD_rol, slD_str, mIsI, isT, mCB, rds, mCall, mCall0, mMt, chk, isM, mApp, mExt, lenD_str, lenD_tup, lenD_lst, lenD_rol, intD, listD, tupD, mSrc, srcD, rng1, rng2, gTupD, gsCons, gsNil, mChain, thawG, thaw, snapO, MO.below, List.getElem?_cons_succ, List.getElem?_cons_zero, List.length_cons, List.length_nil, List.set_cons_succ, List.set_cons_zero, Int.natAbs_natCast, mTupRev, mCatO, mListO, gItm, minI, maxI, absI, app_take, app_take0, app_get, app_get0, app_set, app_set0, List.take_length, finO_nx, finO_rt, finO_er, finT, finE, su__law_edit_0_6, c0, c1, su__law_edit_0_7]
          exact k8
    · have hne : (t.at p == []) = false := by simpa using hemp
      have hlen : 0 < (t.at p).length := List.length_pos_iff.mpr hemp
      have hl1 : (0 : Int) < ((t.at p).length : Int) := by omega
      obtain ⟨b, hb, hbl⟩ := nth_mod (n := (a : Int)) (w := (t.at p).length) (by omega) hlen
      by_cases c0 : way = 0
      · simp (decide := true) [wp_seq, wp_some, kQ_nx, kQ_rt, kQ_bk, kQ_ct, kQ_er, kL_nx, kL_ct, kL_bk, kL_rt, kL_er, sAsg, sE, sRet, sRetN, sDrop, sIf, sNext, sBreak, sCont, sRaise, sRaiseF, sPar, sAug, gSet, mVar, Mm.bind, Mm.ret, bin, op2, rd, orD, addD, addI, subI, i2, modI, divI, powI, s2, addS_small, addS_tup, addS_lst, addS_int, catL, catT, mulD, repS, repL, eqD, neD, okD, okDs, eqd, eqds, flatD, eqD, sTry, sHand, noEr, sTryAs, unAs, mFld, mIsE, mRepK, kRepK, cmpI, ltI, leI, gtI, geI, isNone, notNone, isN, asB, asT, truD, mNot, mAnd, mOr, vAnd, vOr, vNot, mIf, mNeg, mTup, mTupZ, frz, mLst, mOwn, mCons, mNil, datas, atD_tup, atD_lst, atD_rol, atD_str, seqOf, mNoPart, asI, mSl, slD_tup, slD_lst, slD_rol, slD_str, mIsI, isT, mCB, rds, mCall, mCall0, mMt, chk, isM, mApp, mExt, lenD_str, lenD_tup, lenD_lst, lenD_rol, intD, listD, tupD, mSrc, srcD, rng1, rng2, gTupD, gsCons, gsNil, mChain, thawG, thaw, snapO, MO.below, List.getElem?_cons_succ, List.getElem?_cons_zero, List.length_cons, List.length_nil, List.set_cons_succ, List.set_cons_zero, Int.natAbs_natCast, mTupRev, mCatO, mListO, gItm, minI, maxI, absI, app_take, app_take0, app_get, app_get0, app_set, app_set0, List.take_length, finO_nx, finO_rt, finO_er, finT, finE, su__law_edit_0_6, c0, hwv, hne, hemp, su__law_edit_1_0, hwll, hl1, hlen, hb, h3]
        exact cut b hbl
      · by_cases c1 : way = 1
        · have hlc := fun G0 G1 G3 G4 G6 G8 G9 G10 => edit_lc hS (l := l) (w := t.at p) (a := b) hl3 hlw hw hwl hbl (G0 := G0) (G1 := G1) (G3 := G3) (G4 := G4) (G6 := G6) (G8 := G8) (G9 := G9) (G10 := G10)
          have hnf := ab_ne (l := l) ((t.at p)[b]?.getD 0)
          generalize hF : (l ++ [97, 98]).filter (fun x => !decide (x = (t.at p)[b]?.getD 0)) = F at *
          have hFl : 0 < F.length := List.length_pos_iff.mpr hnf
          have hFl' : (0 : Int) < (F.length : Int) := by omega
          obtain ⟨cc, hcc, hat2⟩ := at_ones (l := F) (i := n / 512 % (F.length : Nat)) (Int.emod_nonneg _ (by omega)) (Int.emod_lt_of_pos _ (by omega))
          have okcc : okC cc := by
            rw [← hF] at hcc
            rcases List.mem_append.mp (List.mem_filter.mp hcc).1 with h | h
            · exact hlw cc h
            · simp at h; unfold okC; omega
          simp (decide := true) [wp_seq, wp_some, kQ_nx, kQ_rt, kQ_bk, kQ_ct, kQ_er, kL_nx, kL_ct, kL_bk, kL_rt, kL_er, sAsg, sE, sRet, sRetN, sDrop, sIf, sNext, sBreak, sCont, sRaise, sRaiseF, sPar, sAug, gSet, mVar, Mm.bind, Mm.ret, bin, op2, rd, orD, addD, addI, subI, i2, modI, divI, powI, s2, addS_small, addS_tup, addS_lst, addS_int, catL, catT, mulD, repS, repL, eqD, neD, okD, okDs, eqd, eqds, flatD, eqD, sTry, sHand, noEr, sTryAs, unAs, mFld, mIsE, mRepK, kRepK, cmpI, ltI, leI, gtI, geI, isNone, notNone, isN, asB, asT, truD, mNot, mAnd, mOr, vAnd, vOr, vNot, mIf, mNeg, mTup, mTupZ, frz, mLst, mOwn, mCons, mNil, datas, atD_tup, atD_lst, atD_rol, atD_str, seqOf, mNoPart, asI, mSl, slD_tup, slD_lst, slD_rol, slD_str, mIsI, isT, mCB, rds, mCall, mCall0, mMt, chk, isM, mApp, mExt, lenD_str, lenD_tup, lenD_lst, lenD_rol, intD, listD, tupD, mSrc, srcD, rng1, rng2, gTupD, gsCons, gsNil, mChain, thawG, thaw, snapO, MO.below, List.getElem?_cons_succ, List.getElem?_cons_zero, List.length_cons, List.length_nil, List.set_cons_succ, List.set_cons_zero, Int.natAbs_natCast, mTupRev, mCatO, mListO, gItm, minI, maxI, absI, app_take, app_take0, app_get, app_get0, app_set, app_set0, List.take_length, finO_nx, finO_rt, finO_er, finT, finE, su__law_edit_0_6, c1, su__law_edit_0_7, hwv, hne, hemp, su__law_edit_2_0, hwll, hl1, hlen, hb, su__law_edit_2_1, hlc, su__law_edit_2_2, hFl, hFl', k512, hat2, h4]
          exact turn b cc hbl okcc
        · simp (decide := true) [wp_seq, wp_some, kQ_nx, kQ_rt, kQ_bk, kQ_ct, kQ_er, kL_nx, kL_ct, kL_bk, kL_rt, kL_er, sAsg, sE, sRet, sRetN, sDrop, sIf, sNext, sBreak, sCont, sRaise, sRaiseF, sPar, sAug, gSet, mVar, Mm.bind, Mm.ret, bin, op2, rd, orD, addD, addI, subI, i2, modI, divI, powI, s2, addS_small, addS_tup, addS_lst, addS_int, catL, catT, mulD, repS, repL, eqD, neD, okD, okDs, eqd, eqds, flatD, eqD, sTry, sHand, noEr, sTryAs, unAs, mFld, mIsE, mRepK, kRepK, cmpI, ltI, leI, gtI, geI, isNone, notNone, isN, asB, asT, truD, mNot, mAnd, mOr, vAnd, vOr, vNot, mIf, mNeg, mTup, mTupZ, frz, mLst, mOwn, mCons, mNil, datas, atD_tup, atD_lst, atD_rol, atD_str, seqOf, mNoPart, asI, mSl, slD_tup, slD_lst, slD_rol, slD_str, mIsI, isT, mCB, rds, mCall, mCall0, mMt, chk, isM, mApp, mExt, lenD_str, lenD_tup, lenD_lst, lenD_rol, intD, listD, tupD, mSrc, srcD, rng1, rng2, gTupD, gsCons, gsNil, mChain, thawG, thaw, snapO, MO.below, List.getElem?_cons_succ, List.getElem?_cons_zero, List.length_cons, List.length_nil, List.set_cons_succ, List.set_cons_zero, Int.natAbs_natCast, mTupRev, mCatO, mListO, gItm, minI, maxI, absI, app_take, app_take0, app_get, app_get0, app_set, app_set0, List.take_length, finO_nx, finO_rt, finO_er, finT, finE, su__law_edit_0_6, c0, c1, su__law_edit_0_7]
          exact k8
  obtain ⟨r, e, ed, rfl, h⟩ := key
  exact ⟨ed, e, h⟩
end
end G

namespace G
open PySem DL
section
variable {S : Sto} (hS : Cl S)
include hS
theorem letter_no {c : Nat} (h : ¬ okC c) : den_is_letter [.v (.str [c])] S = some (.ok (.v (.bl false)) S) := by
  have hS0 := hS _ (Nat.le_refl _)
  have hi : inD (.str [c]) c_LETTERS = some (.bl false) := by
    show some (D.bl (decide (c ∈ [97, 98, 99, 100, 101, 102, 103, 104, 105, 106, 107, 108, 109, 110, 111, 112, 113, 114, 115, 116, 117, 118, 119, 120, 121, 122]))) = _
    rw [decide_eq_false (fun z => h (ab_mem.mp z))]
  refine wp_eq (fnD_wp rfl ?_)
  simp (decide := true) [wp_seq, wp_some, kQ_nx, kQ_rt, kQ_bk, kQ_ct, kQ_er, kL_nx, kL_ct, kL_bk, kL_rt, kL_er, sAsg, sE, sRet, sRetN, sDrop, sIf, sNext, sBreak, sCont, sRaise, sRaiseF, sPar, sAug, gSet, mVar, Mm.bind, Mm.ret, bin, op2, rd, orD, addD, addI, subI, i2, modI, divI, powI, s2, addS_small, addS_tup, addS_lst, addS_int, catL, catT, mulD, repS, repL, eqD, neD, okD, okDs, eqd, eqds, flatD, eqD, sTry, sHand, noEr, sTryAs, unAs, mFld, mIsE, mRepK, kRepK, cmpI, ltI, leI, gtI, geI, isNone, notNone, isN, asB, asT, truD, mNot, mAnd, mOr, vAnd, vOr, vNot, mIf, mNeg, mTup, mTupZ, frz, mLst, mOwn, mCons, mNil, datas, atD_tup, atD_lst, atD_rol, atD_str, seqOf, mNoPart, asI, mSl, slD_tup, slD_lst, slD_rol, slD_str, mIsI, isT, mCB, rds, mCall, mCall0, mMt, chk, isM, mApp, mExt, lenD_str, lenD_tup, lenD_lst, lenD_rol, intD, listD, tupD, mSrc, srcD, rng1, rng2, gTupD, gsCons, gsNil, mChain, thawG, thaw, snapO, MO.below, List.getElem?_cons_succ, List.getElem?_cons_zero, List.length_cons, List.length_nil, List.set_cons_succ, List.set_cons_zero, Int.natAbs_natCast, mTupRev, mCatO, mListO, gItm, minI, maxI, absI, app_take, app_take0, app_get, app_get0, app_set, app_set0, List.take_length, finO_nx, finO_rt, finO_er, finT, finE, su_is_letter_0_0, hS0, hi, DL.lineN_one]
theorem letter_len {s : List Nat} (h : s.length ≠ 1) (hl : s.length ≤ 1000) : den_is_letter [.v (.str s)] S = some (.ok (.v (.bl false)) S) := by
  have hS0 := hS _ (Nat.le_refl _)
  have h1 : s.length ≤ lineN := by rw [lineN_eq]; omega
  have h2 : ¬ ((s.length : Int) = 1) := by omega
  refine wp_eq (fnD_wp rfl ?_)
  simp (decide := true) [wp_seq, wp_some, kQ_nx, kQ_rt, kQ_bk, kQ_ct, kQ_er, kL_nx, kL_ct, kL_bk, kL_rt, kL_er, sAsg, sE, sRet, sRetN, sDrop, sIf, sNext, sBreak, sCont, sRaise, sRaiseF, sPar, sAug, gSet, mVar, Mm.bind, Mm.ret, bin, op2, rd, orD, addD, addI, subI, i2, modI, divI, powI, s2, addS_small, addS_tup, addS_lst, addS_int, catL, catT, mulD, repS, repL, eqD, neD, okD, okDs, eqd, eqds, flatD, eqD, sTry, sHand, noEr, sTryAs, unAs, mFld, mIsE, mRepK, kRepK, cmpI, ltI, leI, gtI, geI, isNone, notNone, isN, asB, asT, truD, mNot, mAnd, mOr, vAnd, vOr, vNot, mIf, mNeg, mTup, mTupZ, frz, mLst, mOwn, mCons, mNil, datas, atD_tup, atD_lst, atD_rol, atD_str, seqOf, mNoPart, asI, mSl, slD_tup, slD_lst, slD_rol, slD_str, mIsI, isT, mCB, rds, mCall, mCall0, mMt, chk, isM, mApp, mExt, lenD_str, lenD_tup, lenD_lst, lenD_rol, intD, listD, tupD, mSrc, srcD, rng1, rng2, gTupD, gsCons, gsNil, mChain, thawG, thaw, snapO, MO.below, List.getElem?_cons_succ, List.getElem?_cons_zero, List.length_cons, List.length_nil, List.set_cons_succ, List.set_cons_zero, Int.natAbs_natCast, mTupRev, mCatO, mListO, gItm, minI, maxI, absI, app_take, app_take0, app_get, app_get0, app_set, app_set0, List.take_length, finO_nx, finO_rt, finO_er, finT, finE, su_is_letter_0_0, hS0, h1, h2]
theorem letter_ty {d : D} (h : isT .str d = false) : den_is_letter [.v d] S = some (.ok (.v (.bl false)) S) := by
  have hS0 := hS _ (Nat.le_refl _)
  refine wp_eq (fnD_wp rfl ?_)
  cases d <;> first | (simp (decide := true) [wp_seq, wp_some, kQ_nx, kQ_rt, kQ_bk, kQ_ct, kQ_er, kL_nx, kL_ct, kL_bk, kL_rt, kL_er, sAsg, sE, sRet, sRetN, sDrop, sIf, sNext, sBreak, sCont, sRaise, sRaiseF, sPar, sAug, gSet, mVar, Mm.bind, Mm.ret, bin, op2, rd, orD, addD, addI, subI, i2, modI, divI, powI, s2, addS_small, addS_tup, addS_lst, addS_int, catL, catT, mulD, repS, repL, eqD, neD, okD, okDs, eqd, eqds, flatD, eqD, sTry, sHand, noEr, sTryAs, unAs, mFld, mIsE, mRepK, kRepK, cmpI, ltI, leI, gtI, geI, isNone, notNone, isN, asB, asT, truD, mNot, mAnd, mOr, vAnd, vOr, vNot, mIf, mNeg, mTup, mTupZ, frz, mLst, mOwn, mCons, mNil, datas, atD_tup, atD_lst, atD_rol, atD_str, seqOf, mNoPart, asI, mSl, slD_tup, slD_lst, slD_rol, slD_str, mIsI, isT, mCB, rds, mCall, mCall0, mMt, chk, isM, mApp, mExt, lenD_str, lenD_tup, lenD_lst, lenD_rol, intD, listD, tupD, mSrc, srcD, rng1, rng2, gTupD, gsCons, gsNil, mChain, thawG, thaw, snapO, MO.below, List.getElem?_cons_succ, List.getElem?_cons_zero, List.length_cons, List.length_nil, List.set_cons_succ, List.set_cons_zero, Int.natAbs_natCast, mTupRev, mCatO, mListO, gItm, minI, maxI, absI, app_take, app_take0, app_get, app_get0, app_set, app_set0, List.take_length, finO_nx, finO_rt, finO_er, finT, finE, su_is_letter_0_0, hS0]; done) | (cases h; done)
theorem int_no {d : D} (h : isT .int d = false) : den_is_integer [.v d] S = some (.ok (.v (.bl false)) S) := by
  have hS0 := hS _ (Nat.le_refl _)
  refine wp_eq (fnD_wp rfl ?_)
  cases d <;> first | (simp (decide := true) [wp_seq, wp_some, kQ_nx, kQ_rt, kQ_bk, kQ_ct, kQ_er, kL_nx, kL_ct, kL_bk, kL_rt, kL_er, sAsg, sE, sRet, sRetN, sDrop, sIf, sNext, sBreak, sCont, sRaise, sRaiseF, sPar, sAug, gSet, mVar, Mm.bind, Mm.ret, bin, op2, rd, orD, addD, addI, subI, i2, modI, divI, powI, s2, addS_small, addS_tup, addS_lst, addS_int, catL, catT, mulD, repS, repL, eqD, neD, okD, okDs, eqd, eqds, flatD, eqD, sTry, sHand, noEr, sTryAs, unAs, mFld, mIsE, mRepK, kRepK, cmpI, ltI, leI, gtI, geI, isNone, notNone, isN, asB, asT, truD, mNot, mAnd, mOr, vAnd, vOr, vNot, mIf, mNeg, mTup, mTupZ, frz, mLst, mOwn, mCons, mNil, datas, atD_tup, atD_lst, atD_rol, atD_str, seqOf, mNoPart, asI, mSl, slD_tup, slD_lst, slD_rol, slD_str, mIsI, isT, mCB, rds, mCall, mCall0, mMt, chk, isM, mApp, mExt, lenD_str, lenD_tup, lenD_lst, lenD_rol, intD, listD, tupD, mSrc, srcD, rng1, rng2, gTupD, gsCons, gsNil, mChain, thawG, thaw, snapO, MO.below, List.getElem?_cons_succ, List.getElem?_cons_zero, List.length_cons, List.length_nil, List.set_cons_succ, List.set_cons_zero, Int.natAbs_natCast, mTupRev, mCatO, mListO, gItm, minI, maxI, absI, app_take, app_take0, app_get, app_get0, app_set, app_set0, List.take_length, finO_nx, finO_rt, finO_er, finT, finE, su_is_integer_0_0, hS0]; done) | (cases h; done)
theorem int_bl {b : Bool} : den_is_integer [.v (.bl b)] S = some (.ok (.v (.bl false)) S) := by
  have hS0 := hS _ (Nat.le_refl _)
  refine wp_eq (fnD_wp rfl ?_)
  simp (decide := true) [wp_seq, wp_some, kQ_nx, kQ_rt, kQ_bk, kQ_ct, kQ_er, kL_nx, kL_ct, kL_bk, kL_rt, kL_er, sAsg, sE, sRet, sRetN, sDrop, sIf, sNext, sBreak, sCont, sRaise, sRaiseF, sPar, sAug, gSet, mVar, Mm.bind, Mm.ret, bin, op2, rd, orD, addD, addI, subI, i2, modI, divI, powI, s2, addS_small, addS_tup, addS_lst, addS_int, catL, catT, mulD, repS, repL, eqD, neD, okD, okDs, eqd, eqds, flatD, eqD, sTry, sHand, noEr, sTryAs, unAs, mFld, mIsE, mRepK, kRepK, cmpI, ltI, leI, gtI, geI, isNone, notNone, isN, asB, asT, truD, mNot, mAnd, mOr, vAnd, vOr, vNot, mIf, mNeg, mTup, mTupZ, frz, mLst, mOwn, mCons, mNil, datas, atD_tup, atD_lst, atD_rol, atD_str, seqOf, mNoPart, asI, mSl, slD_tup, slD_lst, slD_rol, slD_str, mIsI, isT, mCB, rds, mCall, mCall0, mMt, chk, isM, mApp, mExt, lenD_str, lenD_tup, lenD_lst, lenD_rol, intD, listD, tupD, mSrc, srcD, rng1, rng2, gTupD, gsCons, gsNil, mChain, thawG, thaw, snapO, MO.below, List.getElem?_cons_succ, List.getElem?_cons_zero, List.length_cons, List.length_nil, List.set_cons_succ, List.set_cons_zero, Int.natAbs_natCast, mTupRev, mCatO, mListO, gItm, minI, maxI, absI, app_take, app_take0, app_get, app_get0, app_set, app_set0, List.take_length, finO_nx, finO_rt, finO_er, finT, finE, su_is_integer_0_0, hS0]
theorem within_ty {d : D} {a b : Int} (h : den_is_integer [.v d] S = some (.ok (.v (.bl false)) S)) : den_is_within [.v d, .v (.int a), .v (.int b)] S = some (.ok (.v (.bl false)) S) := by
  have hS0 := hS _ (Nat.le_refl _)
  refine wp_eq (fnD_wp rfl ?_)
  simp (decide := true) [wp_seq, wp_some, kQ_nx, kQ_rt, kQ_bk, kQ_ct, kQ_er, kL_nx, kL_ct, kL_bk, kL_rt, kL_er, sAsg, sE, sRet, sRetN, sDrop, sIf, sNext, sBreak, sCont, sRaise, sRaiseF, sPar, sAug, gSet, mVar, Mm.bind, Mm.ret, bin, op2, rd, orD, addD, addI, subI, i2, modI, divI, powI, s2, addS_small, addS_tup, addS_lst, addS_int, catL, catT, mulD, repS, repL, eqD, neD, okD, okDs, eqd, eqds, flatD, eqD, sTry, sHand, noEr, sTryAs, unAs, mFld, mIsE, mRepK, kRepK, cmpI, ltI, leI, gtI, geI, isNone, notNone, isN, asB, asT, truD, mNot, mAnd, mOr, vAnd, vOr, vNot, mIf, mNeg, mTup, mTupZ, frz, mLst, mOwn, mCons, mNil, datas, atD_tup, atD_lst, atD_rol, atD_str, seqOf, mNoPart, asI, mSl, slD_tup, slD_lst, slD_rol, slD_str, mIsI, isT, mCB, rds, mCall, mCall0, mMt, chk, isM, mApp, mExt, lenD_str, lenD_tup, lenD_lst, lenD_rol, intD, listD, tupD, mSrc, srcD, rng1, rng2, gTupD, gsCons, gsNil, mChain, thawG, thaw, snapO, MO.below, List.getElem?_cons_succ, List.getElem?_cons_zero, List.length_cons, List.length_nil, List.set_cons_succ, List.set_cons_zero, Int.natAbs_natCast, mTupRev, mCatO, mListO, gItm, minI, maxI, absI, app_take, app_take0, app_get, app_get0, app_set, app_set0, List.take_length, finO_nx, finO_rt, finO_er, finT, finE, su_is_within_0_0, hS0, h]
theorem within_lo {i a b : Int} (h1 : i < a) : den_is_within [.v (.int i), .v (.int a), .v (.int b)] S = some (.ok (.v (.bl false)) S) := by
  have hS0 := hS _ (Nat.le_refl _)
  have h3 : ¬ a ≤ i := by omega
  refine wp_eq (fnD_wp rfl ?_)
  simp (decide := true) [wp_seq, wp_some, kQ_nx, kQ_rt, kQ_bk, kQ_ct, kQ_er, kL_nx, kL_ct, kL_bk, kL_rt, kL_er, sAsg, sE, sRet, sRetN, sDrop, sIf, sNext, sBreak, sCont, sRaise, sRaiseF, sPar, sAug, gSet, mVar, Mm.bind, Mm.ret, bin, op2, rd, orD, addD, addI, subI, i2, modI, divI, powI, s2, addS_small, addS_tup, addS_lst, addS_int, catL, catT, mulD, repS, repL, eqD, neD, okD, okDs, eqd, eqds, flatD, eqD, sTry, sHand, noEr, sTryAs, unAs, mFld, mIsE, mRepK, kRepK, cmpI, ltI, leI, gtI, geI, isNone, notNone, isN, asB, asT, truD, mNot, mAnd, mOr, vAnd, vOr, vNot, mIf, mNeg, mTup, mTupZ, frz, mLst, mOwn, mCons, mNil, datas, atD_tup, atD_lst, atD_rol, atD_str, seqOf, mNoPart, asI, mSl, slD_tup, slD_lst, slD_rol, slD_str, mIsI, isT, mCB, rds, mCall, mCall0, mMt, chk, isM, mApp, mExt, lenD_str, lenD_tup, lenD_lst, lenD_rol, intD, listD, tupD, mSrc, srcD, rng1, rng2, gTupD, gsCons, gsNil, mChain, thawG, thaw, snapO, MO.below, List.getElem?_cons_succ, List.getElem?_cons_zero, List.length_cons, List.length_nil, List.set_cons_succ, List.set_cons_zero, Int.natAbs_natCast, mTupRev, mCatO, mListO, gItm, minI, maxI, absI, app_take, app_take0, app_get, app_get0, app_set, app_set0, List.take_length, finO_nx, finO_rt, finO_er, finT, finE, su_is_within_0_0, hS0, int_ok hS, h3]
theorem tuple_hi {ds : List D} {a b : Int} (h1 : b < ds.length) : den_is_tuple [.v (.tup ds), .v (.int a), .v (.int b)] S = some (.ok (.v (.bl false)) S) := by
  have hS0 := hS _ (Nat.le_refl _)
  have h3 : ¬ (ds.length : Int) ≤ b := by omega
  refine wp_eq (fnD_wp rfl ?_)
  by_cases h2 : a ≤ ds.length
  · simp (decide := true) [wp_seq, wp_some, kQ_nx, kQ_rt, kQ_bk, kQ_ct, kQ_er, kL_nx, kL_ct, kL_bk, kL_rt, kL_er, sAsg, sE, sRet, sRetN, sDrop, sIf, sNext, sBreak, sCont, sRaise, sRaiseF, sPar, sAug, gSet, mVar, Mm.bind, Mm.ret, bin, op2, rd, orD, addD, addI, subI, i2, modI, divI, powI, s2, addS_small, addS_tup, addS_lst, addS_int, catL, catT, mulD, repS, repL, eqD, neD, okD, okDs, eqd, eqds, flatD, eqD, sTry, sHand, noEr, sTryAs, unAs, mFld, mIsE, mRepK, kRepK, cmpI, ltI, leI, gtI, geI, isNone, notNone, isN, asB, asT, truD, mNot, mAnd, mOr, vAnd, vOr, vNot, mIf, mNeg, mTup, mTupZ, frz, mLst, mOwn, mCons, mNil, datas, atD_tup, atD_lst, atD_rol, atD_str, seqOf, mNoPart, asI, mSl, slD_tup, slD_lst, slD_rol, slD_str, mIsI, isT, mCB, rds, mCall, mCall0, mMt, chk, isM, mApp, mExt, lenD_str, lenD_tup, lenD_lst, lenD_rol, intD, listD, tupD, mSrc, srcD, rng1, rng2, gTupD, gsCons, gsNil, mChain, thawG, thaw, snapO, MO.below, List.getElem?_cons_succ, List.getElem?_cons_zero, List.length_cons, List.length_nil, List.set_cons_succ, List.set_cons_zero, Int.natAbs_natCast, mTupRev, mCatO, mListO, gItm, minI, maxI, absI, app_take, app_take0, app_get, app_get0, app_set, app_set0, List.take_length, finO_nx, finO_rt, finO_er, finT, finE, su_is_tuple_0_0, hS0, h2, h3]
  · simp (decide := true) [wp_seq, wp_some, kQ_nx, kQ_rt, kQ_bk, kQ_ct, kQ_er, kL_nx, kL_ct, kL_bk, kL_rt, kL_er, sAsg, sE, sRet, sRetN, sDrop, sIf, sNext, sBreak, sCont, sRaise, sRaiseF, sPar, sAug, gSet, mVar, Mm.bind, Mm.ret, bin, op2, rd, orD, addD, addI, subI, i2, modI, divI, powI, s2, addS_small, addS_tup, addS_lst, addS_int, catL, catT, mulD, repS, repL, eqD, neD, okD, okDs, eqd, eqds, flatD, eqD, sTry, sHand, noEr, sTryAs, unAs, mFld, mIsE, mRepK, kRepK, cmpI, ltI, leI, gtI, geI, isNone, notNone, isN, asB, asT, truD, mNot, mAnd, mOr, vAnd, vOr, vNot, mIf, mNeg, mTup, mTupZ, frz, mLst, mOwn, mCons, mNil, datas, atD_tup, atD_lst, atD_rol, atD_str, seqOf, mNoPart, asI, mSl, slD_tup, slD_lst, slD_rol, slD_str, mIsI, isT, mCB, rds, mCall, mCall0, mMt, chk, isM, mApp, mExt, lenD_str, lenD_tup, lenD_lst, lenD_rol, intD, listD, tupD, mSrc, srcD, rng1, rng2, gTupD, gsCons, gsNil, mChain, thawG, thaw, snapO, MO.below, List.getElem?_cons_succ, List.getElem?_cons_zero, List.length_cons, List.length_nil, List.set_cons_succ, List.set_cons_zero, Int.natAbs_natCast, mTupRev, mCatO, mListO, gItm, minI, maxI, absI, app_take, app_take0, app_get, app_get0, app_set, app_set0, List.take_length, finO_nx, finO_rt, finO_er, finT, finE, su_is_tuple_0_0, hS0, h2]
theorem raw_long {t : D} {ds : List D} (h : 4 < ds.length) : den_raw_is_edit [.v t, .v (.tup ds)] S = some (.ok (.v (.bl false)) S) := by
  have hS0 := hS _ (Nat.le_refl _)
  have t1 := tuple_hi hS (ds := ds) (a := 3) (b := 4) (by omega)
  refine wp_eq (fnD_wp rfl ?_)
  simp (decide := true) [wp_seq, wp_some, kQ_nx, kQ_rt, kQ_bk, kQ_ct, kQ_er, kL_nx, kL_ct, kL_bk, kL_rt, kL_er, sAsg, sE, sRet, sRetN, sDrop, sIf, sNext, sBreak, sCont, sRaise, sRaiseF, sPar, sAug, gSet, mVar, Mm.bind, Mm.ret, bin, op2, rd, orD, addD, addI, subI, i2, modI, divI, powI, s2, addS_small, addS_tup, addS_lst, addS_int, catL, catT, mulD, repS, repL, eqD, neD, okD, okDs, eqd, eqds, flatD, eqD, sTry, sHand, noEr, sTryAs, unAs, mFld, mIsE, mRepK, kRepK, cmpI, ltI, leI, gtI, geI, isNone, notNone, isN, asB, asT, truD, mNot, mAnd, mOr, vAnd, vOr, vNot, mIf, mNeg, mTup, mTupZ, frz, mLst, mOwn, mCons, mNil, datas, atD_tup, atD_lst, atD_rol, atD_str, seqOf, mNoPart, asI, mSl, slD_tup, slD_lst, slD_rol, slD_str, mIsI, isT, mCB, rds, mCall, mCall0, mMt, chk, isM, mApp, mExt, lenD_str, lenD_tup, lenD_lst, lenD_rol, intD, listD, tupD, mSrc, srcD, rng1, rng2, gTupD, gsCons, gsNil, mChain, thawG, thaw, snapO, MO.below, List.getElem?_cons_succ, List.getElem?_cons_zero, List.length_cons, List.length_nil, List.set_cons_succ, List.set_cons_zero, Int.natAbs_natCast, mTupRev, mCatO, mListO, gItm, minI, maxI, absI, app_take, app_take0, app_get, app_get0, app_set, app_set0, List.take_length, finO_nx, finO_rt, finO_er, finT, finE, su_raw_is_edit_0_0, t1, su_raw_is_edit_1_0, hS0]
/-- the first thing is no letter -/
theorem raw_first {t x : D} {ds : List D} (h1 : 3 ≤ ds.length) (h2 : ds.length ≤ 4) (h0 : L2.atI ds 0 = some x) (hx : den_is_letter [.v x] S = some (.ok (.v (.bl false)) S)) : den_raw_is_edit [.v t, .v (.tup ds)] S = some (.ok (.v (.bl false)) S) := by
  have hS0 := hS _ (Nat.le_refl _)
  have t1 := tuple_ok hS (ds := ds) (a := 3) (b := 4) (by omega) (by omega)
  refine wp_eq (fnD_wp rfl ?_)
  simp (decide := true) [wp_seq, wp_some, kQ_nx, kQ_rt, kQ_bk, kQ_ct, kQ_er, kL_nx, kL_ct, kL_bk, kL_rt, kL_er, sAsg, sE, sRet, sRetN, sDrop, sIf, sNext, sBreak, sCont, sRaise, sRaiseF, sPar, sAug, gSet, mVar, Mm.bind, Mm.ret, bin, op2, rd, orD, addD, addI, subI, i2, modI, divI, powI, s2, addS_small, addS_tup, addS_lst, addS_int, catL, catT, mulD, repS, repL, eqD, neD, okD, okDs, eqd, eqds, flatD, eqD, sTry, sHand, noEr, sTryAs, unAs, mFld, mIsE, mRepK, kRepK, cmpI, ltI, leI, gtI, geI, isNone, notNone, isN, asB, asT, truD, mNot, mAnd, mOr, vAnd, vOr, vNot, mIf, mNeg, mTup, mTupZ, frz, mLst, mOwn, mCons, mNil, datas, atD_tup, atD_lst, atD_rol, atD_str, seqOf, mNoPart, asI, mSl, slD_tup, slD_lst, slD_rol, slD_str, mIsI, isT, mCB, rds, mCall, mCall0, mMt, chk, isM, mApp, mExt, lenD_str, lenD_tup, lenD_lst, lenD_rol, intD, listD, tupD, mSrc, srcD, rng1, rng2, gTupD, gsCons, gsNil, mChain, thawG, thaw, snapO, MO.below, List.getElem?_cons_succ, List.getElem?_cons_zero, List.length_cons, List.length_nil, List.set_cons_succ, List.set_cons_zero, Int.natAbs_natCast, mTupRev, mCatO, mListO, gItm, minI, maxI, absI, app_take, app_take0, app_get, app_get0, app_set, app_set0, List.take_length, finO_nx, finO_rt, finO_er, finT, finE, su_raw_is_edit_0_0, t1, h0, hx, su_raw_is_edit_1_0, hS0]
/-- .. a letter that is no place -/
theorem raw_t {t : D} {ds : List D} (h1 : 3 ≤ ds.length) (h2 : ds.length ≤ 4) (h0 : L2.atI ds 0 = some (.str [116])) : den_raw_is_edit [.v t, .v (.tup ds)] S = some (.ok (.v (.bl false)) S) := by
  have hS0 := hS _ (Nat.le_refl _)
  have t1 := tuple_ok hS (ds := ds) (a := 3) (b := 4) (by omega) (by omega)
  have l1 := letter_ok hS (c := 116) (by unfold okC; omega)
  have n1 : niD (.str [116]) c_PLACES = some (.bl true) := rfl
  refine wp_eq (fnD_wp rfl ?_)
  simp (decide := true) [wp_seq, wp_some, kQ_nx, kQ_rt, kQ_bk, kQ_ct, kQ_er, kL_nx, kL_ct, kL_bk, kL_rt, kL_er, sAsg, sE, sRet, sRetN, sDrop, sIf, sNext, sBreak, sCont, sRaise, sRaiseF, sPar, sAug, gSet, mVar, Mm.bind, Mm.ret, bin, op2, rd, orD, addD, addI, subI, i2, modI, divI, powI, s2, addS_small, addS_tup, addS_lst, addS_int, catL, catT, mulD, repS, repL, eqD, neD, okD, okDs, eqd, eqds, flatD, eqD, sTry, sHand, noEr, sTryAs, unAs, mFld, mIsE, mRepK, kRepK, cmpI, ltI, leI, gtI, geI, isNone, notNone, isN, asB, asT, truD, mNot, mAnd, mOr, vAnd, vOr, vNot, mIf, mNeg, mTup, mTupZ, frz, mLst, mOwn, mCons, mNil, datas, atD_tup, atD_lst, atD_rol, atD_str, seqOf, mNoPart, asI, mSl, slD_tup, slD_lst, slD_rol, slD_str, mIsI, isT, mCB, rds, mCall, mCall0, mMt, chk, isM, mApp, mExt, lenD_str, lenD_tup, lenD_lst, lenD_rol, intD, listD, tupD, mSrc, srcD, rng1, rng2, gTupD, gsCons, gsNil, mChain, thawG, thaw, snapO, MO.below, List.getElem?_cons_succ, List.getElem?_cons_zero, List.length_cons, List.length_nil, List.set_cons_succ, List.set_cons_zero, Int.natAbs_natCast, mTupRev, mCatO, mListO, gItm, minI, maxI, absI, app_take, app_take0, app_get, app_get0, app_set, app_set0, List.take_length, finO_nx, finO_rt, finO_er, finT, finE, su_raw_is_edit_0_0, t1, h0, l1, n1, su_raw_is_edit_1_0, hS0]
theorem raw_tail {t : Tri} (ht : t.ok) {p : Nat} (hp : p < 3) {ds : List D} (h1 : 3 ≤ ds.length) (h2 : ds.length ≤ 4) (h0 : L2.atI ds 0 = some (.str (plc p)))
    (h : ∀ n : Int, n = (t.at p).length → wp (su_raw_is_edit_0_2 [some (.v t.d), some (.v (.tup ds)), some (.v (.int n))] S) fun o => wp (finO S.length o) (· = .ok (.v (.bl false)) S)) : den_raw_is_edit [.v t.d, .v (.tup ds)] S = some (.ok (.v (.bl false)) S) := by
  have hl := (ht.at p).2
  have hl2 : (t.at p).length ≤ lineN := by rw [lineN_eq]; omega
  have t1 := tuple_ok hS (ds := ds) (a := 3) (b := 4) (by omega) (by omega)
  have l1 := letter_ok hS (okC_plc hp)
  unfold plc at h0
  refine wp_eq (fnD_wp rfl ?_)
  have h' := h _ rfl
  generalize (fun o => wp (finO S.length o) (· = Rs.ok (SV.v (.bl false)) S)) = Q at *
  simp (decide := true) [wp_seq, wp_some, kQ_nx, kQ_rt, kQ_bk, kQ_ct, kQ_er, kL_nx, kL_ct, kL_bk, kL_rt, kL_er, sAsg, sE, sRet, sRetN, sDrop, sIf, sNext, sBreak, sCont, sRaise, sRaiseF, sPar, sAug, gSet, mVar, Mm.bind, Mm.ret, bin, op2, rd, orD, addD, addI, subI, i2, modI, divI, powI, s2, addS_small, addS_tup, addS_lst, addS_int, catL, catT, mulD, repS, repL, eqD, neD, okD, okDs, eqd, eqds, flatD, eqD, sTry, sHand, noEr, sTryAs, unAs, mFld, mIsE, mRepK, kRepK, cmpI, ltI, leI, gtI, geI, isNone, notNone, isN, asB, asT, truD, mNot, mAnd, mOr, vAnd, vOr, vNot, mIf, mNeg, mTup, mTupZ, frz, mLst, mOwn, mCons, mNil, datas, atD_tup, atD_lst, atD_rol, atD_str, seqOf, mNoPart, asI, mSl, slD_tup, slD_lst, slD_rol, slD_str, mIsI, isT, mCB, rds, mCall, mCall0, mMt, chk, isM, mApp, mExt, lenD_str, lenD_tup, lenD_lst, lenD_rol, intD, listD, tupD, mSrc, srcD, rng1, rng2, gTupD, gsCons, gsNil, mChain, thawG, thaw, snapO, MO.below, List.getElem?_cons_succ, List.getElem?_cons_zero, List.length_cons, List.length_nil, List.set_cons_succ, List.set_cons_zero, Int.natAbs_natCast, mTupRev, mCatO, mListO, gItm, minI, maxI, absI, app_take, app_take0, app_get, app_get0, app_set, app_set0, List.take_length, finO_nx, finO_rt, finO_er, finT, finE, su_raw_is_edit_0_0, t1, h0, l1, ni_plc hp]
  simp (decide := true) [wp_seq, wp_some, kQ_nx, kQ_rt, kQ_bk, kQ_ct, kQ_er, kL_nx, kL_ct, kL_bk, kL_rt, kL_er, sAsg, sE, sRet, sRetN, sDrop, sIf, sNext, sBreak, sCont, sRaise, sRaiseF, sPar, sAug, gSet, mVar, Mm.bind, Mm.ret, bin, op2, rd, orD, addD, addI, subI, i2, modI, divI, powI, s2, addS_small, addS_tup, addS_lst, addS_int, catL, catT, mulD, repS, repL, eqD, neD, okD, okDs, eqd, eqds, flatD, eqD, sTry, sHand, noEr, sTryAs, unAs, mFld, mIsE, mRepK, kRepK, cmpI, ltI, leI, gtI, geI, isNone, notNone, isN, asB, asT, truD, mNot, mAnd, mOr, vAnd, vOr, vNot, mIf, mNeg, mTup, mTupZ, frz, mLst, mOwn, mCons, mNil, datas, atD_tup, atD_lst, atD_rol, atD_str, seqOf, mNoPart, asI, mSl, slD_tup, slD_lst, slD_rol, slD_str, mIsI, isT, mCB, rds, mCall, mCall0, mMt, chk, isM, mApp, mExt, lenD_str, lenD_tup, lenD_lst, lenD_rol, intD, listD, tupD, mSrc, srcD, rng1, rng2, gTupD, gsCons, gsNil, mChain, thawG, thaw, snapO, MO.below, List.getElem?_cons_succ, List.getElem?_cons_zero, List.length_cons, List.length_nil, List.set_cons_succ, List.set_cons_zero, Int.natAbs_natCast, mTupRev, mCatO, mListO, gItm, minI, maxI, absI, app_take, app_take0, app_get, app_get0, app_set, app_set0, List.take_length, finO_nx, finO_rt, finO_er, finT, finE, su_raw_is_edit_0_1, h0, show c_PLACES = .str [120, 121, 122] from rfl, ix_xyz hp, at_tri hp, hl2]
  exact h'
end
end G

namespace G
open PySem DL
section
variable {S : Sto} (hS : Cl S) {t : Tri} (ht : t.ok) {p : Nat} (hp : p < 3)
include hS ht hp
/-- the second thing is no text -/
theorem c_noText {ds : List D} {x : D} (h1 : 3 ≤ ds.length) (h2 : ds.length ≤ 4) (h0 : L2.atI ds 0 = some (.str (plc p))) (hx : L2.atI ds 1 = some x) (hn : isT .str x = false) : den_raw_is_edit [.v t.d, .v (.tup ds)] S = some (.ok (.v (.bl false)) S) := by
  have hS0 := hS _ (Nat.le_refl _)
  refine raw_tail hS ht hp h1 h2 h0 fun n hn' => ?_
  cases x <;> first | (simp (decide := true) [wp_seq, wp_some, kQ_nx, kQ_rt, kQ_bk, kQ_ct, kQ_er, kL_nx, kL_ct, kL_bk, kL_rt, kL_er, sAsg, sE, sRet, sRetN, sDrop, sIf, sNext, sBreak, sCont, sRaise, sRaiseF, sPar, sAug, gSet, mVar, Mm.bind, Mm.ret, bin, op2, rd, orD, addD, addI, subI, i2, modI, divI, powI, s2, addS_small, addS_tup, addS_lst, addS_int, catL, catT, mulD, repS, repL, eqD, neD, okD, okDs, eqd, eqds, flatD, eqD, sTry, sHand, noEr, sTryAs, unAs, mFld, mIsE, mRepK, kRepK, cmpI, ltI, leI, gtI, geI, isNone, notNone, isN, asB, asT, truD, mNot, mAnd, mOr, vAnd, vOr, vNot, mIf, mNeg, mTup, mTupZ, frz, mLst, mOwn, mCons, mNil, datas, atD_tup, atD_lst, atD_rol, atD_str, seqOf, mNoPart, asI, mSl, slD_tup, slD_lst, slD_rol, slD_str, mIsI, isT, mCB, rds, mCall, mCall0, mMt, chk, isM, mApp, mExt, lenD_str, lenD_tup, lenD_lst, lenD_rol, intD, listD, tupD, mSrc, srcD, rng1, rng2, gTupD, gsCons, gsNil, mChain, thawG, thaw, snapO, MO.below, List.getElem?_cons_succ, List.getElem?_cons_zero, List.length_cons, List.length_nil, List.set_cons_succ, List.set_cons_zero, Int.natAbs_natCast, mTupRev, mCatO, mListO, gItm, minI, maxI, absI, app_take, app_take0, app_get, app_get0, app_set, app_set0, List.take_length, finO_nx, finO_rt, finO_er, finT, finE, su_raw_is_edit_0_2, hx, su_raw_is_edit_2_0, hS0]; done) | (cases hn; done)
/-- cut with four things -/
theorem c_cut4 {ds : List D} (h4 : ds.length = 4) (h0 : L2.atI ds 0 = some (.str (plc p))) (hx : L2.atI ds 1 = some (.str kcut)) : den_raw_is_edit [.v t.d, .v (.tup ds)] S = some (.ok (.v (.bl false)) S) := by
  have hS0 := hS _ (Nat.le_refl _)
  unfold kcut at hx
  refine raw_tail hS ht hp (by omega) (by omega) h0 fun n hn' => ?_
  simp (decide := true) [wp_seq, wp_some, kQ_nx, kQ_rt, kQ_bk, kQ_ct, kQ_er, kL_nx, kL_ct, kL_bk, kL_rt, kL_er, sAsg, sE, sRet, sRetN, sDrop, sIf, sNext, sBreak, sCont, sRaise, sRaiseF, sPar, sAug, gSet, mVar, Mm.bind, Mm.ret, bin, op2, rd, orD, addD, addI, subI, i2, modI, divI, powI, s2, addS_small, addS_tup, addS_lst, addS_int, catL, catT, mulD, repS, repL, eqD, neD, okD, okDs, eqd, eqds, flatD, eqD, sTry, sHand, noEr, sTryAs, unAs, mFld, mIsE, mRepK, kRepK, cmpI, ltI, leI, gtI, geI, isNone, notNone, isN, asB, asT, truD, mNot, mAnd, mOr, vAnd, vOr, vNot, mIf, mNeg, mTup, mTupZ, frz, mLst, mOwn, mCons, mNil, datas, atD_tup, atD_lst, atD_rol, atD_str, seqOf, mNoPart, asI, mSl, slD_tup, slD_lst, slD_rol, slD_str, mIsI, isT, mCB, rds, mCall, mCall0, mMt, chk, isM, mApp, mExt, lenD_str, lenD_tup, lenD_lst, lenD_rol, intD, listD, tupD, mSrc, srcD, rng1, rng2, gTupD, gsCons, gsNil, mChain, thawG, thaw, snapO, MO.below, List.getElem?_cons_succ, List.getElem?_cons_zero, List.length_cons, List.length_nil, List.set_cons_succ, List.set_cons_zero, Int.natAbs_natCast, mTupRev, mCatO, mListO, gItm, minI, maxI, absI, app_take, app_take0, app_get, app_get0, app_set, app_set0, List.take_length, finO_nx, finO_rt, finO_er, finT, finE, su_raw_is_edit_0_2, hx, su_raw_is_edit_0_3, c_CUT, su_raw_is_edit_3_0, h4, hS0]
/-- cut elsewhere -/
theorem c_cut3 {ds : List D} {x : D} (h3 : ds.length = 3) (h0 : L2.atI ds 0 = some (.str (plc p))) (hx : L2.atI ds 1 = some (.str kcut)) (hy : L2.atI ds 2 = some x)
    (hw : ∀ n : Int, n = (t.at p).length → den_is_within [.v x, .v (.int 0), .v (.int (n - 1))] S = some (.ok (.v (.bl false)) S)) : den_raw_is_edit [.v t.d, .v (.tup ds)] S = some (.ok (.v (.bl false)) S) := by
  have hS0 := hS _ (Nat.le_refl _)
  unfold kcut at hx
  refine raw_tail hS ht hp (by omega) (by omega) h0 fun n hn' => ?_
  have := hw n hn'
  simp (decide := true) [wp_seq, wp_some, kQ_nx, kQ_rt, kQ_bk, kQ_ct, kQ_er, kL_nx, kL_ct, kL_bk, kL_rt, kL_er, sAsg, sE, sRet, sRetN, sDrop, sIf, sNext, sBreak, sCont, sRaise, sRaiseF, sPar, sAug, gSet, mVar, Mm.bind, Mm.ret, bin, op2, rd, orD, addD, addI, subI, i2, modI, divI, powI, s2, addS_small, addS_tup, addS_lst, addS_int, catL, catT, mulD, repS, repL, eqD, neD, okD, okDs, eqd, eqds, flatD, eqD, sTry, sHand, noEr, sTryAs, unAs, mFld, mIsE, mRepK, kRepK, cmpI, ltI, leI, gtI, geI, isNone, notNone, isN, asB, asT, truD, mNot, mAnd, mOr, vAnd, vOr, vNot, mIf, mNeg, mTup, mTupZ, frz, mLst, mOwn, mCons, mNil, datas, atD_tup, atD_lst, atD_rol, atD_str, seqOf, mNoPart, asI, mSl, slD_tup, slD_lst, slD_rol, slD_str, mIsI, isT, mCB, rds, mCall, mCall0, mMt, chk, isM, mApp, mExt, lenD_str, lenD_tup, lenD_lst, lenD_rol, intD, listD, tupD, mSrc, srcD, rng1, rng2, gTupD, gsCons, gsNil, mChain, thawG, thaw, snapO, MO.below, List.getElem?_cons_succ, List.getElem?_cons_zero, List.length_cons, List.length_nil, List.set_cons_succ, List.set_cons_zero, Int.natAbs_natCast, mTupRev, mCatO, mListO, gItm, minI, maxI, absI, app_take, app_take0, app_get, app_get0, app_set, app_set0, List.take_length, finO_nx, finO_rt, finO_er, finT, finE, su_raw_is_edit_0_2, hx, su_raw_is_edit_0_3, c_CUT, su_raw_is_edit_3_0, h3, hy, this, hS0]
/-- no way -/
theorem c_way {ds : List D} {w : List Nat} (h1 : 3 ≤ ds.length) (h2 : ds.length ≤ 4) (h0 : L2.atI ds 0 = some (.str (plc p))) (hx : L2.atI ds 1 = some (.str w)) (hwv : vcB w = true) (hwc : (w == [99, 117, 116]) = false) (hw : niD (.str w) (.tup [.str [112, 117, 116], .str [116, 117, 114, 110]]) = some (.bl true)) :
    den_raw_is_edit [.v t.d, .v (.tup ds)] S = some (.ok (.v (.bl false)) S) := by
  have hS0 := hS _ (Nat.le_refl _)
  have hwc' : w ≠ [99, 117, 116] := by simpa using hwc
  refine raw_tail hS ht hp h1 h2 h0 fun n hn' => ?_
  simp (decide := true) [wp_seq, wp_some, kQ_nx, kQ_rt, kQ_bk, kQ_ct, kQ_er, kL_nx, kL_ct, kL_bk, kL_rt, kL_er, sAsg, sE, sRet, sRetN, sDrop, sIf, sNext, sBreak, sCont, sRaise, sRaiseF, sPar, sAug, gSet, mVar, Mm.bind, Mm.ret, bin, op2, rd, orD, addD, addI, subI, i2, modI, divI, powI, s2, addS_small, addS_tup, addS_lst, addS_int, catL, catT, mulD, repS, repL, eqD, neD, okD, okDs, eqd, eqds, flatD, eqD, sTry, sHand, noEr, sTryAs, unAs, mFld, mIsE, mRepK, kRepK, cmpI, ltI, leI, gtI, geI, isNone, notNone, isN, asB, asT, truD, mNot, mAnd, mOr, vAnd, vOr, vNot, mIf, mNeg, mTup, mTupZ, frz, mLst, mOwn, mCons, mNil, datas, atD_tup, atD_lst, atD_rol, atD_str, seqOf, mNoPart, asI, mSl, slD_tup, slD_lst, slD_rol, slD_str, mIsI, isT, mCB, rds, mCall, mCall0, mMt, chk, isM, mApp, mExt, lenD_str, lenD_tup, lenD_lst, lenD_rol, intD, listD, tupD, mSrc, srcD, rng1, rng2, gTupD, gsCons, gsNil, mChain, thawG, thaw, snapO, MO.below, List.getElem?_cons_succ, List.getElem?_cons_zero, List.length_cons, List.length_nil, List.set_cons_succ, List.set_cons_zero, Int.natAbs_natCast, mTupRev, mCatO, mListO, gItm, minI, maxI, absI, app_take, app_take0, app_get, app_get0, app_set, app_set0, List.take_length, finO_nx, finO_rt, finO_er, finT, finE, su_raw_is_edit_0_2, hx, su_raw_is_edit_0_3, c_CUT, hwv, hwc, hwc', su_raw_is_edit_0_4, c_PUT, c_TURN, hw, su_raw_is_edit_4_0, hS0]
/-- put or turn with three things, or with no letter -/
theorem c_three {ds : List D} {w : List Nat} (h3 : ds.length = 3) (h0 : L2.atI ds 0 = some (.str (plc p))) (hx : L2.atI ds 1 = some (.str w)) (hwv : vcB w = true) (hwc : (w == [99, 117, 116]) = false) (hw : niD (.str w) (.tup [.str [112, 117, 116], .str [116, 117, 114, 110]]) = some (.bl false)) :
    den_raw_is_edit [.v t.d, .v (.tup ds)] S = some (.ok (.v (.bl false)) S) := by
  have hS0 := hS _ (Nat.le_refl _)
  have hwc' : w ≠ [99, 117, 116] := by simpa using hwc
  refine raw_tail hS ht hp (by omega) (by omega) h0 fun n hn' => ?_
  simp (decide := true) [wp_seq, wp_some, kQ_nx, kQ_rt, kQ_bk, kQ_ct, kQ_er, kL_nx, kL_ct, kL_bk, kL_rt, kL_er, sAsg, sE, sRet, sRetN, sDrop, sIf, sNext, sBreak, sCont, sRaise, sRaiseF, sPar, sAug, gSet, mVar, Mm.bind, Mm.ret, bin, op2, rd, orD, addD, addI, subI, i2, modI, divI, powI, s2, addS_small, addS_tup, addS_lst, addS_int, catL, catT, mulD, repS, repL, eqD, neD, okD, okDs, eqd, eqds, flatD, eqD, sTry, sHand, noEr, sTryAs, unAs, mFld, mIsE, mRepK, kRepK, cmpI, ltI, leI, gtI, geI, isNone, notNone, isN, asB, asT, truD, mNot, mAnd, mOr, vAnd, vOr, vNot, mIf, mNeg, mTup, mTupZ, frz, mLst, mOwn, mCons, mNil, datas, atD_tup, atD_lst, atD_rol, atD_str, seqOf, mNoPart, asI, mSl, slD_tup, slD_lst, slD_rol, slD_str, mIsI, isT, mCB, rds, mCall, mCall0, mMt, chk, isM, mApp, mExt, lenD_str, lenD_tup, lenD_lst, lenD_rol, intD, listD, tupD, mSrc, srcD, rng1, rng2, gTupD, gsCons, gsNil, mChain, thawG, thaw, snapO, MO.below, List.getElem?_cons_succ, List.getElem?_cons_zero, List.length_cons, List.length_nil, List.set_cons_succ, List.set_cons_zero, Int.natAbs_natCast, mTupRev, mCatO, mListO, gItm, minI, maxI, absI, app_take, app_take0, app_get, app_get0, app_set, app_set0, List.take_length, finO_nx, finO_rt, finO_er, finT, finE, su_raw_is_edit_0_2, hx, su_raw_is_edit_0_3, c_CUT, hwv, hwc, hwc', su_raw_is_edit_0_4, c_PUT, c_TURN, hw, h3, su_raw_is_edit_4_0, hS0]
theorem c_letter {ds : List D} {w : List Nat} {x : D} (h4 : ds.length = 4) (h0 : L2.atI ds 0 = some (.str (plc p))) (hx : L2.atI ds 1 = some (.str w)) (hwv : vcB w = true) (hwc : (w == [99, 117, 116]) = false) (hw : niD (.str w) (.tup [.str [112, 117, 116], .str [116, 117, 114, 110]]) = some (.bl false))
    (hl : L2.atI ds 3 = some x) (hn : den_is_letter [.v x] S = some (.ok (.v (.bl false)) S)) : den_raw_is_edit [.v t.d, .v (.tup ds)] S = some (.ok (.v (.bl false)) S) := by
  have hS0 := hS _ (Nat.le_refl _)
  have hwc' : w ≠ [99, 117, 116] := by simpa using hwc
  refine raw_tail hS ht hp (by omega) (by omega) h0 fun n hn' => ?_
  simp (decide := true) [wp_seq, wp_some, kQ_nx, kQ_rt, kQ_bk, kQ_ct, kQ_er, kL_nx, kL_ct, kL_bk, kL_rt, kL_er, sAsg, sE, sRet, sRetN, sDrop, sIf, sNext, sBreak, sCont, sRaise, sRaiseF, sPar, sAug, gSet, mVar, Mm.bind, Mm.ret, bin, op2, rd, orD, addD, addI, subI, i2, modI, divI, powI, s2, addS_small, addS_tup, addS_lst, addS_int, catL, catT, mulD, repS, repL, eqD, neD, okD, okDs, eqd, eqds, flatD, eqD, sTry, sHand, noEr, sTryAs, unAs, mFld, mIsE, mRepK, kRepK, cmpI, ltI, leI, gtI, geI, isNone, notNone, isN, asB, asT, truD, mNot, mAnd, mOr, vAnd, vOr, vNot, mIf, mNeg, mTup, mTupZ, frz, mLst, mOwn, mCons, mNil, datas, atD_tup, atD_lst, atD_rol, atD_str, seqOf, mNoPart, asI, mSl, slD_tup, slD_lst, slD_rol, slD_str, mIsI, isT, mCB, rds, mCall, mCall0, mMt, chk, isM, mApp, mExt, lenD_str, lenD_tup, lenD_lst, lenD_rol, intD, listD, tupD, mSrc, srcD, rng1, rng2, gTupD, gsCons, gsNil, mChain, thawG, thaw, snapO, MO.below, List.getElem?_cons_succ, List.getElem?_cons_zero, List.length_cons, List.length_nil, List.set_cons_succ, List.set_cons_zero, Int.natAbs_natCast, mTupRev, mCatO, mListO, gItm, minI, maxI, absI, app_take, app_take0, app_get, app_get0, app_set, app_set0, List.take_length, finO_nx, finO_rt, finO_er, finT, finE, su_raw_is_edit_0_2, hx, su_raw_is_edit_0_3, c_CUT, hwv, hwc, hwc', su_raw_is_edit_0_4, c_PUT, c_TURN, hw, h4, hl, hn, su_raw_is_edit_4_0, hS0]
/-- put elsewhere -/
theorem c_put {ds : List D} {x : D} {c : Nat} (h4 : ds.length = 4) (h0 : L2.atI ds 0 = some (.str (plc p))) (hx : L2.atI ds 1 = some (.str kput)) (hl : L2.atI ds 3 = some (.str [c])) (hc : okC c) (hy : L2.atI ds 2 = some x)
    (hw : ∀ n : Int, n = (t.at p).length → den_is_within [.v x, .v (.int 0), .v (.int n)] S = some (.ok (.v (.bl false)) S)) : den_raw_is_edit [.v t.d, .v (.tup ds)] S = some (.ok (.v (.bl false)) S) := by
  have hS0 := hS _ (Nat.le_refl _)
  unfold kput at hx
  have lt := letter_ok hS hc
  refine raw_tail hS ht hp (by omega) (by omega) h0 fun n hn' => ?_
  have := hw n hn'
  simp (decide := true) [wp_seq, wp_some, kQ_nx, kQ_rt, kQ_bk, kQ_ct, kQ_er, kL_nx, kL_ct, kL_bk, kL_rt, kL_er, sAsg, sE, sRet, sRetN, sDrop, sIf, sNext, sBreak, sCont, sRaise, sRaiseF, sPar, sAug, gSet, mVar, Mm.bind, Mm.ret, bin, op2, rd, orD, addD, addI, subI, i2, modI, divI, powI, s2, addS_small, addS_tup, addS_lst, addS_int, catL, catT, mulD, repS, repL, eqD, neD, okD, okDs, eqd, eqds, flatD, eqD, sTry, sHand, noEr, sTryAs, unAs, mFld, mIsE, mRepK, kRepK, cmpI, ltI, leI, gtI, geI, isNone, notNone, isN, asB, asT, truD, mNot, mAnd, mOr, vAnd, vOr, vNot, mIf, mNeg, mTup, mTupZ, frz, mLst, mOwn, mCons, mNil, datas, atD_tup, atD_lst, atD_rol, atD_str, seqOf, mNoPart, asI, mSl, slD_tup, slD_lst, slD_rol, slD_str, mIsI, isT, mCB, rds, mCall, mCall0, mMt, chk, isM, mApp, mExt, lenD_str, lenD_tup, lenD_lst, lenD_rol, intD, listD, tupD, mSrc, srcD, rng1, rng2, gTupD, gsCons, gsNil, mChain, thawG, thaw, snapO, MO.below, List.getElem?_cons_succ, List.getElem?_cons_zero, List.length_cons, List.length_nil, List.set_cons_succ, List.set_cons_zero, Int.natAbs_natCast, mTupRev, mCatO, mListO, gItm, minI, maxI, absI, app_take, app_take0, app_get, app_get0, app_set, app_set0, List.take_length, finO_nx, finO_rt, finO_er, finT, finE, su_raw_is_edit_0_2, hx, su_raw_is_edit_0_3, c_CUT, su_raw_is_edit_0_4, c_PUT, c_TURN, ni_put, h4, hl, lt, su_raw_is_edit_0_5, hy, this, hS0]
/-- turn elsewhere -/
theorem c_turn {ds : List D} {x : D} {c : Nat} (h4 : ds.length = 4) (h0 : L2.atI ds 0 = some (.str (plc p))) (hx : L2.atI ds 1 = some (.str kturn)) (hl : L2.atI ds 3 = some (.str [c])) (hc : okC c) (hy : L2.atI ds 2 = some x)
    (hw : ∀ n : Int, n = (t.at p).length → den_is_within [.v x, .v (.int 0), .v (.int (n - 1))] S = some (.ok (.v (.bl false)) S)) : den_raw_is_edit [.v t.d, .v (.tup ds)] S = some (.ok (.v (.bl false)) S) := by
  have hS0 := hS _ (Nat.le_refl _)
  unfold kturn at hx
  have lt := letter_ok hS hc
  refine raw_tail hS ht hp (by omega) (by omega) h0 fun n hn' => ?_
  have := hw n hn'
  simp (decide := true) [wp_seq, wp_some, kQ_nx, kQ_rt, kQ_bk, kQ_ct, kQ_er, kL_nx, kL_ct, kL_bk, kL_rt, kL_er, sAsg, sE, sRet, sRetN, sDrop, sIf, sNext, sBreak, sCont, sRaise, sRaiseF, sPar, sAug, gSet, mVar, Mm.bind, Mm.ret, bin, op2, rd, orD, addD, addI, subI, i2, modI, divI, powI, s2, addS_small, addS_tup, addS_lst, addS_int, catL, catT, mulD, repS, repL, eqD, neD, okD, okDs, eqd, eqds, flatD, eqD, sTry, sHand, noEr, sTryAs, unAs, mFld, mIsE, mRepK, kRepK, cmpI, ltI, leI, gtI, geI, isNone, notNone, isN, asB, asT, truD, mNot, mAnd, mOr, vAnd, vOr, vNot, mIf, mNeg, mTup, mTupZ, frz, mLst, mOwn, mCons, mNil, datas, atD_tup, atD_lst, atD_rol, atD_str, seqOf, mNoPart, asI, mSl, slD_tup, slD_lst, slD_rol, slD_str, mIsI, isT, mCB, rds, mCall, mCall0, mMt, chk, isM, mApp, mExt, lenD_str, lenD_tup, lenD_lst, lenD_rol, intD, listD, tupD, mSrc, srcD, rng1, rng2, gTupD, gsCons, gsNil, mChain, thawG, thaw, snapO, MO.below, List.getElem?_cons_succ, List.getElem?_cons_zero, List.length_cons, List.length_nil, List.set_cons_succ, List.set_cons_zero, Int.natAbs_natCast, mTupRev, mCatO, mListO, gItm, minI, maxI, absI, app_take, app_take0, app_get, app_get0, app_set, app_set0, List.take_length, finO_nx, finO_rt, finO_er, finT, finE, su_raw_is_edit_0_2, hx, su_raw_is_edit_0_3, c_CUT, su_raw_is_edit_0_4, c_PUT, c_TURN, ni_turn, h4, hl, lt, su_raw_is_edit_0_5, hy, this, hS0]
end
end G

namespace G
open PySem DL
def Ed.tl : Ed → List D
  | .put _ a c => [.str kput, .int a, .str [c]]
  | .cut _ a => [.str kcut, .int a]
  | .turn _ a c => [.str kturn, .int a, .str [c]]
theorem ed_d (e : Ed) : e.d = .tup (.str (plc e.p) :: e.tl) := by cases e <;> rfl
def oddL (X : D) (tl : List D) (n : Int) : List D :=
  [.tup (.str [116] :: tl), .tup (.str [88] :: tl), .tup (.int 0 :: tl), .tup (X :: tl.take 1), .tup (X :: (tl ++ [.str [97]])), .lst (X :: tl), .non,
   .str kput, .tup [X, .str kput, .int (n + 1), .str [97]], .tup [X, .str kput, .int (-1), .str [97]], .tup [X, .str kput, .bl true, .str [97]],
   .tup [X, .str kput, .int 0, .str [65]], .tup [X, .str kput, .int 0, .str []], .tup [X, .str kput, .int 0, .str [97, 98]], .tup [X, .str kput, .int 0],
   .tup [X, .str kput, .int 0, .non],
   .tup [X, .str kcut, .int n], .tup [X, .str kcut, .int (-1)], .tup [X, .str kcut, .str [48]], .tup [X, .str kcut, .int 0, .str [97]],
   .tup [X, .str kcut], .tup [X, .str kturn, .int n, .str [97]], .tup [X, .str kturn, .int (-1), .str [97]], .tup [X, .str kturn, .int 0, .str [63]],
   .tup [X, .str kturn, .int 0],
   .tup [X, .str [67, 117, 116], .int 0], .tup [X, .non, .int 0], .tup [X, .str [109, 111, 118, 101], .int 0, .str [97]], .tup [X, .str kput, .non, .str [97]], .tup [], .int 0]
theorem at_cons0 (x : D) (l : List D) : L2.atI (x :: l) 0 = some x := by
  rw [atI_nn (by decide) (by simp)]
  rfl
theorem okC97 : okC 97 := by unfold okC; omega
theorem odd_no {S : Sto} (hS : Cl S) {t : Tri} (ht : t.ok) {e : Ed} (hp : e.p < 3) : ∀ d ∈ oddL (.str (plc e.p)) e.tl (t.at e.p).length, den_raw_is_edit [.v t.d, .v d] S = some (.ok (.v (.bl false)) S) := by
  have h3 : 3 ≤ (e.tl.length + 1) ∧ e.tl.length + 1 ≤ 4 := by cases e <;> simp [Ed.tl]
  intro d hd
  simp only [oddL, List.mem_cons, List.not_mem_nil, or_false] at hd
  rcases hd with rfl | rfl | rfl | rfl | rfl | rfl | rfl | rfl | rfl | rfl | rfl | rfl | rfl | rfl | rfl | rfl | rfl | rfl | rfl | rfl | rfl | rfl | rfl | rfl | rfl | rfl | rfl | rfl | rfl | rfl | rfl
  · exact raw_t hS (by simpa using h3.1) (by simpa using h3.2) (at_cons0 _ _)
  · exact raw_first hS (by simpa using h3.1) (by simpa using h3.2) (x := .str [88]) (at_cons0 _ _) (letter_no hS (by unfold okC; omega))
  · exact raw_first hS (by simpa using h3.1) (by simpa using h3.2) (x := .int 0) (at_cons0 _ _) (letter_ty hS rfl)
  · exact rawis_short hS (by simp; omega)
  · cases e with
    | put p a c => exact raw_long hS (by show 4 < 5; decide)
    | turn p a c => exact raw_long hS (by show 4 < 5; decide)
    | cut p a => exact c_cut4 hS ht hp rfl rfl rfl
  · exact rawis_no hS rfl
  · exact rawis_no hS rfl
  · exact rawis_no hS rfl
  · exact c_put hS ht hp rfl rfl rfl rfl okC97 rfl fun n hn => within_hi hS (by omega) (by omega)
  · exact c_put hS ht hp rfl rfl rfl rfl okC97 rfl fun n hn => within_lo hS (by omega)
  · exact c_put hS ht hp rfl rfl rfl rfl okC97 rfl fun n hn => within_ty hS (int_bl hS)
  · exact c_letter hS ht hp rfl rfl rfl rfl rfl ni_put rfl (letter_no hS (by unfold okC; omega))
  · exact c_letter hS ht hp rfl rfl rfl rfl rfl ni_put rfl (letter_len hS (by decide) (by decide))
  · exact c_letter hS ht hp rfl rfl rfl rfl rfl ni_put rfl (letter_len hS (by decide) (by decide))
  · exact c_three hS ht hp rfl rfl rfl rfl rfl ni_put
  · exact c_letter hS ht hp rfl rfl rfl rfl rfl ni_put rfl (letter_ty hS rfl)
  · exact c_cut3 hS ht hp rfl rfl rfl rfl fun n hn => within_hi hS (by omega) (by omega)
  · exact c_cut3 hS ht hp rfl rfl rfl rfl fun n hn => within_lo hS (by omega)
  · exact c_cut3 hS ht hp rfl rfl rfl rfl fun n hn => within_ty hS (int_no hS rfl)
  · exact c_cut4 hS ht hp rfl rfl rfl
  · exact rawis_short hS (by show 2 < 3; decide)
  · exact c_turn hS ht hp rfl rfl rfl rfl okC97 rfl fun n hn => within_hi hS (by omega) (by omega)
  · exact c_turn hS ht hp rfl rfl rfl rfl okC97 rfl fun n hn => within_lo hS (by omega)
  · exact c_letter hS ht hp rfl rfl rfl rfl rfl ni_turn rfl (letter_no hS (by unfold okC; omega))
  · exact c_three hS ht hp rfl rfl rfl rfl rfl ni_turn
  · exact c_way hS ht hp (by simp) (by simp) rfl rfl rfl rfl rfl
  · exact c_noText hS ht hp (by simp) (by simp) rfl rfl rfl
  · exact c_way hS ht hp (by simp) (by simp) rfl rfl rfl rfl rfl
  · exact c_put hS ht hp rfl rfl rfl rfl okC97 rfl fun n hn => within_ty hS (int_no hS rfl)
  · exact rawis_short hS (by show 0 < 3; decide)
  · exact rawis_no hS rfl
end G

namespace G
open PySem DL
section
variable {S : Sto} (hS : Cl S)
include hS
theorem edited_ok {t : Tri} (ht : t.ok) {e : Ed} (he : e.ok t) : den_edited [.v t.d, .v e.d] S = some (.ok (.v (e.go t).d) S) := by
  have hS0 := hS _ (Nat.le_refl _)
  refine wp_eq (fnD_wp rfl ?_)
  simp (decide := true) [wp_seq, wp_some, kQ_nx, kQ_rt, kQ_bk, kQ_ct, kQ_er, kL_nx, kL_ct, kL_bk, kL_rt, kL_er, sAsg, sE, sRet, sRetN, sDrop, sIf, sNext, sBreak, sCont, sRaise, sRaiseF, sPar, sAug, gSet, mVar, Mm.bind, Mm.ret, bin, op2, rd, orD, addD, addI, subI, i2, modI, divI, powI, s2, addS_small, addS_tup, addS_lst, addS_int, catL, catT, mulD, repS, repL, eqD, neD, okD, okDs, eqd, eqds, flatD, eqD, sTry, sHand, noEr, sTryAs, unAs, mFld, mIsE, mRepK, kRepK, cmpI, ltI, leI, gtI, geI, isNone, notNone, isN, asB, asT, truD, mNot, mAnd, mOr, vAnd, vOr, vNot, mIf, mNeg, mTup, mTupZ, frz, mLst, mOwn, mCons, mNil, datas, atD_tup, atD_lst, atD_rol, atD_str, seqOf, mNoPart, asI, mSl, slD_tup, slD_lst, slD_rol, slD_str, mIsI, isT, mCB, rds, mCall, mCall0, mMt, chk, isM, mApp, mExt, lenD_str, lenD_tup, lenD_lst, lenD_rol, intD, listD, tupD, mSrc, srcD, rng1, rng2, gTupD, gsCons, gsNil, mChain, thawG, thaw, snapO, MO.below, List.getElem?_cons_succ, List.getElem?_cons_zero, List.length_cons, List.length_nil, List.set_cons_succ, List.set_cons_zero, Int.natAbs_natCast, mTupRev, mCatO, mListO, gItm, minI, maxI, absI, app_take, app_take0, app_get, app_get0, app_set, app_set0, List.take_length, finO_nx, finO_rt, finO_er, finT, finE, su_edited_0_0, ctriple_ok hS (tri_ok hS ht), su_edited_0_1, cedit_ok hS ht he, su_edited_0_2, rawed_ok hS ht he, hS0]
theorem edited_tri {t x : D} (h : den_is_triple [.v t] S = some (.ok (.v (.bl false)) S)) : den_edited [.v t, .v x] S = some (.er "NoTriple" none S) := by
  have hS0 := hS _ (Nat.le_refl _)
  refine wp_eq (fnD_wp rfl ?_)
  simp (decide := true) [wp_seq, wp_some, kQ_nx, kQ_rt, kQ_bk, kQ_ct, kQ_er, kL_nx, kL_ct, kL_bk, kL_rt, kL_er, sAsg, sE, sRet, sRetN, sDrop, sIf, sNext, sBreak, sCont, sRaise, sRaiseF, sPar, sAug, gSet, mVar, Mm.bind, Mm.ret, bin, op2, rd, orD, addD, addI, subI, i2, modI, divI, powI, s2, addS_small, addS_tup, addS_lst, addS_int, catL, catT, mulD, repS, repL, eqD, neD, okD, okDs, eqd, eqds, flatD, eqD, sTry, sHand, noEr, sTryAs, unAs, mFld, mIsE, mRepK, kRepK, cmpI, ltI, leI, gtI, geI, isNone, notNone, isN, asB, asT, truD, mNot, mAnd, mOr, vAnd, vOr, vNot, mIf, mNeg, mTup, mTupZ, frz, mLst, mOwn, mCons, mNil, datas, atD_tup, atD_lst, atD_rol, atD_str, seqOf, mNoPart, asI, mSl, slD_tup, slD_lst, slD_rol, slD_str, mIsI, isT, mCB, rds, mCall, mCall0, mMt, chk, isM, mApp, mExt, lenD_str, lenD_tup, lenD_lst, lenD_rol, intD, listD, tupD, mSrc, srcD, rng1, rng2, gTupD, gsCons, gsNil, mChain, thawG, thaw, snapO, MO.below, List.getElem?_cons_succ, List.getElem?_cons_zero, List.length_cons, List.length_nil, List.set_cons_succ, List.set_cons_zero, Int.natAbs_natCast, mTupRev, mCatO, mListO, gItm, minI, maxI, absI, app_take, app_take0, app_get, app_get0, app_set, app_set0, List.take_length, finO_nx, finO_rt, finO_er, finT, finE, su_edited_0_0, ctriple_bad hS h, hS0]
theorem edited_bad {t : Tri} (ht : t.ok) {x : D} (h : den_raw_is_edit [.v t.d, .v x] S = some (.ok (.v (.bl false)) S)) : den_edited [.v t.d, .v x] S = some (.er "NoEdit" none S) := by
  have hS0 := hS _ (Nat.le_refl _)
  refine wp_eq (fnD_wp rfl ?_)
  simp (decide := true) [wp_seq, wp_some, kQ_nx, kQ_rt, kQ_bk, kQ_ct, kQ_er, kL_nx, kL_ct, kL_bk, kL_rt, kL_er, sAsg, sE, sRet, sRetN, sDrop, sIf, sNext, sBreak, sCont, sRaise, sRaiseF, sPar, sAug, gSet, mVar, Mm.bind, Mm.ret, bin, op2, rd, orD, addD, addI, subI, i2, modI, divI, powI, s2, addS_small, addS_tup, addS_lst, addS_int, catL, catT, mulD, repS, repL, eqD, neD, okD, okDs, eqd, eqds, flatD, eqD, sTry, sHand, noEr, sTryAs, unAs, mFld, mIsE, mRepK, kRepK, cmpI, ltI, leI, gtI, geI, isNone, notNone, isN, asB, asT, truD, mNot, mAnd, mOr, vAnd, vOr, vNot, mIf, mNeg, mTup, mTupZ, frz, mLst, mOwn, mCons, mNil, datas, atD_tup, atD_lst, atD_rol, atD_str, seqOf, mNoPart, asI, mSl, slD_tup, slD_lst, slD_rol, slD_str, mIsI, isT, mCB, rds, mCall, mCall0, mMt, chk, isM, mApp, mExt, lenD_str, lenD_tup, lenD_lst, lenD_rol, intD, listD, tupD, mSrc, srcD, rng1, rng2, gTupD, gsCons, gsNil, mChain, thawG, thaw, snapO, MO.below, List.getElem?_cons_succ, List.getElem?_cons_zero, List.length_cons, List.length_nil, List.set_cons_succ, List.set_cons_zero, Int.natAbs_natCast, mTupRev, mCatO, mListO, gItm, minI, maxI, absI, app_take, app_take0, app_get, app_get0, app_set, app_set0, List.take_length, finO_nx, finO_rt, finO_er, finT, finE, su_edited_0_0, ctriple_ok hS (tri_ok hS ht), su_edited_0_1, cedit_bad hS h, hS0]
theorem told_ok {t : Tri} (ht : t.ok) {e : Ed} (he : e.ok t) : den__law_told [.v t.d, .v e.d] S = some (.ok (.v (.tup [.str told, (e.go t).d])) S) := by
  have hS0 := hS _ (Nat.le_refl _)
  refine wp_eq (fnD_wp rfl ?_)
  have h2 : 2 ≤ lineN := by decide
  simp (decide := true) [wp_seq, wp_some, kQ_nx, kQ_rt, kQ_bk, kQ_ct, kQ_er, kL_nx, kL_ct, kL_bk, kL_rt, kL_er, sAsg, sE, sRet, sRetN, sDrop, sIf, sNext, sBreak, sCont, sRaise, sRaiseF, sPar, sAug, gSet, mVar, Mm.bind, Mm.ret, bin, op2, rd, orD, addD, addI, subI, i2, modI, divI, powI, s2, addS_small, addS_tup, addS_lst, addS_int, catL, catT, mulD, repS, repL, eqD, neD, okD, okDs, eqd, eqds, flatD, eqD, sTry, sHand, noEr, sTryAs, unAs, mFld, mIsE, mRepK, kRepK, cmpI, ltI, leI, gtI, geI, isNone, notNone, isN, asB, asT, truD, mNot, mAnd, mOr, vAnd, vOr, vNot, mIf, mNeg, mTup, mTupZ, frz, mLst, mOwn, mCons, mNil, datas, atD_tup, atD_lst, atD_rol, atD_str, seqOf, mNoPart, asI, mSl, slD_tup, slD_lst, slD_rol, slD_str, mIsI, isT, mCB, rds, mCall, mCall0, mMt, chk, isM, mApp, mExt, lenD_str, lenD_tup, lenD_lst, lenD_rol, intD, listD, tupD, mSrc, srcD, rng1, rng2, gTupD, gsCons, gsNil, mChain, thawG, thaw, snapO, MO.below, List.getElem?_cons_succ, List.getElem?_cons_zero, List.length_cons, List.length_nil, List.set_cons_succ, List.set_cons_zero, Int.natAbs_natCast, mTupRev, mCatO, mListO, gItm, minI, maxI, absI, app_take, app_take0, app_get, app_get0, app_set, app_set0, List.take_length, finO_nx, finO_rt, finO_er, finT, finE, su__law_told_0_0, su__law_told_0_1, su__law_told_0_2, sTryC, su__law_told_0_3, su__law_told_1_0, edited_ok hS ht he, hS0, told, h2]
theorem told_bad {t : Tri} (ht : t.ok) {x : D} (h : den_raw_is_edit [.v t.d, .v x] S = some (.ok (.v (.bl false)) S)) : den__law_told [.v t.d, .v x] S = some (.ok (.v (.tup [.str nEdit, .non])) S) := by
  have hS0 := hS _ (Nat.le_refl _)
  refine wp_eq (fnD_wp rfl ?_)
  have h2 : 2 ≤ lineN := by decide
  simp (decide := true) [wp_seq, wp_some, kQ_nx, kQ_rt, kQ_bk, kQ_ct, kQ_er, kL_nx, kL_ct, kL_bk, kL_rt, kL_er, sAsg, sE, sRet, sRetN, sDrop, sIf, sNext, sBreak, sCont, sRaise, sRaiseF, sPar, sAug, gSet, mVar, Mm.bind, Mm.ret, bin, op2, rd, orD, addD, addI, subI, i2, modI, divI, powI, s2, addS_small, addS_tup, addS_lst, addS_int, catL, catT, mulD, repS, repL, eqD, neD, okD, okDs, eqd, eqds, flatD, eqD, sTry, sHand, noEr, sTryAs, unAs, mFld, mIsE, mRepK, kRepK, cmpI, ltI, leI, gtI, geI, isNone, notNone, isN, asB, asT, truD, mNot, mAnd, mOr, vAnd, vOr, vNot, mIf, mNeg, mTup, mTupZ, frz, mLst, mOwn, mCons, mNil, datas, atD_tup, atD_lst, atD_rol, atD_str, seqOf, mNoPart, asI, mSl, slD_tup, slD_lst, slD_rol, slD_str, mIsI, isT, mCB, rds, mCall, mCall0, mMt, chk, isM, mApp, mExt, lenD_str, lenD_tup, lenD_lst, lenD_rol, intD, listD, tupD, mSrc, srcD, rng1, rng2, gTupD, gsCons, gsNil, mChain, thawG, thaw, snapO, MO.below, List.getElem?_cons_succ, List.getElem?_cons_zero, List.length_cons, List.length_nil, List.set_cons_succ, List.set_cons_zero, Int.natAbs_natCast, mTupRev, mCatO, mListO, gItm, minI, maxI, absI, app_take, app_take0, app_get, app_get0, app_set, app_set0, List.take_length, finO_nx, finO_rt, finO_er, finT, finE, su__law_told_0_0, su__law_told_0_1, su__law_told_0_2, sTryC, sHandC, su__law_told_0_3, su__law_told_1_0, su__law_told_2_0, edited_bad hS ht h, hS0, nEdit, h2, cat_NoEdit_NoTriple, tabl_NoEdit_NoTriple, cat_NoEdit_NoEdit, tabl_NoEdit_NoEdit]
theorem told_tri {t x : D} (h : den_is_triple [.v t] S = some (.ok (.v (.bl false)) S)) : den__law_told [.v t, .v x] S = some (.ok (.v (.tup [.str nTrip, .non])) S) := by
  have hS0 := hS _ (Nat.le_refl _)
  refine wp_eq (fnD_wp rfl ?_)
  have h2 : 2 ≤ lineN := by decide
  have hs : su__law_told 0 none "NoTriple" none [some (.v t), some (.v x), some (.v (.str told)), some (.v .non), some (.x 0 none none)] S = some (.nx [some (.v t), some (.v x), some (.v (.str nTrip)), some (.v .non), some (.x 0 none none)] S) := by
    simp (decide := true) [wp_seq, wp_some, kQ_nx, kQ_rt, kQ_bk, kQ_ct, kQ_er, kL_nx, kL_ct, kL_bk, kL_rt, kL_er, sAsg, sE, sRet, sRetN, sDrop, sIf, sNext, sBreak, sCont, sRaise, sRaiseF, sPar, sAug, gSet, mVar, Mm.bind, Mm.ret, bin, op2, rd, orD, addD, addI, subI, i2, modI, divI, powI, s2, addS_small, addS_tup, addS_lst, addS_int, catL, catT, mulD, repS, repL, eqD, neD, okD, okDs, eqd, eqds, flatD, eqD, sTry, sHand, noEr, sTryAs, unAs, mFld, mIsE, mRepK, kRepK, cmpI, ltI, leI, gtI, geI, isNone, notNone, isN, asB, asT, truD, mNot, mAnd, mOr, vAnd, vOr, vNot, mIf, mNeg, mTup, mTupZ, frz, mLst, mOwn, mCons, mNil, datas, atD_tup, atD_lst, atD_rol, atD_str, seqOf, mNoPart, asI, mSl, slD_tup, slD_lst, slD_rol, slD_str, mIsI, isT, mCB, rds, mCall, mCall0, mMt, chk, isM, mApp, mExt, lenD_str, lenD_tup, lenD_lst, lenD_rol, intD, listD, tupD, mSrc, srcD, rng1, rng2, gTupD, gsCons, gsNil, mChain, thawG, thaw, snapO, MO.below, List.getElem?_cons_succ, List.getElem?_cons_zero, List.length_cons, List.length_nil, List.set_cons_succ, List.set_cons_zero, Int.natAbs_natCast, mTupRev, mCatO, mListO, gItm, minI, maxI, absI, app_take, app_take0, app_get, app_get0, app_set, app_set0, List.take_length, finO_nx, finO_rt, finO_er, finT, finE, su__law_told, su__law_told_3_0, su__law_told_3_1, nTrip, sSeq, mIsZ]
  unfold told at hs
  simp (decide := true) [wp_seq, wp_some, kQ_nx, kQ_rt, kQ_bk, kQ_ct, kQ_er, kL_nx, kL_ct, kL_bk, kL_rt, kL_er, sAsg, sE, sRet, sRetN, sDrop, sIf, sNext, sBreak, sCont, sRaise, sRaiseF, sPar, sAug, gSet, mVar, Mm.bind, Mm.ret, bin, op2, rd, orD, addD, addI, subI, i2, modI, divI, powI, s2, addS_small, addS_tup, addS_lst, addS_int, catL, catT, mulD, repS, repL, eqD, neD, okD, okDs, eqd, eqds, flatD, eqD, sTry, sHand, noEr, sTryAs, unAs, mFld, mIsE, mRepK, kRepK, cmpI, ltI, leI, gtI, geI, isNone, notNone, isN, asB, asT, truD, mNot, mAnd, mOr, vAnd, vOr, vNot, mIf, mNeg, mTup, mTupZ, frz, mLst, mOwn, mCons, mNil, datas, atD_tup, atD_lst, atD_rol, atD_str, seqOf, mNoPart, asI, mSl, slD_tup, slD_lst, slD_rol, slD_str, mIsI, isT, mCB, rds, mCall, mCall0, mMt, chk, isM, mApp, mExt, lenD_str, lenD_tup, lenD_lst, lenD_rol, intD, listD, tupD, mSrc, srcD, rng1, rng2, gTupD, gsCons, gsNil, mChain, thawG, thaw, snapO, MO.below, List.getElem?_cons_succ, List.getElem?_cons_zero, List.length_cons, List.length_nil, List.set_cons_succ, List.set_cons_zero, Int.natAbs_natCast, mTupRev, mCatO, mListO, gItm, minI, maxI, absI, app_take, app_take0, app_get, app_get0, app_set, app_set0, List.take_length, finO_nx, finO_rt, finO_er, finT, finE, su__law_told_0_0, su__law_told_0_1, su__law_told_0_2, sTryC, sHandC, su__law_told_0_3, su__law_told_1_0, edited_tri hS h, hS0, h2, cat_NoTriple_NoTriple, tabl_NoTriple_NoTriple, hs, nTrip]
theorem isedit_bad {t : Tri} (ht : t.ok) {x : D} (h : den_raw_is_edit [.v t.d, .v x] S = some (.ok (.v (.bl false)) S)) : den_is_edit [.v t.d, .v x] S = some (.ok (.v (.bl false)) S) := by
  have hS0 := hS _ (Nat.le_refl _)
  refine wp_eq (fnD_wp rfl ?_)
  simp (decide := true) [wp_seq, wp_some, kQ_nx, kQ_rt, kQ_bk, kQ_ct, kQ_er, kL_nx, kL_ct, kL_bk, kL_rt, kL_er, sAsg, sE, sRet, sRetN, sDrop, sIf, sNext, sBreak, sCont, sRaise, sRaiseF, sPar, sAug, gSet, mVar, Mm.bind, Mm.ret, bin, op2, rd, orD, addD, addI, subI, i2, modI, divI, powI, s2, addS_small, addS_tup, addS_lst, addS_int, catL, catT, mulD, repS, repL, eqD, neD, okD, okDs, eqd, eqds, flatD, eqD, sTry, sHand, noEr, sTryAs, unAs, mFld, mIsE, mRepK, kRepK, cmpI, ltI, leI, gtI, geI, isNone, notNone, isN, asB, asT, truD, mNot, mAnd, mOr, vAnd, vOr, vNot, mIf, mNeg, mTup, mTupZ, frz, mLst, mOwn, mCons, mNil, datas, atD_tup, atD_lst, atD_rol, atD_str, seqOf, mNoPart, asI, mSl, slD_tup, slD_lst, slD_rol, slD_str, mIsI, isT, mCB, rds, mCall, mCall0, mMt, chk, isM, mApp, mExt, lenD_str, lenD_tup, lenD_lst, lenD_rol, intD, listD, tupD, mSrc, srcD, rng1, rng2, gTupD, gsCons, gsNil, mChain, thawG, thaw, snapO, MO.below, List.getElem?_cons_succ, List.getElem?_cons_zero, List.length_cons, List.length_nil, List.set_cons_succ, List.set_cons_zero, Int.natAbs_natCast, mTupRev, mCatO, mListO, gItm, minI, maxI, absI, app_take, app_take0, app_get, app_get0, app_set, app_set0, List.take_length, finO_nx, finO_rt, finO_er, finT, finE, su_is_edit_0_0, ctriple_ok hS (tri_ok hS ht), su_is_edit_0_1, h, hS0]
theorem isedit_tri {t x : D} (h : den_is_triple [.v t] S = some (.ok (.v (.bl false)) S)) : den_is_edit [.v t, .v x] S = some (.er "NoTriple" none S) := by
  have hS0 := hS _ (Nat.le_refl _)
  refine wp_eq (fnD_wp rfl ?_)
  simp (decide := true) [wp_seq, wp_some, kQ_nx, kQ_rt, kQ_bk, kQ_ct, kQ_er, kL_nx, kL_ct, kL_bk, kL_rt, kL_er, sAsg, sE, sRet, sRetN, sDrop, sIf, sNext, sBreak, sCont, sRaise, sRaiseF, sPar, sAug, gSet, mVar, Mm.bind, Mm.ret, bin, op2, rd, orD, addD, addI, subI, i2, modI, divI, powI, s2, addS_small, addS_tup, addS_lst, addS_int, catL, catT, mulD, repS, repL, eqD, neD, okD, okDs, eqd, eqds, flatD, eqD, sTry, sHand, noEr, sTryAs, unAs, mFld, mIsE, mRepK, kRepK, cmpI, ltI, leI, gtI, geI, isNone, notNone, isN, asB, asT, truD, mNot, mAnd, mOr, vAnd, vOr, vNot, mIf, mNeg, mTup, mTupZ, frz, mLst, mOwn, mCons, mNil, datas, atD_tup, atD_lst, atD_rol, atD_str, seqOf, mNoPart, asI, mSl, slD_tup, slD_lst, slD_rol, slD_str, mIsI, isT, mCB, rds, mCall, mCall0, mMt, chk, isM, mApp, mExt, lenD_str, lenD_tup, lenD_lst, lenD_rol, intD, listD, tupD, mSrc, srcD, rng1, rng2, gTupD, gsCons, gsNil, mChain, thawG, thaw, snapO, MO.below, List.getElem?_cons_succ, List.getElem?_cons_zero, List.length_cons, List.length_nil, List.set_cons_succ, List.set_cons_zero, Int.natAbs_natCast, mTupRev, mCatO, mListO, gItm, minI, maxI, absI, app_take, app_take0, app_get, app_get0, app_set, app_set0, List.take_length, finO_nx, finO_rt, finO_er, finT, finE, su_is_edit_0_0, ctriple_bad hS h, hS0]
theorem refused_ok {t : D} (h : den_is_triple [.v t] S = some (.ok (.v (.bl false)) S)) : den__law_refused [.v t] S = some (.ok (.v (.bl true)) S) := by
  have hS0 := hS _ (Nat.le_refl _)
  have h3 : 3 ≤ lineN := by decide
  refine wp_eq (fnD_wp rfl ?_)
  simp (decide := true) [wp_seq, wp_some, kQ_nx, kQ_rt, kQ_bk, kQ_ct, kQ_er, kL_nx, kL_ct, kL_bk, kL_rt, kL_er, sAsg, sE, sRet, sRetN, sDrop, sIf, sNext, sBreak, sCont, sRaise, sRaiseF, sPar, sAug, gSet, mVar, Mm.bind, Mm.ret, bin, op2, rd, orD, addD, addI, subI, i2, modI, divI, powI, s2, addS_small, addS_tup, addS_lst, addS_int, catL, catT, mulD, repS, repL, eqD, neD, okD, okDs, eqd, eqds, flatD, eqD, sTry, sHand, noEr, sTryAs, unAs, mFld, mIsE, mRepK, kRepK, cmpI, ltI, leI, gtI, geI, isNone, notNone, isN, asB, asT, truD, mNot, mAnd, mOr, vAnd, vOr, vNot, mIf, mNeg, mTup, mTupZ, frz, mLst, mOwn, mCons, mNil, datas, atD_tup, atD_lst, atD_rol, atD_str, seqOf, mNoPart, asI, mSl, slD_tup, slD_lst, slD_rol, slD_str, mIsI, isT, mCB, rds, mCall, mCall0, mMt, chk, isM, mApp, mExt, lenD_str, lenD_tup, lenD_lst, lenD_rol, intD, listD, tupD, mSrc, srcD, rng1, rng2, gTupD, gsCons, gsNil, mChain, thawG, thaw, snapO, MO.below, List.getElem?_cons_succ, List.getElem?_cons_zero, List.length_cons, List.length_nil, List.set_cons_succ, List.set_cons_zero, Int.natAbs_natCast, mTupRev, mCatO, mListO, gItm, minI, maxI, absI, app_take, app_take0, app_get, app_get0, app_set, app_set0, List.take_length, finO_nx, finO_rt, finO_er, finT, finE, su__law_refused_0_0, su__law_refused_0_1, su__law_refused_0_2, su__law_refused_1_0, su__law_refused_2_0, isedit_tri hS h, hS0, h3, cat_NoTriple_NoTriple, tabl_NoTriple_NoTriple]
end
end G

namespace G
open PySem DL
theorem cutD1 (l : List D) : cutD l (some 1) none = l.drop 1 := cut_drop l 1
theorem cutD2 (l : List D) : cutD l none (some 2) = l.take 2 := cut_take l 2
section
variable {S : Sto} (hS : Cl S)
include hS
theorem lodd_ok {t : Tri} (ht : t.ok) {e : Ed} (hp : e.p < 3) {n : Int} (hn : 0 ≤ n) : ∃ d : D, den__law_odd [.v t.d, .v e.d, .v (.int n)] S = some (.ok (.v d) S) ∧ d ∈ oddL (.str (plc e.p)) e.tl (t.at e.p).length := by
  have hS0 := hS _ (Nat.le_refl _)
  obtain ⟨d, hd, hat⟩ := atI_mem (l := oddL (.str (plc e.p)) e.tl (t.at e.p).length) (i := n % 31) (by omega) (by show n % 31 < 31; omega)
  refine ⟨d, ?_, hd⟩
  refine wp_eq (fnD_wp rfl ?_)
  have hl := (ht.at e.p).2
  have hl2 : (t.at e.p).length ≤ lineN := by rw [lineN_eq]; omega
  have q1 : e.tl.length + 1 + 1 ≤ lineN := by have : e.tl.length ≤ 3 := (by cases e <;> simp [Ed.tl]); rw [lineN_eq]; omega
  have q2 : 1 + e.tl.length ≤ lineN := by rw [lineN_eq] at *; omega
  have q3 : e.tl.length + 1 ≤ lineN := by rw [lineN_eq] at *; omega
  simp only [oddL, kput, kcut, kturn, plc] at hat
  have i0 := ix_xyz hp
  rw [ed_d]
  generalize e.tl = tl at *
  generalize hpe : e.p = p at *
  simp (decide := true) [wp_seq, wp_some, kQ_nx, kQ_rt, kQ_bk, kQ_ct, kQ_er, kL_nx, kL_ct, kL_bk, kL_rt, kL_er, sAsg, sE, sRet, sRetN, sDrop, sIf, sNext, sBreak, sCont, sRaise, sRaiseF, sPar, sAug, gSet, mVar, Mm.bind, Mm.ret, bin, op2, rd, orD, addD, addI, subI, i2, modI, divI, powI, s2, addS_small, addS_tup, addS_lst, addS_int, catL, catT, mulD, repS, repL, eqD, neD, okD, okDs, eqd, eqds, flatD, eqD, sTry, sHand, noEr, sTryAs, unAs, mFld, mIsE, mRepK, kRepK, cmpI, ltI, leI, gtI, geI, isNone, notNone, isN, asB, asT, truD, mNot, mAnd, mOr, vAnd, vOr, vNot, mIf, mNeg, mTup, mTupZ, frz, mLst, mOwn, mCons, mNil, datas, atD_tup, atD_lst, atD_rol, atD_str, seqOf, mNoPart, asI, mSl, slD_tup, slD_lst, slD_rol, slD_str, mIsI, isT, mCB, rds, mCall, mCall0, mMt, chk, isM, mApp, mExt, lenD_str, lenD_tup, lenD_lst, lenD_rol, intD, listD, tupD, mSrc, srcD, rng1, rng2, gTupD, gsCons, gsNil, mChain, thawG, thaw, snapO, MO.below, List.getElem?_cons_succ, List.getElem?_cons_zero, List.length_cons, List.length_nil, List.set_cons_succ, List.set_cons_zero, Int.natAbs_natCast, mTupRev, mCatO, mListO, gItm, minI, maxI, absI, app_take, app_take0, app_get, app_get0, app_set, app_set0, List.take_length, finO_nx, finO_rt, finO_er, finT, finE, su__law_odd_0_0, plc, at_cons0, i0, su__law_odd_0_1, at_tri hp, hl2, su__law_odd_0_2, su__law_odd_0_3, cutD1, cutD2, q1, q2, q3]
  have h4 : 4 ≤ lineN := by decide
  have h3 : 3 ≤ lineN := by decide
  have h2 : 2 ≤ lineN := by decide
  simp (decide := true) [wp_seq, wp_some, kQ_nx, kQ_rt, kQ_bk, kQ_ct, kQ_er, kL_nx, kL_ct, kL_bk, kL_rt, kL_er, sAsg, sE, sRet, sRetN, sDrop, sIf, sNext, sBreak, sCont, sRaise, sRaiseF, sPar, sAug, gSet, mVar, Mm.bind, Mm.ret, bin, op2, rd, orD, addD, addI, subI, i2, modI, divI, powI, s2, addS_small, addS_tup, addS_lst, addS_int, catL, catT, mulD, repS, repL, eqD, neD, okD, okDs, eqd, eqds, flatD, eqD, sTry, sHand, noEr, sTryAs, unAs, mFld, mIsE, mRepK, kRepK, cmpI, ltI, leI, gtI, geI, isNone, notNone, isN, asB, asT, truD, mNot, mAnd, mOr, vAnd, vOr, vNot, mIf, mNeg, mTup, mTupZ, frz, mLst, mOwn, mCons, mNil, datas, atD_tup, atD_lst, atD_rol, atD_str, seqOf, mNoPart, asI, mSl, slD_tup, slD_lst, slD_rol, slD_str, mIsI, isT, mCB, rds, mCall, mCall0, mMt, chk, isM, mApp, mExt, lenD_str, lenD_tup, lenD_lst, lenD_rol, intD, listD, tupD, mSrc, srcD, rng1, rng2, gTupD, gsCons, gsNil, mChain, thawG, thaw, snapO, MO.below, List.getElem?_cons_succ, List.getElem?_cons_zero, List.length_cons, List.length_nil, List.set_cons_succ, List.set_cons_zero, Int.natAbs_natCast, mTupRev, mCatO, mListO, gItm, minI, maxI, absI, app_take, app_take0, app_get, app_get0, app_set, app_set0, List.take_length, finO_nx, finO_rt, finO_er, finT, finE, su__law_odd_0_4, su__law_odd_0_5, su__law_odd_0_6]
  simp (decide := true) [wp_seq, wp_some, kQ_nx, kQ_rt, kQ_bk, kQ_ct, kQ_er, kL_nx, kL_ct, kL_bk, kL_rt, kL_er, sAsg, sE, sRet, sRetN, sDrop, sIf, sNext, sBreak, sCont, sRaise, sRaiseF, sPar, sAug, gSet, mVar, Mm.bind, Mm.ret, bin, op2, rd, orD, addD, addI, subI, i2, modI, divI, powI, s2, addS_small, addS_tup, addS_lst, addS_int, catL, catT, mulD, repS, repL, eqD, neD, okD, okDs, eqd, eqds, flatD, eqD, sTry, sHand, noEr, sTryAs, unAs, mFld, mIsE, mRepK, kRepK, cmpI, ltI, leI, gtI, geI, isNone, notNone, isN, asB, asT, truD, mNot, mAnd, mOr, vAnd, vOr, vNot, mIf, mNeg, mTup, mTupZ, frz, mLst, mOwn, mCons, mNil, datas, atD_tup, atD_lst, atD_rol, atD_str, seqOf, mNoPart, asI, mSl, slD_tup, slD_lst, slD_rol, slD_str, mIsI, isT, mCB, rds, mCall, mCall0, mMt, chk, isM, mApp, mExt, lenD_str, lenD_tup, lenD_lst, lenD_rol, intD, listD, tupD, mSrc, srcD, rng1, rng2, gTupD, gsCons, gsNil, mChain, thawG, thaw, snapO, MO.below, List.getElem?_cons_succ, List.getElem?_cons_zero, List.length_cons, List.length_nil, List.set_cons_succ, List.set_cons_zero, Int.natAbs_natCast, mTupRev, mCatO, mListO, gItm, minI, maxI, absI, app_take, app_take0, app_get, app_get0, app_set, app_set0, List.take_length, finO_nx, finO_rt, finO_er, finT, finE, su__law_odd_0_7, su__law_odd_0_8, su__law_odd_0_9]
  simp (decide := true) [wp_seq, wp_some, kQ_nx, kQ_rt, kQ_bk, kQ_ct, kQ_er, kL_nx, kL_ct, kL_bk, kL_rt, kL_er, sAsg, sE, sRet, sRetN, sDrop, sIf, sNext, sBreak, sCont, sRaise, sRaiseF, sPar, sAug, gSet, mVar, Mm.bind, Mm.ret, bin, op2, rd, orD, addD, addI, subI, i2, modI, divI, powI, s2, addS_small, addS_tup, addS_lst, addS_int, catL, catT, mulD, repS, repL, eqD, neD, okD, okDs, eqd, eqds, flatD, eqD, sTry, sHand, noEr, sTryAs, unAs, mFld, mIsE, mRepK, kRepK, cmpI, ltI, leI, gtI, geI, isNone, notNone, isN, asB, asT, truD, mNot, mAnd, mOr, vAnd, vOr, vNot, mIf, mNeg, mTup, mTupZ, frz, mLst, mOwn, mCons, mNil, datas, atD_tup, atD_lst, atD_rol, atD_str, seqOf, mNoPart, asI, mSl, slD_tup, slD_lst, slD_rol, slD_str, mIsI, isT, mCB, rds, mCall, mCall0, mMt, chk, isM, mApp, mExt, lenD_str, lenD_tup, lenD_lst, lenD_rol, intD, listD, tupD, mSrc, srcD, rng1, rng2, gTupD, gsCons, gsNil, mChain, thawG, thaw, snapO, MO.below, List.getElem?_cons_succ, List.getElem?_cons_zero, List.length_cons, List.length_nil, List.set_cons_succ, List.set_cons_zero, Int.natAbs_natCast, mTupRev, mCatO, mListO, gItm, minI, maxI, absI, app_take, app_take0, app_get, app_get0, app_set, app_set0, List.take_length, finO_nx, finO_rt, finO_er, finT, finE, su__law_odd_0_10, su__law_odd_0_11, hat, hS0]
/-! ### no triples -/
theorem word_no {w : List Nat} {c : Nat} (h : c ∈ w) (hc : ¬ okC c) (hl : w.length ≤ 1000) : den_is_word [.v (.str w)] S = some (.ok (.v (.bl false)) S) := by
  have hS0 := hS _ (Nat.le_refl _)
  have hS1 := hS (S.length + 1) (by omega)
  refine wp_eq (fnD_wp rfl ?_)
  have e : lc_is_word_0 [some (.v (.str w)), none] S = some (.ok (.v (.lst ((w.map fun c => D.bl (decide (c ∈ [97, 98, 99, 100, 101, 102, 103, 104, 105, 106, 107, 108, 109, 110, 111, 112, 113, 114, 115, 116, 117, 118, 119, 120, 121, 122]))) ))) S) := by
    unfold lc_is_word_0
    rw [mLc_map (ds := signs w) (S1 := S) (fun d => match d with | .str [c] => .bl (decide (c ∈ [97, 98, 99, 100, 101, 102, 103, 104, 105, 106, 107, 108, 109, 110, 111, 112, 113, 114, 115, 116, 117, 118, 119, 120, 121, 122])) | _ => .non) (by simp (decide := true) [wp_seq, wp_some, kQ_nx, kQ_rt, kQ_bk, kQ_ct, kQ_er, kL_nx, kL_ct, kL_bk, kL_rt, kL_er, sAsg, sE, sRet, sRetN, sDrop, sIf, sNext, sBreak, sCont, sRaise, sRaiseF, sPar, sAug, gSet, mVar, Mm.bind, Mm.ret, bin, op2, rd, orD, addD, addI, subI, i2, modI, divI, powI, s2, addS_small, addS_tup, addS_lst, addS_int, catL, catT, mulD, repS, repL, eqD, neD, okD, okDs, eqd, eqds, flatD, eqD, sTry, sHand, noEr, sTryAs, unAs, mFld, mIsE, mRepK, kRepK, cmpI, ltI, leI, gtI, geI, isNone, notNone, isN, asB, asT, truD, mNot, mAnd, mOr, vAnd, vOr, vNot, mIf, mNeg, mTup, mTupZ, frz, mLst, mOwn, mCons, mNil, datas, atD_tup, atD_lst, atD_rol, atD_str, seqOf, mNoPart, asI, mSl, slD_tup, slD_lst, slD_rol, slD_str, mIsI, isT, mCB, rds, mCall, mCall0, mMt, chk, isM, mApp, mExt, lenD_str, lenD_tup, lenD_lst, lenD_rol, intD, listD, tupD, mSrc, srcD, rng1, rng2, gTupD, gsCons, gsNil, mChain, thawG, thaw, snapO, MO.below, List.getElem?_cons_succ, List.getElem?_cons_zero, List.length_cons, List.length_nil, List.set_cons_succ, List.set_cons_zero, Int.natAbs_natCast, mTupRev, mCatO, mListO, gItm, minI, maxI, absI, app_take, app_take0, app_get, app_get0, app_set, app_set0, List.take_length, finO_nx, finO_rt, finO_er, finT, finE, hS0]) hS0 hS1 (by rw [lineN_eq]; simp [signs]; omega)]
    · unfold signs
      rw [List.map_map]
      rfl
    · intro d hd acc
      obtain ⟨c, hc, rfl⟩ := List.mem_map.mp hd
      refine ⟨_, rfl, ?_⟩
      have hi : inD (.str [c]) c_LETTERS = some (.bl (decide (c ∈ [97, 98, 99, 100, 101, 102, 103, 104, 105, 106, 107, 108, 109, 110, 111, 112, 113, 114, 115, 116, 117, 118, 119, 120, 121, 122]))) := rfl
      simp (decide := true) only [gSet, wipeG, mVar, Mm.bind, Mm.ret, DL.bin, op2, rd, hi, List.set_cons_succ, List.set_cons_zero, List.getElem?_cons_succ, List.getElem?_cons_zero, Option.map_some, List.length_cons, List.length_nil]
  have h2 := allD_map (fun c : Nat => decide (c ∈ [97, 98, 99, 100, 101, 102, 103, 104, 105, 106, 107, 108, 109, 110, 111, 112, 113, 114, 115, 116, 117, 118, 119, 120, 121, 122])) w
  have h3 : (w.all fun c : Nat => decide (c ∈ [97, 98, 99, 100, 101, 102, 103, 104, 105, 106, 107, 108, 109, 110, 111, 112, 113, 114, 115, 116, 117, 118, 119, 120, 121, 122])) = false := by
    rw [List.all_eq_false]
    exact ⟨c, h, by rw [decide_eq_false (fun z => hc (ab_mem.mp z))]; exact Bool.false_ne_true⟩
  rw [h3] at h2
  generalize (w.map fun c => D.bl (decide (c ∈ [97, 98, 99, 100, 101, 102, 103, 104, 105, 106, 107, 108, 109, 110, 111, 112, 113, 114, 115, 116, 117, 118, 119, 120, 121, 122]))) = L at *
  simp (decide := true) [wp_seq, wp_some, kQ_nx, kQ_rt, kQ_bk, kQ_ct, kQ_er, kL_nx, kL_ct, kL_bk, kL_rt, kL_er, sAsg, sE, sRet, sRetN, sDrop, sIf, sNext, sBreak, sCont, sRaise, sRaiseF, sPar, sAug, gSet, mVar, Mm.bind, Mm.ret, bin, op2, rd, orD, addD, addI, subI, i2, modI, divI, powI, s2, addS_small, addS_tup, addS_lst, addS_int, catL, catT, mulD, repS, repL, eqD, neD, okD, okDs, eqd, eqds, flatD, eqD, sTry, sHand, noEr, sTryAs, unAs, mFld, mIsE, mRepK, kRepK, cmpI, ltI, leI, gtI, geI, isNone, notNone, isN, asB, asT, truD, mNot, mAnd, mOr, vAnd, vOr, vNot, mIf, mNeg, mTup, mTupZ, frz, mLst, mOwn, mCons, mNil, datas, atD_tup, atD_lst, atD_rol, atD_str, seqOf, mNoPart, asI, mSl, slD_tup, slD_lst, slD_rol, slD_str, mIsI, isT, mCB, rds, mCall, mCall0, mMt, chk, isM, mApp, mExt, lenD_str, lenD_tup, lenD_lst, lenD_rol, intD, listD, tupD, mSrc, srcD, rng1, rng2, gTupD, gsCons, gsNil, mChain, thawG, thaw, snapO, MO.below, List.getElem?_cons_succ, List.getElem?_cons_zero, List.length_cons, List.length_nil, List.set_cons_succ, List.set_cons_zero, Int.natAbs_natCast, mTupRev, mCatO, mListO, gItm, minI, maxI, absI, app_take, app_take0, app_get, app_get0, app_set, app_set0, List.take_length, finO_nx, finO_rt, finO_er, finT, finE, su_is_word_0_0, hS0, e, h2]
theorem word_ty {d : D} (h : isT .str d = false) : den_is_word [.v d] S = some (.ok (.v (.bl false)) S) := by
  have hS0 := hS _ (Nat.le_refl _)
  refine wp_eq (fnD_wp rfl ?_)
  cases d <;> first | (simp (decide := true) [wp_seq, wp_some, kQ_nx, kQ_rt, kQ_bk, kQ_ct, kQ_er, kL_nx, kL_ct, kL_bk, kL_rt, kL_er, sAsg, sE, sRet, sRetN, sDrop, sIf, sNext, sBreak, sCont, sRaise, sRaiseF, sPar, sAug, gSet, mVar, Mm.bind, Mm.ret, bin, op2, rd, orD, addD, addI, subI, i2, modI, divI, powI, s2, addS_small, addS_tup, addS_lst, addS_int, catL, catT, mulD, repS, repL, eqD, neD, okD, okDs, eqd, eqds, flatD, eqD, sTry, sHand, noEr, sTryAs, unAs, mFld, mIsE, mRepK, kRepK, cmpI, ltI, leI, gtI, geI, isNone, notNone, isN, asB, asT, truD, mNot, mAnd, mOr, vAnd, vOr, vNot, mIf, mNeg, mTup, mTupZ, frz, mLst, mOwn, mCons, mNil, datas, atD_tup, atD_lst, atD_rol, atD_str, seqOf, mNoPart, asI, mSl, slD_tup, slD_lst, slD_rol, slD_str, mIsI, isT, mCB, rds, mCall, mCall0, mMt, chk, isM, mApp, mExt, lenD_str, lenD_tup, lenD_lst, lenD_rol, intD, listD, tupD, mSrc, srcD, rng1, rng2, gTupD, gsCons, gsNil, mChain, thawG, thaw, snapO, MO.below, List.getElem?_cons_succ, List.getElem?_cons_zero, List.length_cons, List.length_nil, List.set_cons_succ, List.set_cons_zero, Int.natAbs_natCast, mTupRev, mCatO, mListO, gItm, minI, maxI, absI, app_take, app_take0, app_get, app_get0, app_set, app_set0, List.take_length, finO_nx, finO_rt, finO_er, finT, finE, su_is_word_0_0, hS0]; done) | (cases h; done)
theorem triple_by {a b c : D} {x y z : Bool} (ha : ∀ {S}, Cl S → den_is_word [.v a] S = some (.ok (.v (.bl x)) S)) (hb : ∀ {S}, Cl S → den_is_word [.v b] S = some (.ok (.v (.bl y)) S)) (hc : ∀ {S}, Cl S → den_is_word [.v c] S = some (.ok (.v (.bl z)) S)) :
    den_is_triple [.v (.tup [a, b, c])] S = some (.ok (.v (.bl (x && (y && z)))) S) := by
  have hS0 := hS _ (Nat.le_refl _)
  have hS1 := hS (S.length + 1) (by omega)
  have h1 := ha (hS.lst [])
  have h2 := hb (hS.lst [.bl x])
  have h3 := hc (hS.lst [.bl x, .bl y])
  have l3 : 3 ≤ lineN := by decide
  have p0 : 0 < lineN := by decide
  have p1 : 1 < lineN := by decide
  have p2 : 2 < lineN := by decide
  have e : lc_is_triple_0 [some (.v (.tup [a, b, c])), none] S = some (.ok (.v (.lst [.bl x, .bl y, .bl z])) S) := by
    unfold lc_is_triple_0
    simp (decide := true) [wp_seq, wp_some, kQ_nx, kQ_rt, kQ_bk, kQ_ct, kQ_er, kL_nx, kL_ct, kL_bk, kL_rt, kL_er, sAsg, sE, sRet, sRetN, sDrop, sIf, sNext, sBreak, sCont, sRaise, sRaiseF, sPar, sAug, gSet, mVar, Mm.bind, Mm.ret, bin, op2, rd, orD, addD, addI, subI, i2, modI, divI, powI, s2, addS_small, addS_tup, addS_lst, addS_int, catL, catT, mulD, repS, repL, eqD, neD, okD, okDs, eqd, eqds, flatD, eqD, sTry, sHand, noEr, sTryAs, unAs, mFld, mIsE, mRepK, kRepK, cmpI, ltI, leI, gtI, geI, isNone, notNone, isN, asB, asT, truD, mNot, mAnd, mOr, vAnd, vOr, vNot, mIf, mNeg, mTup, mTupZ, frz, mLst, mOwn, mCons, mNil, datas, atD_tup, atD_lst, atD_rol, atD_str, seqOf, mNoPart, asI, mSl, slD_tup, slD_lst, slD_rol, slD_str, mIsI, isT, mCB, rds, mCall, mCall0, mMt, chk, isM, mApp, mExt, lenD_str, lenD_tup, lenD_lst, lenD_rol, intD, listD, tupD, mSrc, srcD, rng1, rng2, gTupD, gsCons, gsNil, mChain, thawG, thaw, snapO, MO.below, List.getElem?_cons_succ, List.getElem?_cons_zero, List.length_cons, List.length_nil, List.set_cons_succ, List.set_cons_zero, Int.natAbs_natCast, mTupRev, mCatO, mListO, gItm, minI, maxI, absI, app_take, app_take0, app_get, app_get0, app_set, app_set0, List.take_length, finO_nx, finO_rt, finO_er, finT, finE, mLc, lcL, wipeG, mYes, h1, h2, h3, hS0, hS1, p0, p1, p2]
  have t1 := tuple_ok hS (ds := [a, b, c]) (a := 3) (b := 3) (by show (3 : Int) ≤ 3; decide) (by show (3 : Int) ≤ 3; decide)
  refine wp_eq (fnD_wp rfl ?_)
  cases x <;> cases y <;> cases z <;> simp (decide := true) [wp_seq, wp_some, kQ_nx, kQ_rt, kQ_bk, kQ_ct, kQ_er, kL_nx, kL_ct, kL_bk, kL_rt, kL_er, sAsg, sE, sRet, sRetN, sDrop, sIf, sNext, sBreak, sCont, sRaise, sRaiseF, sPar, sAug, gSet, mVar, Mm.bind, Mm.ret, bin, op2, rd, orD, addD, addI, subI, i2, modI, divI, powI, s2, addS_small, addS_tup, addS_lst, addS_int, catL, catT, mulD, repS, repL, eqD, neD, okD, okDs, eqd, eqds, flatD, eqD, sTry, sHand, noEr, sTryAs, unAs, mFld, mIsE, mRepK, kRepK, cmpI, ltI, leI, gtI, geI, isNone, notNone, isN, asB, asT, truD, mNot, mAnd, mOr, vAnd, vOr, vNot, mIf, mNeg, mTup, mTupZ, frz, mLst, mOwn, mCons, mNil, datas, atD_tup, atD_lst, atD_rol, atD_str, seqOf, mNoPart, asI, mSl, slD_tup, slD_lst, slD_rol, slD_str, mIsI, isT, mCB, rds, mCall, mCall0, mMt, chk, isM, mApp, mExt, lenD_str, lenD_tup, lenD_lst, lenD_rol, intD, listD, tupD, mSrc, srcD, rng1, rng2, gTupD, gsCons, gsNil, mChain, thawG, thaw, snapO, MO.below, List.getElem?_cons_succ, List.getElem?_cons_zero, List.length_cons, List.length_nil, List.set_cons_succ, List.set_cons_zero, Int.natAbs_natCast, mTupRev, mCatO, mListO, gItm, minI, maxI, absI, app_take, app_take0, app_get, app_get0, app_set, app_set0, List.take_length, finO_nx, finO_rt, finO_er, finT, finE, su_is_triple_0_0, hS0, e, t1, allD, boolsOf]
end
end G

namespace G
open PySem DL
def noL (t : Tri) : List D :=
  [.tup [.str t.x, .str t.y], .tup [.str t.x, .str t.y, .str t.z, .str []], .lst [.str t.x, .str t.y, .str t.z], .tup [.str (t.x ++ [65]), .str t.y, .str t.z], .tup [.str t.x, .non, .str t.z],
   .tup [.str t.x, .str t.y, .int 0], .non, .str t.x, .tup [.str t.x, .tup [.str t.y], .str t.z], .dk (kN ["x"]) [.str t.x]]
section
variable {S : Sto} (hS : Cl S)
include hS
theorem triple_long {ds : List D} (h : 3 < ds.length) : den_is_triple [.v (.tup ds)] S = some (.ok (.v (.bl false)) S) := by
  have hS0 := hS _ (Nat.le_refl _)
  refine wp_eq (fnD_wp rfl ?_)
  have t1 := tuple_hi hS (ds := ds) (a := 3) (b := 3) (by omega)
  simp (decide := true) [wp_seq, wp_some, kQ_nx, kQ_rt, kQ_bk, kQ_ct, kQ_er, kL_nx, kL_ct, kL_bk, kL_rt, kL_er, sAsg, sE, sRet, sRetN, sDrop, sIf, sNext, sBreak, sCont, sRaise, sRaiseF, sPar, sAug, gSet, mVar, Mm.bind, Mm.ret, bin, op2, rd, orD, addD, addI, subI, i2, modI, divI, powI, s2, addS_small, addS_tup, addS_lst, addS_int, catL, catT, mulD, repS, repL, eqD, neD, okD, okDs, eqd, eqds, flatD, eqD, sTry, sHand, noEr, sTryAs, unAs, mFld, mIsE, mRepK, kRepK, cmpI, ltI, leI, gtI, geI, isNone, notNone, isN, asB, asT, truD, mNot, mAnd, mOr, vAnd, vOr, vNot, mIf, mNeg, mTup, mTupZ, frz, mLst, mOwn, mCons, mNil, datas, atD_tup, atD_lst, atD_rol, atD_str, seqOf, mNoPart, asI, mSl, slD_tup, slD_lst, slD_rol, slD_str, mIsI, isT, mCB, rds, mCall, mCall0, mMt, chk, isM, mApp, mExt, lenD_str, lenD_tup, lenD_lst, lenD_rol, intD, listD, tupD, mSrc, srcD, rng1, rng2, gTupD, gsCons, gsNil, mChain, thawG, thaw, snapO, MO.below, List.getElem?_cons_succ, List.getElem?_cons_zero, List.length_cons, List.length_nil, List.set_cons_succ, List.set_cons_zero, Int.natAbs_natCast, mTupRev, mCatO, mListO, gItm, minI, maxI, absI, app_take, app_take0, app_get, app_get0, app_set, app_set0, List.take_length, finO_nx, finO_rt, finO_er, finT, finE, su_is_triple_0_0, hS0, t1]
theorem no_false {t : Tri} (ht : T9 t) : ∀ d ∈ noL t, den_is_triple [.v d] S = some (.ok (.v (.bl false)) S) := by
  have wx : ∀ {S}, Cl S → den_is_word [.v (.str t.x)] S = some (.ok (.v (.bl true)) S) := fun h => word_ok h ht.x (by have := ht.lx; omega)
  have wy : ∀ {S}, Cl S → den_is_word [.v (.str t.y)] S = some (.ok (.v (.bl true)) S) := fun h => word_ok h ht.y (by have := ht.ly; omega)
  have wz : ∀ {S}, Cl S → den_is_word [.v (.str t.z)] S = some (.ok (.v (.bl true)) S) := fun h => word_ok h ht.z (by have := ht.lz; omega)
  intro d hd
  simp only [noL, List.mem_cons, List.not_mem_nil, or_false] at hd
  rcases hd with rfl | rfl | rfl | rfl | rfl | rfl | rfl | rfl | rfl | rfl
  · exact triple_short hS (by show 2 < 3; decide)
  · exact triple_long hS (by show 3 < 4; decide)
  · exact triple_no hS rfl
  · exact triple_by hS (x := false) (fun h => word_no h (c := 65) (by simp) (by unfold okC; omega) (by have := ht.lx; simp; omega)) wy wz
  · exact triple_by hS (y := false) wx (fun h => word_ty h rfl) wz
  · exact triple_by hS (z := false) wx wy (fun h => word_ty h rfl)
  · exact triple_no hS rfl
  · exact triple_no hS rfl
  · exact triple_by hS (y := false) wx (fun h => word_ty h rfl) wz
  · exact triple_no hS rfl
theorem lno_ok {t : Tri} (ht : T9 t) {n : Int} (hn : 0 ≤ n) : ∃ d : D, den__law_no_triple [.v t.d, .v (.int n)] S = some (.ok (.v d) S) ∧ d ∈ noL t := by
  have hS0 := hS _ (Nat.le_refl _)
  have hS1 := hS (S.length + 1) (by omega)
  obtain ⟨d, hd, hat⟩ := atI_mem (l := noL t) (i := n % 10) (by omega) (by show n % 10 < 10; omega)
  refine ⟨d, ?_, hd⟩
  refine wp_eq (fnD_wp rfl ?_)
  simp only [noL] at hat
  have q1 : t.x.length + 1 ≤ lineN := by have := ht.lx; rw [lineN_eq]; omega
  have h4 : 4 ≤ lineN := by decide
  have h3 : 3 ≤ lineN := by decide
  have h2 : 2 ≤ lineN := by decide
  have nd : (["x"] : List Str).Nodup := by decide +kernel
  simp (decide := true) [wp_seq, wp_some, kQ_nx, kQ_rt, kQ_bk, kQ_ct, kQ_er, kL_nx, kL_ct, kL_bk, kL_rt, kL_er, sAsg, sE, sRet, sRetN, sDrop, sIf, sNext, sBreak, sCont, sRaise, sRaiseF, sPar, sAug, gSet, mVar, Mm.bind, Mm.ret, bin, op2, rd, orD, addD, addI, subI, i2, modI, divI, powI, s2, addS_small, addS_tup, addS_lst, addS_int, catL, catT, mulD, repS, repL, eqD, neD, okD, okDs, eqd, eqds, flatD, eqD, sTry, sHand, noEr, sTryAs, unAs, mFld, mIsE, mRepK, kRepK, cmpI, ltI, leI, gtI, geI, isNone, notNone, isN, asB, asT, truD, mNot, mAnd, mOr, vAnd, vOr, vNot, mIf, mNeg, mTup, mTupZ, frz, mLst, mOwn, mCons, mNil, datas, atD_tup, atD_lst, atD_rol, atD_str, seqOf, mNoPart, asI, mSl, slD_tup, slD_lst, slD_rol, slD_str, mIsI, isT, mCB, rds, mCall, mCall0, mMt, chk, isM, mApp, mExt, lenD_str, lenD_tup, lenD_lst, lenD_rol, intD, listD, tupD, mSrc, srcD, rng1, rng2, gTupD, gsCons, gsNil, mChain, thawG, thaw, snapO, MO.below, List.getElem?_cons_succ, List.getElem?_cons_zero, List.length_cons, List.length_nil, List.set_cons_succ, List.set_cons_zero, Int.natAbs_natCast, mTupRev, mCatO, mListO, gItm, minI, maxI, absI, app_take, app_take0, app_get, app_get0, app_set, app_set0, List.take_length, finO_nx, finO_rt, finO_er, finT, finE, su__law_no_triple_0_0, Tri.d, trD, su__law_no_triple_0_1, q1, h4, h3, h2]
  simp (decide := true) [wp_seq, wp_some, kQ_nx, kQ_rt, kQ_bk, kQ_ct, kQ_er, kL_nx, kL_ct, kL_bk, kL_rt, kL_er, sAsg, sE, sRet, sRetN, sDrop, sIf, sNext, sBreak, sCont, sRaise, sRaiseF, sPar, sAug, gSet, mVar, Mm.bind, Mm.ret, bin, op2, rd, orD, addD, addI, subI, i2, modI, divI, powI, s2, addS_small, addS_tup, addS_lst, addS_int, catL, catT, mulD, repS, repL, eqD, neD, okD, okDs, eqd, eqds, flatD, eqD, sTry, sHand, noEr, sTryAs, unAs, mFld, mIsE, mRepK, kRepK, cmpI, ltI, leI, gtI, geI, isNone, notNone, isN, asB, asT, truD, mNot, mAnd, mOr, vAnd, vOr, vNot, mIf, mNeg, mTup, mTupZ, frz, mLst, mOwn, mCons, mNil, datas, atD_tup, atD_lst, atD_rol, atD_str, seqOf, mNoPart, asI, mSl, slD_tup, slD_lst, slD_rol, slD_str, mIsI, isT, mCB, rds, mCall, mCall0, mMt, chk, isM, mApp, mExt, lenD_str, lenD_tup, lenD_lst, lenD_rol, intD, listD, tupD, mSrc, srcD, rng1, rng2, gTupD, gsCons, gsNil, mChain, thawG, thaw, snapO, MO.below, List.getElem?_cons_succ, List.getElem?_cons_zero, List.length_cons, List.length_nil, List.set_cons_succ, List.set_cons_zero, Int.natAbs_natCast, mTupRev, mCatO, mListO, gItm, minI, maxI, absI, app_take, app_take0, app_get, app_get0, app_set, app_set0, List.take_length, finO_nx, finO_rt, finO_er, finT, finE, su__law_no_triple_0_2, mDisp, dk0, hS1, nd]
  simp (decide := true) [wp_seq, wp_some, kQ_nx, kQ_rt, kQ_bk, kQ_ct, kQ_er, kL_nx, kL_ct, kL_bk, kL_rt, kL_er, sAsg, sE, sRet, sRetN, sDrop, sIf, sNext, sBreak, sCont, sRaise, sRaiseF, sPar, sAug, gSet, mVar, Mm.bind, Mm.ret, bin, op2, rd, orD, addD, addI, subI, i2, modI, divI, powI, s2, addS_small, addS_tup, addS_lst, addS_int, catL, catT, mulD, repS, repL, eqD, neD, okD, okDs, eqd, eqds, flatD, eqD, sTry, sHand, noEr, sTryAs, unAs, mFld, mIsE, mRepK, kRepK, cmpI, ltI, leI, gtI, geI, isNone, notNone, isN, asB, asT, truD, mNot, mAnd, mOr, vAnd, vOr, vNot, mIf, mNeg, mTup, mTupZ, frz, mLst, mOwn, mCons, mNil, datas, atD_tup, atD_lst, atD_rol, atD_str, seqOf, mNoPart, asI, mSl, slD_tup, slD_lst, slD_rol, slD_str, mIsI, isT, mCB, rds, mCall, mCall0, mMt, chk, isM, mApp, mExt, lenD_str, lenD_tup, lenD_lst, lenD_rol, intD, listD, tupD, mSrc, srcD, rng1, rng2, gTupD, gsCons, gsNil, mChain, thawG, thaw, snapO, MO.below, List.getElem?_cons_succ, List.getElem?_cons_zero, List.length_cons, List.length_nil, List.set_cons_succ, List.set_cons_zero, Int.natAbs_natCast, mTupRev, mCatO, mListO, gItm, minI, maxI, absI, app_take, app_take0, app_get, app_get0, app_set, app_set0, List.take_length, finO_nx, finO_rt, finO_er, finT, finE, su__law_no_triple_0_3, hat, hS0]
end
end G

namespace G
open PySem DL
section
variable {S : Sto} (hS : Cl S)
include hS
theorem ltri_ok (ns : List Int) {base : Int} (hb : 0 ≤ base) (hb2 : base < 900) : ∃ t : Tri, den__law_triple [.v (.rol (ns.map .int)), .v (.int base)] S = some (.ok (.v t.d) S) ∧ T9 t := by
  have hS0 := hS _ (Nat.le_refl _)
  have key : wp (den__law_triple [.v (.rol (ns.map .int)), .v (.int base)] S) fun r => ∃ t : Tri, r = .ok (.v t.d) S ∧ T9 t := by
    refine fnD_wp rfl ?_
    generalize hQ : (fun o => wp (finO S.length o) _) = Q
    obtain ⟨X, eX, hX, hX0⟩ := numbers_ok ns base hb (by omega) hS
    obtain ⟨Y, eY, hY, hY0⟩ := numbers_ok ns (base + 1) (by omega) (by omega) hS
    obtain ⟨y0, i0, a0⟩ := atI_map (f := D.int) (l := Y) (i := 0) (by omega) (by omega)
    obtain ⟨y1, i1, a1⟩ := atI_map (f := D.int) (l := Y) (i := 1) (by omega) (by omega)
    obtain ⟨y2, i2', a2⟩ := atI_map (f := D.int) (l := Y) (i := 2) (by omega) (by omega)
    obtain ⟨y3, i3, a3⟩ := atI_map (f := D.int) (l := Y) (i := 3) (by omega) (by omega)
    obtain ⟨y4, i4, a4⟩ := atI_map (f := D.int) (l := Y) (i := 4) (by omega) (by omega)
    have p0 := hY0 y0 (List.mem_of_getElem? i0)
    have p1 := hY0 y1 (List.mem_of_getElem? i1)
    have p3 := hY0 y3 (List.mem_of_getElem? i3)
    have p4 := hY0 y4 (List.mem_of_getElem? i4)
    obtain ⟨l, el, l2, l3, lw⟩ := letters_ok hS (n := y0) p0.1
    obtain ⟨m, hm, hm9⟩ : ∃ m : Nat, L2.atI [D.int 2, .int 4, .int 6, .int 9] (y1 % 4) = some (.int (m : Nat)) ∧ m ≤ 9 := by
      have : y1 % 4 = 0 ∨ y1 % 4 = 1 ∨ y1 % 4 = 2 ∨ y1 % 4 = 3 := by omega
      rcases this with h | h | h | h <;> rw [h]
      · exact ⟨2, rfl, by decide⟩
      · exact ⟨4, rfl, by decide⟩
      · exact ⟨6, rfl, by decide⟩
      · exact ⟨9, rfl, by decide⟩
    obtain ⟨a, b, c, d, M, ew, ⟨wa, wb, wc, wd⟩, la, lb, lc⟩ := woven_ok hS hX hX0 hm9 l2 l3 lw
    have h4 : 4 ≤ lineN := by decide
    have h3 : 3 ≤ lineN := by decide
    have hal : a.length ≤ lineN := by rw [lineN_eq]; omega
    have hll : l.length ≤ lineN := by rw [lineN_eq]; omega
    have hav := okW_vc wa
    have fin : ∀ (x : List Nat) (j8 : Option SV), okW x → x.length ≤ 9 → wp (su__law_triple_0_6 [some (.v (.rol (ns.map .int))), some (.v (.int base)), some (.v (.lst (X.map .int))), some (.v (.lst (Y.map .int))), some (.v (.str l)), some (.v (.lst [.str a, .str b, .str c, .str d])), some (.v (.lst M)), some (.v (.str x)), j8] S) Q := by
      intro x j8 hx hxl
      simp (decide := true) [wp_seq, wp_some, kQ_nx, kQ_rt, kQ_bk, kQ_ct, kQ_er, kL_nx, kL_ct, kL_bk, kL_rt, kL_er, sAsg, sE, sRet, sRetN, sDrop, sIf, sNext, sBreak, sCont, sRaise, sRaiseF, sPar, sAug, gSet, mVar, Mm.bind, Mm.ret, bin, op2, rd, orD, addD, addI, subI, i2, modI, divI, powI, s2, addS_small, addS_tup, addS_lst, addS_int, catL, catT, mulD, repS, repL, eqD, neD, okD, okDs, eqd, eqds, flatD, eqD, sTry, sHand, noEr, sTryAs, unAs, mFld, mIsE, mRepK, kRepK, cmpI, ltI, leI, gtI, geI, isNone, notNone, isN, asB, asT, truD, mNot, mAnd, mOr, vAnd, vOr, vNot, mIf, mNeg, mTup, mTupZ, frz, mLst, mOwn, mCons, mNil, datas, atD_tup, atD_lst, atD_rol, atD_str, seqOf, mNoPart, asI, mSl, slD_tup, slD_lst, slD_rol, slD_str, mIsI, isT, mCB, rds, mCall, mCall0, mMt, chk, isM, mApp, mExt, lenD_str, lenD_tup, lenD_lst, lenD_rol, intD, listD, tupD, mSrc, srcD, rng1, rng2, gTupD, gsCons, gsNil, mChain, thawG, thaw, snapO, MO.below, List.getElem?_cons_succ, List.getElem?_cons_zero, List.length_cons, List.length_nil, List.set_cons_succ, List.set_cons_zero, Int.natAbs_natCast, mTupRev, mCatO, mListO, gItm, minI, maxI, absI, app_take, app_take0, app_get, app_get0, app_set, app_set0, List.take_length, finO_nx, finO_rt, finO_er, finT, finE, su__law_triple_0_6, at4_1, at4_2, h3]
      subst hQ
      exact ⟨_, by simp (decide := true) [wp_seq, wp_some, kQ_nx, kQ_rt, kQ_bk, kQ_ct, kQ_er, kL_nx, kL_ct, kL_bk, kL_rt, kL_er, sAsg, sE, sRet, sRetN, sDrop, sIf, sNext, sBreak, sCont, sRaise, sRaiseF, sPar, sAug, gSet, mVar, Mm.bind, Mm.ret, bin, op2, rd, orD, addD, addI, subI, i2, modI, divI, powI, s2, addS_small, addS_tup, addS_lst, addS_int, catL, catT, mulD, repS, repL, eqD, neD, okD, okDs, eqd, eqds, flatD, eqD, sTry, sHand, noEr, sTryAs, unAs, mFld, mIsE, mRepK, kRepK, cmpI, ltI, leI, gtI, geI, isNone, notNone, isN, asB, asT, truD, mNot, mAnd, mOr, vAnd, vOr, vNot, mIf, mNeg, mTup, mTupZ, frz, mLst, mOwn, mCons, mNil, datas, atD_tup, atD_lst, atD_rol, atD_str, seqOf, mNoPart, asI, mSl, slD_tup, slD_lst, slD_rol, slD_str, mIsI, isT, mCB, rds, mCall, mCall0, mMt, chk, isM, mApp, mExt, lenD_str, lenD_tup, lenD_lst, lenD_rol, intD, listD, tupD, mSrc, srcD, rng1, rng2, gTupD, gsCons, gsNil, mChain, thawG, thaw, snapO, MO.below, List.getElem?_cons_succ, List.getElem?_cons_zero, List.length_cons, List.length_nil, List.set_cons_succ, List.set_cons_zero, Int.natAbs_natCast, mTupRev, mCatO, mListO, gItm, minI, maxI, absI, app_take, app_take0, app_get, app_get0, app_set, app_set0, List.take_length, finO_nx, finO_rt, finO_er, finT, finE, hS0] <;> rfl, ⟨x, b, c⟩, rfl, hx, wb, wc, hxl, lb, lc⟩
    unfold wl at ew
    simp (decide := true) [wp_seq, wp_some, kQ_nx, kQ_rt, kQ_bk, kQ_ct, kQ_er, kL_nx, kL_ct, kL_bk, kL_rt, kL_er, sAsg, sE, sRet, sRetN, sDrop, sIf, sNext, sBreak, sCont, sRaise, sRaiseF, sPar, sAug, gSet, mVar, Mm.bind, Mm.ret, bin, op2, rd, orD, addD, addI, subI, i2, modI, divI, powI, s2, addS_small, addS_tup, addS_lst, addS_int, catL, catT, mulD, repS, repL, eqD, neD, okD, okDs, eqd, eqds, flatD, eqD, sTry, sHand, noEr, sTryAs, unAs, mFld, mIsE, mRepK, kRepK, cmpI, ltI, leI, gtI, geI, isNone, notNone, isN, asB, asT, truD, mNot, mAnd, mOr, vAnd, vOr, vNot, mIf, mNeg, mTup, mTupZ, frz, mLst, mOwn, mCons, mNil, datas, atD_tup, atD_lst, atD_rol, atD_str, seqOf, mNoPart, asI, mSl, slD_tup, slD_lst, slD_rol, slD_str, mIsI, isT, mCB, rds, mCall, mCall0, mMt, chk, isM, mApp, mExt, lenD_str, lenD_tup, lenD_lst, lenD_rol, intD, listD, tupD, mSrc, srcD, rng1, rng2, gTupD, gsCons, gsNil, mChain, thawG, thaw, snapO, MO.below, List.getElem?_cons_succ, List.getElem?_cons_zero, List.length_cons, List.length_nil, List.set_cons_succ, List.set_cons_zero, Int.natAbs_natCast, mTupRev, mCatO, mListO, gItm, minI, maxI, absI, app_take, app_take0, app_get, app_get0, app_set, app_set0, List.take_length, finO_nx, finO_rt, finO_er, finT, finE, su__law_triple_0_0, eX, su__law_triple_0_1, eY, su__law_triple_0_2, a0, el, su__law_triple_0_3, h4, a1, hm, ew, su__law_triple_0_4, at4_0]
    by_cases c2 : y2 % 3 = 0
    · by_cases ha : a = []
      · subst ha
        simp (decide := true) [wp_seq, wp_some, kQ_nx, kQ_rt, kQ_bk, kQ_ct, kQ_er, kL_nx, kL_ct, kL_bk, kL_rt, kL_er, sAsg, sE, sRet, sRetN, sDrop, sIf, sNext, sBreak, sCont, sRaise, sRaiseF, sPar, sAug, gSet, mVar, Mm.bind, Mm.ret, bin, op2, rd, orD, addD, addI, subI, i2, modI, divI, powI, s2, addS_small, addS_tup, addS_lst, addS_int, catL, catT, mulD, repS, repL, eqD, neD, okD, okDs, eqd, eqds, flatD, eqD, sTry, sHand, noEr, sTryAs, unAs, mFld, mIsE, mRepK, kRepK, cmpI, ltI, leI, gtI, geI, isNone, notNone, isN, asB, asT, truD, mNot, mAnd, mOr, vAnd, vOr, vNot, mIf, mNeg, mTup, mTupZ, frz, mLst, mOwn, mCons, mNil, datas, atD_tup, atD_lst, atD_rol, atD_str, seqOf, mNoPart, asI, mSl, slD_tup, slD_lst, slD_rol, slD_str, mIsI, isT, mCB, rds, mCall, mCall0, mMt, chk, isM, mApp, mExt, lenD_str, lenD_tup, lenD_lst, lenD_rol, intD, listD, tupD, mSrc, srcD, rng1, rng2, gTupD, gsCons, gsNil, mChain, thawG, thaw, snapO, MO.below, List.getElem?_cons_succ, List.getElem?_cons_zero, List.length_cons, List.length_nil, List.set_cons_succ, List.set_cons_zero, Int.natAbs_natCast, mTupRev, mCatO, mListO, gItm, minI, maxI, absI, app_take, app_take0, app_get, app_get0, app_set, app_set0, List.take_length, finO_nx, finO_rt, finO_er, finT, finE, su__law_triple_0_5, a2, c2]
        exact fin [] none okW_nil (by simp)
      · have hne : (a == []) = false := by simpa using ha
        have hlen : 0 < a.length := List.length_pos_iff.mpr ha
        have hlen' : (0 : Int) < (a.length : Int) := by omega
        obtain ⟨q, hq, hql⟩ := nth_mod (n := y3) (w := a.length) p3.1 hlen
        obtain ⟨cc, hcc, hat⟩ := at_str (l := l) (i := y4 % (l.length : Nat)) (Int.emod_nonneg _ (by omega)) (Int.emod_lt_of_pos _ (by omega))
        have hl0 : (0 : Int) < l.length := by omega
        have hl0' : 0 < l.length := by omega
        simp (decide := true) (disch := (first | omega | ((try simp only [List.length_append, List.length_cons, List.length_nil, List.length_take, List.length_drop, lineN_eq]); omega))) [wp_seq, wp_some, kQ_nx, kQ_rt, kQ_bk, kQ_ct, kQ_er, kL_nx, kL_ct, kL_bk, kL_rt, kL_er, sAsg, sE, sRet, sRetN, sDrop, sIf, sNext, sBreak, sCont, sRaise, sRaiseF, sPar, sAug, gSet, mVar, Mm.bind, Mm.ret, bin, op2, rd, orD, addD, addI, subI, i2, modI, divI, powI, s2, addS_small, addS_tup, addS_lst, addS_int, catL, catT, mulD, repS, repL, eqD, neD, okD, okDs, eqd, eqds, flatD, eqD, sTry, sHand, noEr, sTryAs, unAs, mFld, mIsE, mRepK, kRepK, cmpI, ltI, leI, gtI, geI, isNone, notNone, isN, asB, asT, truD, mNot, mAnd, mOr, vAnd, vOr, vNot, mIf, mNeg, mTup, mTupZ, frz, mLst, mOwn, mCons, mNil, datas, atD_tup, atD_lst, atD_rol, atD_str, seqOf, mNoPart, asI, mSl, slD_tup, slD_lst, slD_rol, slD_str, mIsI, isT, mCB, rds, mCall, mCall0, mMt, chk, isM, mApp, mExt, lenD_str, lenD_tup, lenD_lst, lenD_rol, intD, listD, tupD, mSrc, srcD, rng1, rng2, gTupD, gsCons, gsNil, mChain, thawG, thaw, snapO, MO.below, List.getElem?_cons_succ, List.getElem?_cons_zero, List.length_cons, List.length_nil, List.set_cons_succ, List.set_cons_zero, Int.natAbs_natCast, mTupRev, mCatO, mListO, gItm, minI, maxI, absI, app_take, app_take0, app_get, app_get0, app_set, app_set0, List.take_length, finO_nx, finO_rt, finO_er, finT, finE, mulI_small, su__law_triple_0_5, a2, c2, hav, hne, ha, su__law_triple_1_0, a3, hal, hlen, hlen', hq, su__law_triple_1_1, a4, hll, hl0, hl0', hat, cut_take, cut_drop1]
        have := fin (a.take q ++ [cc] ++ a.drop (q + 1)) (some (.v (.int q))) (okW_app (okW_app (okW_take wa q) (okW_one (lw cc hcc))) (okW_drop wa (q + 1))) (by rw [rep_len _ _ _ hql]; omega)
        simpa using this
    · simp (decide := true) [wp_seq, wp_some, kQ_nx, kQ_rt, kQ_bk, kQ_ct, kQ_er, kL_nx, kL_ct, kL_bk, kL_rt, kL_er, sAsg, sE, sRet, sRetN, sDrop, sIf, sNext, sBreak, sCont, sRaise, sRaiseF, sPar, sAug, gSet, mVar, Mm.bind, Mm.ret, bin, op2, rd, orD, addD, addI, subI, i2, modI, divI, powI, s2, addS_small, addS_tup, addS_lst, addS_int, catL, catT, mulD, repS, repL, eqD, neD, okD, okDs, eqd, eqds, flatD, eqD, sTry, sHand, noEr, sTryAs, unAs, mFld, mIsE, mRepK, kRepK, cmpI, ltI, leI, gtI, geI, isNone, notNone, isN, asB, asT, truD, mNot, mAnd, mOr, vAnd, vOr, vNot, mIf, mNeg, mTup, mTupZ, frz, mLst, mOwn, mCons, mNil, datas, atD_tup, atD_lst, atD_rol, atD_str, seqOf, mNoPart, asI, mSl, slD_tup, slD_lst, slD_rol, slD_str, mIsI, isT, mCB, rds, mCall, mCall0, mMt, chk, isM, mApp, mExt, lenD_str, lenD_tup, lenD_lst, lenD_rol, intD, listD, tupD, mSrc, srcD, rng1, rng2, gTupD, gsCons, gsNil, mChain, thawG, thaw, snapO, MO.below, List.getElem?_cons_succ, List.getElem?_cons_zero, List.length_cons, List.length_nil, List.set_cons_succ, List.set_cons_zero, Int.natAbs_natCast, mTupRev, mCatO, mListO, gItm, minI, maxI, absI, app_take, app_take0, app_get, app_get0, app_set, app_set0, List.take_length, finO_nx, finO_rt, finO_er, finT, finE, su__law_triple_0_5, a2, c2]
      exact fin a none wa la
  obtain ⟨r, e, t, rfl, h⟩ := key
  exact ⟨t, e, h⟩
end
end G

namespace G
open PySem DL
theorem okL_flat {l : List D} {n : Nat} (hl : l.length ≤ lineN) (h : ∀ d ∈ l, plainT d ∧ kids d = []) : okL (n + 1) l := by
  refine ⟨hl, fun d hd => (h d hd).1, ?_⟩
  have : l.flatMap kids = [] := by
    rw [List.flatMap_eq_nil_iff]
    exact fun d hd => (h d hd).2
  rw [this]
  exact okL_nil n
theorem okL_told {a : List Nat} (ha : vcB a = true) {x : D} {n : Nat} (hx : plainT x) (h : okL n (kids x)) : okL (n + 2) [.tup [.str a, x]] := by
  refine ⟨(by decide : 1 ≤ lineN), fun d hd => ?_, (by decide : 2 ≤ lineN), fun d hd => ?_, ?_⟩
  · simp at hd; subst hd; trivial
  · simp [kids] at hd
    rcases hd with rfl | rfl
    · exact ha
    · exact hx
  · simpa [kids] using h
theorem okL_tri {t : Tri} (h : T9 t) : okL 30 [.tup [.str told, t.d]] := okL_told (by decide) trivial (okL_flat (n := 27) (by show 3 ≤ lineN; decide) (by
  intro d hd
  simp [kids, Tri.d, trD] at hd
  rcases hd with rfl | rfl | rfl
  · exact ⟨okW_vc h.x, rfl⟩
  · exact ⟨okW_vc h.y, rfl⟩
  · exact ⟨okW_vc h.z, rfl⟩))
theorem plc_vc {p : Nat} (h : p < 3) : vcB (plc p) = true := vcB_of fun c hc => by simp [plc] at hc; omega
theorem okL_ed {t : Tri} {e : Ed} (h : e.ok t) : okL 30 [.tup [.str told, e.d]] := by
  cases e with
  | put p a c => exact okL_told (by decide) trivial (okL_flat (n := 27) (by show 4 ≤ lineN; decide) (by
      intro d hd
      simp [kids, Ed.d] at hd
      rcases hd with rfl | rfl | rfl | rfl
      · exact ⟨plc_vc h.1, rfl⟩
      · exact ⟨by show vcB kput = true; decide, rfl⟩
      · exact ⟨trivial, rfl⟩
      · exact ⟨okW_vc (okW_one h.2.2), rfl⟩))
  | cut p a => exact okL_told (by decide) trivial (okL_flat (n := 27) (by show 3 ≤ lineN; decide) (by
      intro d hd
      simp [kids, Ed.d] at hd
      rcases hd with rfl | rfl | rfl
      · exact ⟨plc_vc h.1, rfl⟩
      · exact ⟨by show vcB kcut = true; decide, rfl⟩
      · exact ⟨trivial, rfl⟩))
  | turn p a c => exact okL_told (by decide) trivial (okL_flat (n := 27) (by show 4 ≤ lineN; decide) (by
      intro d hd
      simp [kids, Ed.d] at hd
      rcases hd with rfl | rfl | rfl | rfl
      · exact ⟨plc_vc h.1, rfl⟩
      · exact ⟨by show vcB kturn = true; decide, rfl⟩
      · exact ⟨trivial, rfl⟩
      · exact ⟨okW_vc (okW_one h.2.2), rfl⟩))
theorem mul12 (i : Nat) (hi : i < 10) : mulD (.int 12) (.int i) = some (.int (12 * i)) := by
  unfold mulD orD
  rw [mulI_small (by decide) (by omega)]
def gl (ns : List Int) (k : Int) (t : Tri) (X : List Int) (l : List Nat) (j5 j6 j7 j8 j9 : Option SV) : Sl :=
  [some (.v (.rol (ns.map .int))), some (.v (.int k)), some (.v t.d), some (.v (.lst (X.map .int))), some (.v (.str l)), j5, j6, j7, j8, j9]
theorem turns (ns : List Int) (k : Int) {f : Tri} {X : List Int} {l : List Nat} (hf : T9 f) (hX : X.length = 40) (hX0 : ∀ z ∈ X, 0 ≤ z ∧ z < 2147483648) (l2 : 2 ≤ l.length) (l3 : l.length ≤ 3) (lw : okW l) {j5 j6 j7 j8 j9 : Option SV} {Q : Out → Prop}
    (fin : ∀ t j5 j6 j7 j8 j9, Q (.nx (gl ns k t X l j5 j6 j7 j8 j9) [])) :
    wp (su_law_1_4 (gl ns k f X l j5 j6 j7 j8 j9) []) Q := by
  unfold su_law_1_4
  refine wp_for (fun i G S => ∃ (t : Tri) (j5 j6 j7 j8 j9 : Option SV), T9 t ∧ G = gl ns k t X l j5 j6 j7 j8 j9 ∧ S = []) (ds := rngD 0 8) (S1 := []) (by simp (decide := true) [wp_seq, wp_some, kQ_nx, kQ_rt, kQ_bk, kQ_ct, kQ_er, kL_nx, kL_ct, kL_bk, kL_rt, kL_er, sAsg, sE, sRet, sRetN, sDrop, sIf, sNext, sBreak, sCont, sRaise, sRaiseF, sPar, sAug, gSet, mVar, Mm.bind, Mm.ret, bin, op2, rd, orD, addD, addI, subI, i2, modI, divI, powI, s2, addS_small, addS_tup, addS_lst, addS_int, catL, catT, mulD, repS, repL, eqD, neD, okD, okDs, eqd, eqds, flatD, eqD, sTry, sHand, noEr, sTryAs, unAs, mFld, mIsE, mRepK, kRepK, cmpI, ltI, leI, gtI, geI, isNone, notNone, isN, asB, asT, truD, mNot, mAnd, mOr, vAnd, vOr, vNot, mIf, mNeg, mTup, mTupZ, frz, mLst, mOwn, mCons, mNil, datas, atD_tup, atD_lst, atD_rol, atD_str, seqOf, mNoPart, asI, mSl, slD_tup, slD_lst, slD_rol, slD_str, mIsI, isT, mCB, rds, mCall, mCall0, mMt, chk, isM, mApp, mExt, lenD_str, lenD_tup, lenD_lst, lenD_rol, intD, listD, tupD, mSrc, srcD, rng1, rng2, gTupD, gsCons, gsNil, mChain, thawG, thaw, snapO, MO.below, List.getElem?_cons_succ, List.getElem?_cons_zero, List.length_cons, List.length_nil, List.set_cons_succ, List.set_cons_zero, Int.natAbs_natCast, mTupRev, mCatO, mListO, gItm, minI, maxI, absI, app_take, app_take0, app_get, app_get0, app_set, app_set0, List.take_length, finO_nx, finO_rt, finO_er, finT, finE, gl]) ⟨f, _, _, _, _, _, hf, rfl, rfl⟩ ?_ ?_
  · rintro i d G S hd ⟨t, j5, j6, j7, j8, j9, ht, rfl, rfl⟩
    obtain ⟨hi, rfl⟩ := rngD_get hd
    generalize hR : kL _ _ _ = R
    have hC := Cl.nil
    obtain ⟨y, hy, ay⟩ := atI_map (f := D.int) (l := X) (i := (i : Int)) (by omega) (by omega)
    obtain ⟨y1, hy1, ay1⟩ := atI_map (f := D.int) (l := X) (i := 10 + (i : Int)) (by omega) (by omega)
    obtain ⟨y2, hy2, ay2⟩ := atI_map (f := D.int) (l := X) (i := 20 + (i : Int)) (by omega) (by omega)
    obtain ⟨e, ee, eok, e9⟩ := edit_ok hC ht (n := y) (hX0 y (List.mem_of_getElem? hy)).1 l2 l3 lw
    have hp : e.p < 3 := by cases e <;> exact eok.1
    obtain ⟨od, eo, ho⟩ := lodd_ok hC ht.ok hp (n := y1) (hX0 y1 (List.mem_of_getElem? hy1)).1
    obtain ⟨bd, eb, hb⟩ := lno_ok hC ht (n := y2) (hX0 y2 (List.mem_of_getElem? hy2)).1
    have no1 := odd_no hC ht.ok hp od ho
    have no2 := no_false hC ht bd hb
    have h2 : 2 ≤ lineN := by decide
    have r1 := isedit_ok hC ht.ok eok
    have r2 := told_ok hC ht.ok eok
    have s2 := same_ok _ (okL_tri e9) hC
    have r3 := isedit_bad hC ht.ok no1
    have r4 := told_bad hC ht.ok no1
    have r5 := refused_ok hC no2
    have r6 := told_tri hC (x := od) no2
    have r7 := lawed_ok hC ht.ok eok
    unfold told at r2 s2
    unfold nEdit at r4
    unfold nTrip at r6
    simp (decide := true) [wp_seq, wp_some, kQ_nx, kQ_rt, kQ_bk, kQ_ct, kQ_er, kL_nx, kL_ct, kL_bk, kL_rt, kL_er, sAsg, sE, sRet, sRetN, sDrop, sIf, sNext, sBreak, sCont, sRaise, sRaiseF, sPar, sAug, gSet, mVar, Mm.bind, Mm.ret, bin, op2, rd, orD, addD, addI, subI, i2, modI, divI, powI, s2, addS_small, addS_tup, addS_lst, addS_int, catL, catT, mulD, repS, repL, eqD, neD, okD, okDs, eqd, eqds, flatD, eqD, sTry, sHand, noEr, sTryAs, unAs, mFld, mIsE, mRepK, kRepK, cmpI, ltI, leI, gtI, geI, isNone, notNone, isN, asB, asT, truD, mNot, mAnd, mOr, vAnd, vOr, vNot, mIf, mNeg, mTup, mTupZ, frz, mLst, mOwn, mCons, mNil, datas, atD_tup, atD_lst, atD_rol, atD_str, seqOf, mNoPart, asI, mSl, slD_tup, slD_lst, slD_rol, slD_str, mIsI, isT, mCB, rds, mCall, mCall0, mMt, chk, isM, mApp, mExt, lenD_str, lenD_tup, lenD_lst, lenD_rol, intD, listD, tupD, mSrc, srcD, rng1, rng2, gTupD, gsCons, gsNil, mChain, thawG, thaw, snapO, MO.below, List.getElem?_cons_succ, List.getElem?_cons_zero, List.length_cons, List.length_nil, List.set_cons_succ, List.set_cons_zero, Int.natAbs_natCast, mTupRev, mCatO, mListO, gItm, minI, maxI, absI, app_take, app_take0, app_get, app_get0, app_set, app_set0, List.take_length, finO_nx, finO_rt, finO_er, finT, finE, su_law_3_0, gl, ay, ee, su_law_3_1, r7, su_law_3_2, r1, r2, s2, h2]
    simp (decide := true) [wp_seq, wp_some, kQ_nx, kQ_rt, kQ_bk, kQ_ct, kQ_er, kL_nx, kL_ct, kL_bk, kL_rt, kL_er, sAsg, sE, sRet, sRetN, sDrop, sIf, sNext, sBreak, sCont, sRaise, sRaiseF, sPar, sAug, gSet, mVar, Mm.bind, Mm.ret, bin, op2, rd, orD, addD, addI, subI, i2, modI, divI, powI, s2, addS_small, addS_tup, addS_lst, addS_int, catL, catT, mulD, repS, repL, eqD, neD, okD, okDs, eqd, eqds, flatD, eqD, sTry, sHand, noEr, sTryAs, unAs, mFld, mIsE, mRepK, kRepK, cmpI, ltI, leI, gtI, geI, isNone, notNone, isN, asB, asT, truD, mNot, mAnd, mOr, vAnd, vOr, vNot, mIf, mNeg, mTup, mTupZ, frz, mLst, mOwn, mCons, mNil, datas, atD_tup, atD_lst, atD_rol, atD_str, seqOf, mNoPart, asI, mSl, slD_tup, slD_lst, slD_rol, slD_str, mIsI, isT, mCB, rds, mCall, mCall0, mMt, chk, isM, mApp, mExt, lenD_str, lenD_tup, lenD_lst, lenD_rol, intD, listD, tupD, mSrc, srcD, rng1, rng2, gTupD, gsCons, gsNil, mChain, thawG, thaw, snapO, MO.below, List.getElem?_cons_succ, List.getElem?_cons_zero, List.length_cons, List.length_nil, List.set_cons_succ, List.set_cons_zero, Int.natAbs_natCast, mTupRev, mCatO, mListO, gItm, minI, maxI, absI, app_take, app_take0, app_get, app_get0, app_set, app_set0, List.take_length, finO_nx, finO_rt, finO_er, finT, finE, su_law_3_3, ay1, eo, su_law_3_4, r3, r4, h2]
    simp (decide := true) [wp_seq, wp_some, kQ_nx, kQ_rt, kQ_bk, kQ_ct, kQ_er, kL_nx, kL_ct, kL_bk, kL_rt, kL_er, sAsg, sE, sRet, sRetN, sDrop, sIf, sNext, sBreak, sCont, sRaise, sRaiseF, sPar, sAug, gSet, mVar, Mm.bind, Mm.ret, bin, op2, rd, orD, addD, addI, subI, i2, modI, divI, powI, s2, addS_small, addS_tup, addS_lst, addS_int, catL, catT, mulD, repS, repL, eqD, neD, okD, okDs, eqd, eqds, flatD, eqD, sTry, sHand, noEr, sTryAs, unAs, mFld, mIsE, mRepK, kRepK, cmpI, ltI, leI, gtI, geI, isNone, notNone, isN, asB, asT, truD, mNot, mAnd, mOr, vAnd, vOr, vNot, mIf, mNeg, mTup, mTupZ, frz, mLst, mOwn, mCons, mNil, datas, atD_tup, atD_lst, atD_rol, atD_str, seqOf, mNoPart, asI, mSl, slD_tup, slD_lst, slD_rol, slD_str, mIsI, isT, mCB, rds, mCall, mCall0, mMt, chk, isM, mApp, mExt, lenD_str, lenD_tup, lenD_lst, lenD_rol, intD, listD, tupD, mSrc, srcD, rng1, rng2, gTupD, gsCons, gsNil, mChain, thawG, thaw, snapO, MO.below, List.getElem?_cons_succ, List.getElem?_cons_zero, List.length_cons, List.length_nil, List.set_cons_succ, List.set_cons_zero, Int.natAbs_natCast, mTupRev, mCatO, mListO, gItm, minI, maxI, absI, app_take, app_take0, app_get, app_get0, app_set, app_set0, List.take_length, finO_nx, finO_rt, finO_er, finT, finE, su_law_3_5, ay2, eb, su_law_3_6, no2, r5, su_law_3_7, r6, h2, su_law_3_8]
    subst hR
    exact ⟨rfl, e.go t, _, _, _, _, _, e9, rfl, rfl⟩
  · rintro G S ⟨t, j5, j6, j7, j8, j9, ht, rfl, rfl⟩
    exact fin t _ _ _ _ _
theorem law_true (ns : List Int) (hl : ns.length ≤ 63) (hb : ∀ z ∈ ns, PySem.Builtin.Int.intBits z ≤ 1048576) : den_law [.v (.rol (ns.map D.int))] [] = some (.ok (.v (.bl true)) []) := by
  refine wp_eq (fnD_wp rfl ?_)
  generalize hQ : (fun o => wp (finO ([] : Sto).length o) _) = Q
  show wp (su_law_0_0 [some (.v (.rol (ns.map .int))), none, none, none, none, none, none, none, none, none] []) Q
  unfold su_law_0_0
  rw [wp_seq]
  refine wp_for (fun i G S => ∃ j1 j2 j3 j4 j5 j6 j7 j8 j9, G = [some (.v (.rol (ns.map .int))), j1, j2, j3, j4, j5, j6, j7, j8, j9] ∧ S = []) (ds := rngD 0 3) (S1 := []) (by simp (decide := true) [wp_seq, wp_some, kQ_nx, kQ_rt, kQ_bk, kQ_ct, kQ_er, kL_nx, kL_ct, kL_bk, kL_rt, kL_er, sAsg, sE, sRet, sRetN, sDrop, sIf, sNext, sBreak, sCont, sRaise, sRaiseF, sPar, sAug, gSet, mVar, Mm.bind, Mm.ret, bin, op2, rd, orD, addD, addI, subI, i2, modI, divI, powI, s2, addS_small, addS_tup, addS_lst, addS_int, catL, catT, mulD, repS, repL, eqD, neD, okD, okDs, eqd, eqds, flatD, eqD, sTry, sHand, noEr, sTryAs, unAs, mFld, mIsE, mRepK, kRepK, cmpI, ltI, leI, gtI, geI, isNone, notNone, isN, asB, asT, truD, mNot, mAnd, mOr, vAnd, vOr, vNot, mIf, mNeg, mTup, mTupZ, frz, mLst, mOwn, mCons, mNil, datas, atD_tup, atD_lst, atD_rol, atD_str, seqOf, mNoPart, asI, mSl, slD_tup, slD_lst, slD_rol, slD_str, mIsI, isT, mCB, rds, mCall, mCall0, mMt, chk, isM, mApp, mExt, lenD_str, lenD_tup, lenD_lst, lenD_rol, intD, listD, tupD, mSrc, srcD, rng1, rng2, gTupD, gsCons, gsNil, mChain, thawG, thaw, snapO, MO.below, List.getElem?_cons_succ, List.getElem?_cons_zero, List.length_cons, List.length_nil, List.set_cons_succ, List.set_cons_zero, Int.natAbs_natCast, mTupRev, mCatO, mListO, gItm, minI, maxI, absI, app_take, app_take0, app_get, app_get0, app_set, app_set0, List.take_length, finO_nx, finO_rt, finO_er, finT, finE, DL.lineN_pos]) ⟨_, _, _, _, _, _, _, _, _, rfl, rfl⟩ ?_ ?_
  · rintro i d G S hd ⟨j1, j2, j3, j4, j5, j6, j7, j8, j9, rfl, rfl⟩
    obtain ⟨hi, rfl⟩ := rngD_get hd
    generalize hR : kL _ _ _ = R
    obtain ⟨f, ef, hf⟩ := ltri_ok Cl.nil ns (base := 12 * i) (by omega) (by omega)
    obtain ⟨X, eX, hX, hX0⟩ := numbers_ok ns (12 * i + 2) (by omega) (by omega) Cl.nil
    obtain ⟨x39, i39, a39⟩ := atI_map (f := D.int) (l := X) (i := 39) (by omega) (by omega)
    obtain ⟨l, el, l2, l3, lw⟩ := letters_ok Cl.nil (n := x39) (hX0 x39 (List.mem_of_getElem? i39)).1
    have m12 := mul12 i (by omega)
    have tk := tri_ok Cl.nil hf.ok
    simp (decide := true) [wp_seq, wp_some, kQ_nx, sAsg, sE, gSet, mVar, Mm.bind, Mm.ret, DL.bin, op2, rd, orD, addD, addI, DL.i2, mCall, mCons, mNil, List.getElem?_cons_succ, List.getElem?_cons_zero, List.length_cons, List.length_nil, List.set_cons_succ, List.set_cons_zero, su_law_1_0, su_law_1_1, m12, ef, eX]
    simp (decide := true) [wp_seq, wp_some, kQ_nx, kQ_rt, kQ_bk, kQ_ct, kQ_er, kL_nx, kL_ct, kL_bk, kL_rt, kL_er, sAsg, sE, sRet, sRetN, sDrop, sIf, sNext, sBreak, sCont, sRaise, sRaiseF, sPar, sAug, gSet, mVar, Mm.bind, Mm.ret, bin, op2, rd, orD, addD, addI, subI, i2, modI, divI, powI, s2, addS_small, addS_tup, addS_lst, addS_int, catL, catT, mulD, repS, repL, eqD, neD, okD, okDs, eqd, eqds, flatD, eqD, sTry, sHand, noEr, sTryAs, unAs, mFld, mIsE, mRepK, kRepK, cmpI, ltI, leI, gtI, geI, isNone, notNone, isN, asB, asT, truD, mNot, mAnd, mOr, vAnd, vOr, vNot, mIf, mNeg, mTup, mTupZ, frz, mLst, mOwn, mCons, mNil, datas, atD_tup, atD_lst, atD_rol, atD_str, seqOf, mNoPart, asI, mSl, slD_tup, slD_lst, slD_rol, slD_str, mIsI, isT, mCB, rds, mCall, mCall0, mMt, chk, isM, mApp, mExt, lenD_str, lenD_tup, lenD_lst, lenD_rol, intD, listD, tupD, mSrc, srcD, rng1, rng2, gTupD, gsCons, gsNil, mChain, thawG, thaw, snapO, MO.below, List.getElem?_cons_succ, List.getElem?_cons_zero, List.length_cons, List.length_nil, List.set_cons_succ, List.set_cons_zero, Int.natAbs_natCast, mTupRev, mCatO, mListO, gItm, minI, maxI, absI, app_take, app_take0, app_get, app_get0, app_set, app_set0, List.take_length, finO_nx, finO_rt, finO_er, finT, finE, su_law_1_2, a39, el, su_law_1_3, tk]
    refine turns ns i hf hX hX0 l2 l3 lw (j5 := j5) (j6 := j6) (j7 := j7) (j8 := j8) (j9 := j9) fun t j5 j6 j7 j8 j9 => ?_
    subst hR
    exact ⟨rfl, _, _, _, _, _, _, _, _, _, rfl, rfl⟩
  · rintro G S ⟨j1, j2, j3, j4, j5, j6, j7, j8, j9, rfl, rfl⟩
    simp (decide := true) [wp_seq, wp_some, kQ_nx, kQ_rt, kQ_bk, kQ_ct, kQ_er, kL_nx, kL_ct, kL_bk, kL_rt, kL_er, sAsg, sE, sRet, sRetN, sDrop, sIf, sNext, sBreak, sCont, sRaise, sRaiseF, sPar, sAug, gSet, mVar, Mm.bind, Mm.ret, bin, op2, rd, orD, addD, addI, subI, i2, modI, divI, powI, s2, addS_small, addS_tup, addS_lst, addS_int, catL, catT, mulD, repS, repL, eqD, neD, okD, okDs, eqd, eqds, flatD, eqD, sTry, sHand, noEr, sTryAs, unAs, mFld, mIsE, mRepK, kRepK, cmpI, ltI, leI, gtI, geI, isNone, notNone, isN, asB, asT, truD, mNot, mAnd, mOr, vAnd, vOr, vNot, mIf, mNeg, mTup, mTupZ, frz, mLst, mOwn, mCons, mNil, datas, atD_tup, atD_lst, atD_rol, atD_str, seqOf, mNoPart, asI, mSl, slD_tup, slD_lst, slD_rol, slD_str, mIsI, isT, mCB, rds, mCall, mCall0, mMt, chk, isM, mApp, mExt, lenD_str, lenD_tup, lenD_lst, lenD_rol, intD, listD, tupD, mSrc, srcD, rng1, rng2, gTupD, gsCons, gsNil, mChain, thawG, thaw, snapO, MO.below, List.getElem?_cons_succ, List.getElem?_cons_zero, List.length_cons, List.length_nil, List.set_cons_succ, List.set_cons_zero, Int.natAbs_natCast, mTupRev, mCatO, mListO, gItm, minI, maxI, absI, app_take, app_take0, app_get, app_get0, app_set, app_set0, List.take_length, finO_nx, finO_rt, finO_er, finT, finE, su_law_0_1]
    subst hQ
    exact ⟨_, rfl, rfl⟩
end G

namespace G
open PySem L2 DL
/-- the law's own: a script is handed in, True comes out -/
def spLaw (K : PySem.W.Frag) : Sp := fun vs H Q _ => ∃ (a : Addr) (ns : List Int), vs = [.ref a] ∧ SqL K H a (ns.map V.int) ∧ ns.length ≤ 63 ∧ (∀ z ∈ ns, Builtin.Int.intBits z ≤ 1048576) ∧ ∀ H', Q (.bl true) H'
theorem reps_ints {K : PySem.W.Frag} {P : Hp} : ∀ ns : List Int, RepDs K P (ns.map D.int) (ns.map V.int)
  | [] => RepDs.nil
  | n :: ns => RepDs.cons (by simp only [RepD]) (reps_ints ns)
theorem law_sp {K : PySem.W.Frag} {mg : Str → Option Value} (vs : List V) (H : Hp) (Q : VK) (E : XK) (h : spLaw K vs H Q E) : spD K mg den_law vs H Q E := by
  obtain ⟨a, ns, rfl, hS, hl, hb, k⟩ := h
  refine ⟨H, [], [], [.v (.rol (ns.map D.int))], .ok (.v (.bl true)) [], ⟨Same.refl _, rfl, List.nodup_nil, fun i o a h => by simp at h, fun i o a h => by simp at h⟩, ⟨_, [], rfl, ?_, rfl⟩, law_true ns hl hb, fun P' L' H' b _ _ _ r => ?_⟩
  · simp only [RepV, RepD]
    exact ⟨a, _, rfl, hS, reps_ints ns⟩
  · have r' : RepV K P' L' (.v (.bl true)) b := r
    simp only [RepV, RepD] at r'
    subst r'
    exact k H'
theorem walk {l : PySem.W.OpenLaw} {q : Program} {loose : List Str} {XP : (Str → Option Value) → Heap → Prop} {YP : World → Heap → Prop} {d : DefRec} {K : Params → PySem.W.Frag} (hn : l.most = some 63) (hdf : d.params.defaults = [])
    (hY : ∀ (w : World) (h : Heap), YP w h → (K w.params).In h)
    (F : ∀ (w : World) (mg : Str → Option Value) (fa : Addr) (h : Heap), (K w.params).In h → h.Ns mainGlobals mg → mg d.name = some (.ref fa) →
      ∃ fd : FuncData, (∀ (s : Shared) (u : Value), BindsTo s fd ⟨[u], []⟩ [("script", u)]) ∧ ∀ base : Heap, (K w.params).In base → base.Ns mainGlobals mg → FnOk l.prog w (K w.params) mg base (L2.CX l.prog w) 7 fa fd ["script"] (spD (K w.params) mg den_law)) :
    PySem.W.WalkO q loose XP YP l.row.toRowW d [] (fun f vs => PySem.call f vs) :=
  L2.walk_ofB (n := 63) (k := 7) (x := "script") (CX := fun w => L2.CX l.prog w) (sp := fun w => spLaw (K w.params)) hn (by decide) hdf ⟨rfl, by decide, by decide⟩ hY
    (fun w mg fa h h1 h2 h3 => by
      obtain ⟨fd, k1, k2⟩ := F w mg fa h h1 h2 h3
      exact ⟨fd, k1, fun base b1 b2 => (k2 base b1 b2).imp law_sp⟩)
    (fun w H a ns hl hb hO hS => ⟨a, ns, rfl, hS, hl, hb, fun _ => rfl⟩) fun w H s e s' z => by
      obtain ⟨_, _, _, _, _, _, _, _, _, _, _, _, _, _, _, _, z⟩ := z
end G
open PySem PySem.W PyProof.Rows
set_option maxRecDepth 100000 in
set_option maxHeartbeats 0 in
theorem PySem.Challenge.cw_fourthword_k56_edits_of_triples_holds : PySem.Challenge.rw_fourthword_k56_edits_of_triples.Holds := by
  w_on; o_law; k_head; (case hw => w_witness2)
  k_fill
  refine G.walk (l := PySem.Challenge.rw_fourthword_k56_edits_of_triples) rfl rfl (fun w h Y => PySem.W.kIn_of Y) ?F
  case F =>
    intro w mg fa h KX hG hmg
    refine' G.facts KX hG hmg ?a_is_integer ?l_is_integer ?co_is_integer ?k_is_integer ?a_is_within ?l_is_within ?co_is_within ?k_is_within ?a_is_tuple ?l_is_tuple ?co_is_tuple ?k_is_tuple ?a_is_word ?l_is_word ?co_is_word ?k_is_word ?a_is_triple ?l_is_triple ?co_is_triple ?k_is_triple ?a_check_triple ?l_check_triple ?co_check_triple ?k_check_triple ?a_is_letter ?l_is_letter ?co_is_letter ?k_is_letter ?a_raw_is_edit ?l_raw_is_edit ?co_raw_is_edit ?k_raw_is_edit ?a_is_edit ?l_is_edit ?co_is_edit ?k_is_edit ?a_raw_edited ?l_raw_edited ?co_raw_edited ?k_raw_edited ?a_check_edit ?l_check_edit ?co_check_edit ?k_check_edit ?a_edited ?l_edited ?co_edited ?k_edited ?a__law_numbers ?l__law_numbers ?co__law_numbers ?k__law_numbers ?a__law_letters ?l__law_letters ?co__law_letters ?k__law_letters ?a__law_woven ?l__law_woven ?co__law_woven ?k__law_woven ?a__law_triple ?l__law_triple ?co__law_triple ?k__law_triple ?a__law_edit ?l__law_edit ?co__law_edit ?k__law_edit ?a__law_edited ?l__law_edited ?co__law_edited ?k__law_edited ?a__law_same ?l__law_same ?co__law_same ?k__law_same ?a__law_told ?l__law_told ?co__law_told ?k__law_told ?a__law_refused ?l__law_refused ?co__law_refused ?k__law_refused ?a__law_odd ?l__law_odd ?co__law_odd ?k__law_odd ?a__law_no_triple ?l__law_no_triple ?co__law_no_triple ?k__law_no_triple ?a_law ?l_law ?co_law ?k_law ?z_ValueError ?z_all ?z_bool ?z_int ?z_isinstance ?z_len ?z_list ?z_range ?z_str ?z_tuple ?v_CUT ?v_LETTERS ?v_PLACES ?v_PUT ?v_TURN ?vc_FourthError ?kC_FourthError ?eC_FourthError ?tC_FourthError ?iC_FourthError ?vc_NoEdit ?kC_NoEdit ?eC_NoEdit ?tC_NoEdit ?iC_NoEdit ?vc_NoTriple ?kC_NoTriple ?eC_NoTriple ?tC_NoTriple ?iC_NoTriple ?xP_NoEdit ?xP_NoTriple ?ga_NoTriple ?gg_NoTriple ?hd_NoTriple ?cc_NoTriple ?mr_NoTriple ?sg ?tk ?s_NoEdit_NoEdit ?s_NoEdit_NoTriple ?s_NoTriple_NoEdit ?s_NoTriple_NoTriple ?s_NoTriple_FourthError ?ne_NoTriple_NoEdit ?s_NoTriple_ValueError
    (case a_is_integer => k_is)
    (case l_is_integer => k_is)
    (case co_is_integer => k_is)
    (case k_is_integer => k_is)
    (case a_is_within => k_is)
    (case l_is_within => k_is)
    (case co_is_within => k_is)
    (case k_is_within => k_is)
    (case a_is_tuple => k_is)
    (case l_is_tuple => k_is)
    (case co_is_tuple => k_is)
    (case k_is_tuple => k_is)
    (case a_is_word => k_is)
    (case l_is_word => k_is)
    (case co_is_word => k_is)
    (case k_is_word => k_is)
    (case a_is_triple => k_is)
    (case l_is_triple => k_is)
    (case co_is_triple => k_is)
    (case k_is_triple => k_is)
    (case a_check_triple => k_is)
    (case l_check_triple => k_is)
    (case co_check_triple => k_is)
    (case k_check_triple => k_is)
    (case a_is_letter => k_is)
    (case l_is_letter => k_is)
    (case co_is_letter => k_is)
    (case k_is_letter => k_is)
    (case a_raw_is_edit => k_is)
    (case l_raw_is_edit => k_is)
    (case co_raw_is_edit => k_is)
    (case k_raw_is_edit => k_is)
    (case a_is_edit => k_is)
    (case l_is_edit => k_is)
    (case co_is_edit => k_is)
    (case k_is_edit => k_is)
    (case a_raw_edited => k_is)
    (case l_raw_edited => k_is)
    (case co_raw_edited => k_is)
    (case k_raw_edited => k_is)
    (case a_check_edit => k_is)
    (case l_check_edit => k_is)
    (case co_check_edit => k_is)
    (case k_check_edit => k_is)
    (case a_edited => k_is)
    (case l_edited => k_is)
    (case co_edited => k_is)
    (case k_edited => k_is)
    (case a__law_numbers => k_is)
    (case l__law_numbers => k_is)
    (case co__law_numbers => k_is)
    (case k__law_numbers => k_is)
    (case a__law_letters => k_is)
    (case l__law_letters => k_is)
    (case co__law_letters => k_is)
    (case k__law_letters => k_is)
    (case a__law_woven => k_is)
    (case l__law_woven => k_is)
    (case co__law_woven => k_is)
    (case k__law_woven => k_is)
    (case a__law_triple => k_is)
    (case l__law_triple => k_is)
    (case co__law_triple => k_is)
    (case k__law_triple => k_is)
    (case a__law_edit => k_is)
    (case l__law_edit => k_is)
    (case co__law_edit => k_is)
    (case k__law_edit => k_is)
    (case a__law_edited => k_is)
    (case l__law_edited => k_is)
    (case co__law_edited => k_is)
    (case k__law_edited => k_is)
    (case a__law_same => k_is)
    (case l__law_same => k_is)
    (case co__law_same => k_is)
    (case k__law_same => k_is)
    (case a__law_told => k_is)
    (case l__law_told => k_is)
    (case co__law_told => k_is)
    (case k__law_told => k_is)
    (case a__law_refused => k_is)
    (case l__law_refused => k_is)
    (case co__law_refused => k_is)
    (case k__law_refused => k_is)
    (case a__law_odd => k_is)
    (case l__law_odd => k_is)
    (case co__law_odd => k_is)
    (case k__law_odd => k_is)
    (case a__law_no_triple => k_is)
    (case l__law_no_triple => k_is)
    (case co__law_no_triple => k_is)
    (case k__law_no_triple => k_is)
    (case a_law => k_is)
    (case l_law => k_is)
    (case co_law => k_is)
    (case k_law => k_is)
    (case z_ValueError => k_is)
    (case z_all => k_is)
    (case z_bool => k_is)
    (case z_int => k_is)
    (case z_isinstance => k_is)
    (case z_len => k_is)
    (case z_list => k_is)
    (case z_range => k_is)
    (case z_str => k_is)
    (case z_tuple => k_is)
    (case v_CUT => k_is)
    (case v_LETTERS => k_is)
    (case v_PLACES => k_is)
    (case v_PUT => k_is)
    (case v_TURN => k_is)
    (case vc_FourthError => k_is)
    (case kC_FourthError => k_is)
    (case eC_FourthError => k_is)
    (case tC_FourthError => k_is)
    (case iC_FourthError => k_is)
    (case vc_NoEdit => k_is)
    (case kC_NoEdit => k_is)
    (case eC_NoEdit => k_is)
    (case tC_NoEdit => k_is)
    (case iC_NoEdit => k_is)
    (case vc_NoTriple => k_is)
    (case kC_NoTriple => k_is)
    (case eC_NoTriple => k_is)
    (case tC_NoTriple => k_is)
    (case iC_NoTriple => k_is)
    (case xP_NoEdit => k_exc)
    (case xP_NoTriple => k_exc)
    (case ga_NoTriple => k_is)
    (case gg_NoTriple => k_is)
    (case hd_NoTriple => k_is)
    (case cc_NoTriple => k_is)
    (case mr_NoTriple => k_is)
    (case sg => k_is)
    (case tk => k_is)
    (case s_NoEdit_NoEdit => first | rfl | k_is)
    (case s_NoEdit_NoTriple => k_is)
    (case s_NoTriple_NoEdit => k_is)
    (case s_NoTriple_NoTriple => first | rfl | k_is)
    (case s_NoTriple_FourthError => k_is)
    (case ne_NoTriple_NoEdit => decide)
    (case s_NoTriple_ValueError => k_is)

