import PyProof.Rows.All
import Wide.All
import OpenK.AllK
import Wide.FinOn
import HandS.ForMost
import HandS.ForExc
import KE.GoesEnum
import HandS.Zip
import HandS.Deep
import HandS.TupAny
import HandS.IsInst
import HandS.More
import HandS.TupLe
import KE.SortData
import HandS.Conv
import HandS.Dict
import HandS.DictComp
import HandS.SetFor
import HandS.TupSets
import KE.KDictZip
import KE.GoesZip
import KE.GoesMore
import HandS.Style
import HandS.TupMul
import PySem.Challenge.RW_fewkinds_k03_kinds_by_trees
set_option Elab.async false
set_option linter.all false
set_option maxRecDepth 100000
/-! VsA: plain values over the hand layer's abstract heap: data (PyData) that stand still, lists and dicts that a slot owns. -/
namespace VS
open PySem PySem.Spec PyProof.Rows L2

abbrev D := PyData
abbrev Frag' := PySem.W.Frag

/-! ### data in an abstract heap -/
theorem seqT_same {K : Frag'} {H H' : Hp} {a : Addr} {xs : List V} (e : Same H H') (h : SqT K H a xs) : SqT K H' a xs := by
  rcases h with (h | ⟨o, h⟩) | h
  · exact .inl (.inl (e _ _ h))
  · exact .inl (.inr ⟨o, e _ _ h⟩)
  · exact .inr h
mutual
theorem Dp.same {K : Frag'} {H H' : Hp} (e : Same H H') : ∀ {v : V} {d : D}, Dp K H v d → Dp K H' v d
  | _, _, .non => .non
  | _, _, .bl b => .bl b
  | _, _, .int i => .int i
  | _, _, .str x => .str x
  | _, _, .lst h r => .lst (e.seq h) (DpAll.same e r)
  | _, _, .tup h r => .tup (seqT_same e h) (DpAll.same e r)
theorem DpAll.same {K : Frag'} {H H' : Hp} (e : Same H H') : ∀ {vs : List V} {ds : List D}, DpAll K H vs ds → DpAll K H' vs ds
  | _, _, .nil => .nil
  | _, _, .cons h r => .cons (Dp.same e h) (DpAll.same e r)
end
theorem DpAll.length {K : Frag'} {H : Hp} : ∀ {vs : List V} {ds : List D}, DpAll K H vs ds → vs.length = ds.length
  | _, _, .nil => rfl
  | _, _, .cons _ r => by rw [List.length_cons, List.length_cons, DpAll.length r]
theorem DpAll.get {K : Frag'} {H : Hp} : ∀ {vs : List V} {ds : List D} {i : Nat} {d : D}, DpAll K H vs ds → ds[i]? = some d → ∃ v, vs[i]? = some v ∧ Dp K H v d
  | _, _, _, _, .nil, h => by simp at h
  | _, _, 0, d, .cons h _, e => by
    simp at e
    subst e
    exact ⟨_, rfl, h⟩
  | _, _, i + 1, d, .cons _ r, e => by
    obtain ⟨v, h1, h2⟩ := DpAll.get (i := i) r (by simpa using e)
    exact ⟨v, by simpa using h1, h2⟩
theorem DpAll.getV {K : Frag'} {H : Hp} : ∀ {vs : List V} {ds : List D} {i : Nat} {v : V}, DpAll K H vs ds → vs[i]? = some v → ∃ d, ds[i]? = some d ∧ Dp K H v d
  | _, _, _, _, .nil, h => by simp at h
  | _, _, 0, d, .cons h _, e => by
    simp at e
    subst e
    exact ⟨_, rfl, h⟩
  | _, _, i + 1, d, .cons _ r, e => by
    obtain ⟨v, h1, h2⟩ := DpAll.getV (i := i) r (by simpa using e)
    exact ⟨v, by simpa using h1, h2⟩
theorem DpAll.append {K : Frag'} {H : Hp} : ∀ {vs ws : List V} {ds es : List D}, DpAll K H vs ds → DpAll K H ws es → DpAll K H (vs ++ ws) (ds ++ es)
  | _, _, _, _, .nil, s => s
  | _, _, _, _, .cons h r, s => .cons h (DpAll.append r s)
theorem DpAll.one {K : Frag'} {H : Hp} {v : V} {d : D} (h : Dp K H v d) : DpAll K H [v] [d] := .cons h .nil
theorem DpAll.set {K : Frag'} {H : Hp} {v : V} {d : D} (h : Dp K H v d) : ∀ {vs : List V} {ds : List D} (i : Nat), DpAll K H vs ds → DpAll K H (vs.set i v) (ds.set i d)
  | _, _, _, .nil => .nil
  | _, _, 0, .cons _ r => .cons h r
  | _, _, i + 1, .cons g r => .cons g (DpAll.set h i r)
theorem DpAll.take {K : Frag'} {H : Hp} : ∀ {vs : List V} {ds : List D} (n : Nat), DpAll K H vs ds → DpAll K H (vs.take n) (ds.take n)
  | _, _, 0, _ => .nil
  | _, _, _ + 1, .nil => .nil
  | _, _, n + 1, .cons g r => .cons g (DpAll.take n r)
theorem DpAll.drop {K : Frag'} {H : Hp} : ∀ {vs : List V} {ds : List D} (n : Nat), DpAll K H vs ds → DpAll K H (vs.drop n) (ds.drop n)
  | _, _, 0, r => r
  | _, _, _ + 1, .nil => .nil
  | _, _, n + 1, .cons _ r => DpAll.drop n r
theorem DpAll.eraseIdx {K : Frag'} {H : Hp} : ∀ {vs : List V} {ds : List D} (n : Nat), DpAll K H vs ds → DpAll K H (vs.eraseIdx n) (ds.eraseIdx n)
  | _, _, _, .nil => .nil
  | _, _, 0, .cons _ r => r
  | _, _, n + 1, .cons g r => .cons g (DpAll.eraseIdx n r)
theorem DpAll.reverse {K : Frag'} {H : Hp} : ∀ {vs : List V} {ds : List D}, DpAll K H vs ds → DpAll K H vs.reverse ds.reverse
  | _, _, .nil => .nil
  | _, _, .cons h r => by
    rw [List.reverse_cons, List.reverse_cons]
    exact DpAll.append (DpAll.reverse r) (DpAll.one h)

/-! ### dicts: keys ints or texts, or tuples of such -/
def kD : Key → D
  | .inl i => .int i
  | .inr x => .str x
def DictO (K : Frag') (S : Hp) : HO → List (D × D) → Prop
  | .dK ps, kvs => Paired (fun (p : Key × V) (q : D × D) => kD p.1 = q.1 ∧ Dp K S p.2 q.2) ps kvs
  | _, _ => False
theorem DictO.same {K : Frag'} {S S' : Hp} (e : Same S S') : ∀ {o : HO} {kvs : List (D × D)}, DictO K S o kvs → DictO K S' o kvs
  | .dK ps, kvs, h => Paired.mapP h fun a b r => ⟨r.1, Dp.same e r.2⟩
  | .dT _, _, h => h.elim
  | .lst _, _, h => h.elim
  | .tup _, _, h => h.elim
  | .set _ _, _, h => h.elim
  | .ins _ _ _, _, h => h.elim
  | .own _, _, h => h.elim
  | .xd _, _, h => h.elim
  | .met _ _, _, h => h.elim
  | .rng _ _, _, h => h.elim
  | .frz _ _, _, h => h.elim
  | .tbl _, _, h => h.elim
  | .ext _, _, h => h.elim

/-- a value that stands still in S is d; a dict only as a whole -/
def Rp (K : Frag') (S : Hp) (v : V) : D → Prop
  | .dict kvs => ∃ a o, v = .ref a ∧ S a = some o ∧ DictO K S o kvs
  | d => Dp K S v d
/-- the object o is what a slot owns -/
def OwO (K : Frag') (S : Hp) : HO → D → Prop
  | .lst xs, .list ds => DpAll K S xs ds
  | o, .dict kvs => DictO K S o kvs
  | _, _ => False
def Ow (K : Frag') (S H : Hp) (a : Addr) (d : D) : Prop := ∃ o, H a = some o ∧ OwO K S o d
def noDict : D → Bool
  | .dict _ => false
  | _ => true
theorem Rp.of {K : Frag'} {S : Hp} {v : V} {d : D} (h : Dp K S v d) : Rp K S v d := by
  cases d with
  | dict kvs => cases h
  | _ => exact h
theorem Rp.dp {K : Frag'} {S : Hp} {v : V} {d : D} (h : Rp K S v d) (n : noDict d = true) : Dp K S v d := by
  cases d with
  | dict kvs => cases n
  | _ => exact h
theorem Rp.same {K : Frag'} {S S' : Hp} {v : V} {d : D} (e : Same S S') (h : Rp K S v d) : Rp K S' v d := by
  cases d with
  | dict kvs =>
    obtain ⟨a, o, e1, e2, e3⟩ := h
    exact ⟨a, o, e1, e _ _ e2, e3.same e⟩
  | _ => exact Dp.same e h
theorem OwO.dict {K : Frag'} {S : Hp} {o : HO} {kvs : List (D × D)} (h : OwO K S o (.dict kvs)) : DictO K S o kvs := by
  cases o <;> exact h
theorem OwO.ofDict {K : Frag'} {S : Hp} {o : HO} {kvs : List (D × D)} (h : DictO K S o kvs) : OwO K S o (.dict kvs) := by
  cases o <;> exact h
theorem OwO.same {K : Frag'} {S S' : Hp} {o : HO} {d : D} (e : Same S S') (h : OwO K S o d) : OwO K S' o d := by
  cases d with
  | dict kvs => exact .ofDict (h.dict.same e)
  | list ds => cases o <;> first | exact DpAll.same e h | exact False.elim h
  | _ => cases o <;> exact False.elim h
theorem Ow.same {K : Frag'} {S S' H : Hp} {a : Addr} {d : D} (e : Same S S') (h : Ow K S H a d) : Ow K S' H a d :=
  let ⟨o, h1, h2⟩ := h
  ⟨o, h1, h2.same e⟩
theorem Ow.keep {K : Frag'} {S H H' : Hp} {a : Addr} {d : D} (h : Ow K S H a d) (e : H' a = H a) : Ow K S H' a d :=
  let ⟨o, h1, h2⟩ := h
  ⟨o, e.trans h1, h2⟩
/-- what a slot owns, as it stands still from now on -/
theorem OwO.rp {K : Frag'} {S : Hp} {a : Addr} {o : HO} {d : D} (h : OwO K S o d) (e : S a = some o) : Rp K S (.ref a) d := by
  cases d with
  | dict kvs => exact ⟨a, o, rfl, e, h.dict⟩
  | list ds =>
    cases o with
    | lst xs => exact .lst (.inl (.inl e)) h
    | _ => exact False.elim h
  | _ => cases o <;> exact False.elim h

/-! ### slots -/
inductive SV where
  | st (d : D) | ow (d : D)
abbrev Env' := List (Option SV)
/-- what is fixed while a def runs: what stood still and what was tracked at its entry, and the parameters that it may change (slot, address) -/
structure Ct where
  S0 : Hp
  H0 : Hp
  io : List (Nat × Addr)
abbrev Ct.ioA (C : Ct) : List Addr := C.io.map (·.2)
abbrev Ct.ioS (C : Ct) : List Nat := C.io.map (·.1)
abbrev Own := Addr → Option (Option Nat)
def SlotOk (K : Frag') (G : Own) (S : Hp) (σ : L2.St) (H : Hp) (i : Nat) : SV → Prop
  | .st d => ∃ v, σ[i]? = some (some v) ∧ Rp K S v d
  | .ow d => ∃ a, σ[i]? = some (some (.ref a)) ∧ G a = some (some i) ∧ Ow K S H a d
abbrev Hid := List (Addr × D)
/-- S: what stands still; G: who owns what does not; hid: what is owned by no slot -/
structure RG (K : Frag') (C : Ct) (G : Own) (S : Hp) (σ : L2.St) (H : Hp) (ρ : Env') (hid : Hid) : Prop where
  sub : Same S H
  gs : ∀ a l, G a = some l → S a = none ∧ H a ≠ none ∧ (C.H0 a = none ∨ a ∈ C.ioA)
  slot : ∀ i sv, ρ[i]? = some (some sv) → SlotOk K G S σ H i sv
  hd : ∀ p ∈ hid, G p.1 = some none ∧ C.H0 p.1 = none ∧ Ow K S H p.1 p.2
  nd : (hid.map (·.1)).Nodup
  old : ∀ a, C.H0 a ≠ none → S a = C.S0 a
  frm : ∀ a o, C.H0 a = some o → a ∉ C.ioA → H a = some o
  ios : ∀ p ∈ C.io, σ[p.1]? = some (some (.ref p.2))
  ioh : ∀ a ∈ C.ioA, H a ≠ none
  iog : ∀ p ∈ C.io, G p.2 = some (some p.1)
  len : ρ.length = σ.length
def RR (K : Frag') (C : Ct) (S : Hp) (σ : L2.St) (H : Hp) (ρ : Env') (hid : Hid) : Prop := ∃ G, RG K C G S σ H ρ hid

section
variable {K : Frag'} {C : Ct} {G : Own} {S : Hp} {σ : L2.St} {H : Hp} {ρ : Env'} {hid : Hid}
theorem same_upd {H : Hp} {p : Addr} {o : HO} (h : H p = none) : Same H (upd H p o) := fun b x e => by
  rw [upd_ne (ne_of_none e h)]
  exact e
theorem same_upd2 {S H : Hp} {p : Addr} {o : HO} (e : Same S H) : Same (upd S p o) (upd H p o) := fun b x h => by
  by_cases hb : b = p
  · subst hb
    rw [upd_same] at h ⊢
    exact h
  · rw [upd_ne hb] at h ⊢
    exact e _ _ h
theorem same_updL {S H : Hp} {p : Addr} {o : HO} (e : Same S H) (h : H p = some o) : Same (upd S p o) H := fun b x q => by
  by_cases hb : b = p
  · subst hb
    rw [upd_same] at q
    rw [← q]
    exact h
  · rw [upd_ne hb] at q
    exact e _ _ q
theorem same_updR {S H : Hp} {p : Addr} {o : HO} (e : Same S H) (h : S p = none) : Same S (upd H p o) := fun b x q => by
  rw [upd_ne (ne_of_none q h)]
  exact e _ _ q
theorem RG.fresh0 (R : RG K C G S σ H ρ hid) {p : Addr} (hp : H p = none) : C.H0 p = none := by
  cases e : C.H0 p with
  | none => rfl
  | some o =>
    by_cases hm : p ∈ C.ioA
    · exact absurd hp (R.ioh p hm)
    · rw [R.frm p o e hm] at hp
      cases hp
theorem RG.freshS (R : RG K C G S σ H ρ hid) {p : Addr} (hp : H p = none) : S p = none := R.sub.free hp
theorem SlotOk.same {S' H' : Hp} {i : Nat} {sv : SV} (h : SlotOk K G S σ H i sv) (e : Same S S') (k : ∀ a, G a = some (some i) → H' a = H a) : SlotOk K G S' σ H' i sv := by
  cases sv with
  | st d =>
    obtain ⟨v, h1, h2⟩ := h
    exact ⟨v, h1, h2.same e⟩
  | ow d =>
    obtain ⟨a, h1, h2, h3⟩ := h
    exact ⟨a, h1, h2, (h3.same e).keep (k a h2)⟩
/-- nobody owns what is not there -/
theorem RG.hid_ne (R : RG K C G S σ H ρ hid) {p : Addr} (hp : H p = none) : p ∉ hid.map (·.1) := fun hm => by
  obtain ⟨q, hq, e⟩ := List.mem_map.mp hm
  obtain ⟨_, _, o, h, _⟩ := R.hd q hq
  rw [e, hp] at h
  cases h
/-- the owner map without what is owned at a free place -/
def Own.off (G : Own) (p : Addr) : Own := fun a => if a = p then none else G a
def Own.on (G : Own) (p : Addr) (l : Option Nat) : Own := fun a => if a = p then some l else G a
theorem Own.off_ne {G : Own} {p a : Addr} (h : a ≠ p) : G.off p a = G a := if_neg h
theorem Own.off_self {G : Own} {p : Addr} : G.off p p = none := if_pos rfl
theorem Own.off_some {G : Own} {p a : Addr} {l : Option Nat} (h : G.off p a = some l) : a ≠ p ∧ G a = some l := by
  unfold Own.off at h
  by_cases e : a = p
  · rw [if_pos e] at h
    cases h
  · rw [if_neg e] at h
    exact ⟨e, h⟩
theorem Own.on_ne {G : Own} {p a : Addr} {l : Option Nat} (h : a ≠ p) : G.on p l a = G a := if_neg h
theorem Own.on_self {G : Own} {p : Addr} {l : Option Nat} : G.on p l p = some l := if_pos rfl

theorem RG.io_ne (R : RG K C G S σ H ρ hid) {p : Addr} (hp : H p = none) {q : Nat × Addr} (hq : q ∈ C.io) : q.2 ≠ p := fun e => R.ioh q.2 (List.mem_map_of_mem hq) (by rw [e]; exact hp)
/-- a new object that stands still -/
theorem RR.still {p : Addr} {o : HO} (R : RR K C S σ H ρ hid) (hp : H p = none) : RR K C (upd S p o) σ (upd H p o) ρ hid := by
  obtain ⟨G, R⟩ := R
  have hS := R.freshS hp
  have h0 := R.fresh0 hp
  have sS : Same S (upd S p o) := same_upd hS
  have own_ne : ∀ a d, Ow K S H a d → a ≠ p := fun a d h e => by
    obtain ⟨o, h, _⟩ := h
    rw [e, hp] at h
    cases h
  refine ⟨G.off p, same_upd2 R.sub, fun a l h => ?_, fun i sv h => ?_, fun q hq => ?_, R.nd, fun a h => ?_, fun a x h hm => ?_, R.ios, fun a hm => ?_, fun q hq => (Own.off_ne (R.io_ne hp hq)).trans (R.iog q hq), R.len⟩
  · obtain ⟨ne, h⟩ := Own.off_some h
    rw [upd_ne ne, upd_ne ne]
    exact R.gs a l h
  · have s := R.slot i sv h
    cases sv with
    | st d =>
      obtain ⟨v, h1, h2⟩ := s
      exact ⟨v, h1, h2.same sS⟩
    | ow d =>
      obtain ⟨a, h1, h2, h3⟩ := s
      have ne := own_ne a d h3
      exact ⟨a, h1, (Own.off_ne ne).trans h2, (h3.same sS).keep (upd_ne ne)⟩
  · obtain ⟨h1, h2, h3⟩ := R.hd q hq
    have ne := own_ne _ _ h3
    exact ⟨(Own.off_ne ne).trans h1, h2, (h3.same sS).keep (upd_ne ne)⟩
  · have ne : a ≠ p := fun e => h (e ▸ h0)
    rw [upd_ne ne]
    exact R.old a h
  · have ne : a ≠ p := fun e => by
      rw [e, h0] at h
      cases h
    rw [upd_ne ne]
    exact R.frm a x h hm
  · by_cases e : a = p
    · subst e
      rw [upd_same]
      exact nofun
    · rw [upd_ne e]
      exact R.ioh a hm
/-- a new object that nobody knows -/
theorem RR.junk {p : Addr} {o : HO} (R : RR K C S σ H ρ hid) (hp : H p = none) : RR K C S σ (upd H p o) ρ hid := by
  obtain ⟨G, R⟩ := R
  have hS := R.freshS hp
  have h0 := R.fresh0 hp
  have own_ne : ∀ a d, Ow K S H a d → a ≠ p := fun a d h e => by
    obtain ⟨o, h, _⟩ := h
    rw [e, hp] at h
    cases h
  refine ⟨G.off p, R.sub.trans (same_upd hp), fun a l h => ?_, fun i sv h => ?_, fun q hq => ?_, R.nd, R.old, fun a x h hm => ?_, R.ios, fun a hm => ?_, fun q hq => (Own.off_ne (R.io_ne hp hq)).trans (R.iog q hq), R.len⟩
  · obtain ⟨ne, h⟩ := Own.off_some h
    rw [upd_ne ne]
    exact R.gs a l h
  · have s := R.slot i sv h
    cases sv with
    | st d => exact s
    | ow d =>
      obtain ⟨a, h1, h2, h3⟩ := s
      have ne := own_ne a d h3
      exact ⟨a, h1, (Own.off_ne ne).trans h2, h3.keep (upd_ne ne)⟩
  · obtain ⟨h1, h2, h3⟩ := R.hd q hq
    have ne := own_ne _ _ h3
    exact ⟨(Own.off_ne ne).trans h1, h2, h3.keep (upd_ne ne)⟩
  · have ne : a ≠ p := fun e => by
      rw [e, h0] at h
      cases h
    rw [upd_ne ne]
    exact R.frm a x h hm
  · by_cases e : a = p
    · subst e
      rw [upd_same]
      exact nofun
    · rw [upd_ne e]
      exact R.ioh a hm
/-- a new object, owned -/
theorem RR.fresh {p : Addr} {o : HO} {d : D} (R : RR K C S σ H ρ hid) (hp : H p = none) (ow : OwO K S o d) : RR K C S σ (upd H p o) ρ ((p, d) :: hid) := by
  obtain ⟨G, R⟩ := R
  have hS := R.freshS hp
  have h0 := R.fresh0 hp
  have nh := R.hid_ne hp
  have own_ne : ∀ a d, Ow K S H a d → a ≠ p := fun a d h e => by
    obtain ⟨o, h, _⟩ := h
    rw [e, hp] at h
    cases h
  refine ⟨G.on p none, R.sub.trans (same_upd hp), fun a l h => ?_, fun i sv h => ?_, fun q hq => ?_, List.nodup_cons.mpr ⟨nh, R.nd⟩, R.old, fun a x h hm => ?_, R.ios, fun a hm => ?_, fun q hq => (Own.on_ne (R.io_ne hp hq)).trans (R.iog q hq), R.len⟩
  · by_cases e : a = p
    · subst e
      exact ⟨hS, by rw [upd_same]; exact nofun, .inl h0⟩
    · rw [Own.on_ne e] at h
      rw [upd_ne e]
      exact R.gs a l h
  · have s := R.slot i sv h
    cases sv with
    | st d => exact s
    | ow d =>
      obtain ⟨a, h1, h2, h3⟩ := s
      have ne := own_ne a d h3
      exact ⟨a, h1, (Own.on_ne ne).trans h2, h3.keep (upd_ne ne)⟩
  · rcases List.mem_cons.mp hq with e | hq
    · subst e
      exact ⟨Own.on_self, h0, o, upd_same, ow⟩
    · obtain ⟨h1, h2, h3⟩ := R.hd q hq
      have ne := own_ne _ _ h3
      exact ⟨(Own.on_ne ne).trans h1, h2, h3.keep (upd_ne ne)⟩
  · have ne : a ≠ p := fun e => by
      rw [e, h0] at h
      cases h
    rw [upd_ne ne]
    exact R.frm a x h hm
  · by_cases e : a = p
    · subst e
      rw [upd_same]
      exact nofun
    · rw [upd_ne e]
      exact R.ioh a hm
/-- what was owned by none stands still from now on -/
theorem RR.freeze {p : Addr} {d : D} (R : RR K C S σ H ρ ((p, d) :: hid)) : ∃ S', Same S S' ∧ RR K C S' σ H ρ hid ∧ Rp K S' (.ref p) d := by
  obtain ⟨G, R⟩ := R
  obtain ⟨g1, h0, o, ho, ow⟩ := R.hd (p, d) List.mem_cons_self
  have g1 : G p = some none := g1
  have h0 : C.H0 p = none := h0
  have ho : H p = some o := ho
  have ow : OwO K S o d := ow
  have hS : S p = none := (R.gs p _ g1).1
  have sS : Same S (upd S p o) := same_upd hS
  have nd := List.nodup_cons.mp R.nd
  refine ⟨upd S p o, sS, ⟨G.off p, same_updL R.sub ho, fun a l h => ?_, fun i sv h => ?_, fun q hq => ?_, nd.2, fun a h => ?_, R.frm, R.ios, R.ioh, fun q hq => (Own.off_ne fun e => by
      have z := R.iog q hq
      rw [e, g1] at z
      cases z).trans (R.iog q hq), R.len⟩, (ow.same sS).rp upd_same⟩
  · obtain ⟨ne, h⟩ := Own.off_some h
    rw [upd_ne ne]
    exact R.gs a l h
  · have s := R.slot i sv h
    cases sv with
    | st d =>
      obtain ⟨v, h1, h2⟩ := s
      exact ⟨v, h1, h2.same sS⟩
    | ow d =>
      obtain ⟨a, h1, h2, h3⟩ := s
      have ne : a ≠ p := fun e => by
        rw [e, g1] at h2
        cases h2
      exact ⟨a, h1, (Own.off_ne ne).trans h2, h3.same sS⟩
  · obtain ⟨h1, h2, h3⟩ := R.hd q (List.mem_cons_of_mem _ hq)
    have ne : q.1 ≠ p := fun e => nd.1 (List.mem_map.mpr ⟨q, hq, e⟩)
    exact ⟨(Own.off_ne ne).trans h1, h2, h3.same sS⟩
  · have ne : a ≠ p := fun e => h (e ▸ h0)
    rw [upd_ne ne]
    exact R.old a h
theorem set_get {α : Type} {l : List α} {i j : Nat} {x y : α} (h : (l.set i x)[j]? = some y) : (i = j ∧ y = x) ∨ (i ≠ j ∧ l[j]? = some y) := by
  by_cases e : i = j
  · subst e
    rw [List.getElem?_set_self'] at h
    cases q : l[i]? with
    | none => rw [q] at h; cases h
    | some z =>
      rw [q] at h
      exact .inl ⟨rfl, (Option.some.inj h).symm⟩
  · rw [List.getElem?_set_ne e] at h
    exact .inr ⟨e, h⟩
theorem set_at {α : Type} {l : List α} {i : Nat} {x : α} (h : i < l.length) : (l.set i x)[i]? = some x := List.getElem?_set_self h
/-- a name takes a value that stands still -/
theorem RR.setSt {i : Nat} {v : V} {d : D} (R : RR K C S σ H ρ hid) (r : Rp K S v d) (hi : i ∉ C.ioS) : RR K C S (σ.set i (some v)) H (ρ.set i (some (.st d))) hid := by
  obtain ⟨G, R⟩ := R
  refine ⟨G, R.sub, R.gs, fun j sv h => ?_, R.hd, R.nd, R.old, R.frm, fun p hp => ?_, R.ioh, R.iog, by rw [List.length_set, List.length_set]; exact R.len⟩
  · rcases set_get h with ⟨e, q⟩ | ⟨e, q⟩
    · subst e
      cases q
      have hl : i < ρ.length := by
        have := (List.getElem?_eq_some_iff.mp h).1
        simpa using this
      exact ⟨v, set_at (by rw [← R.len]; exact hl), r⟩
    · have s := R.slot j sv q
      cases sv with
      | st d => exact let ⟨v, h1, h2⟩ := s; ⟨v, by rw [List.getElem?_set_ne e]; exact h1, h2⟩
      | ow d => exact let ⟨a, h1, h2, h3⟩ := s; ⟨a, by rw [List.getElem?_set_ne e]; exact h1, h2, h3⟩
  · have ne : i ≠ p.1 := fun e => hi (by rw [e]; exact List.mem_map_of_mem hp)
    rw [List.getElem?_set_ne ne]
    exact R.ios p hp
/-- a name takes what is owned by none -/
theorem RR.take {i : Nat} {p : Addr} {d : D} (R : RR K C S σ H ρ ((p, d) :: hid)) (hi : i ∉ C.ioS) : RR K C S (σ.set i (some (.ref p))) H (ρ.set i (some (.ow d))) hid := by
  obtain ⟨G, R⟩ := R
  obtain ⟨g1, h0, ow⟩ := R.hd (p, d) List.mem_cons_self
  have g1 : G p = some none := g1
  have ow : Ow K S H p d := ow
  have nd := List.nodup_cons.mp R.nd
  refine ⟨G.on p (some i), R.sub, fun a l h => ?_, fun j sv h => ?_, fun q hq => ?_, nd.2, R.old, R.frm, fun q hq => ?_, R.ioh, fun q hq => (Own.on_ne fun e => by
      have z := R.iog q hq
      rw [e, g1] at z
      cases z).trans (R.iog q hq), by rw [List.length_set, List.length_set]; exact R.len⟩
  · by_cases e : a = p
    · subst e
      exact R.gs _ _ g1
    · rw [Own.on_ne e] at h
      exact R.gs a l h
  · rcases set_get h with ⟨e, q⟩ | ⟨e, q⟩
    · subst e
      cases q
      have hl : i < ρ.length := by
        have := (List.getElem?_eq_some_iff.mp h).1
        simpa using this
      exact ⟨p, set_at (by rw [← R.len]; exact hl), Own.on_self, ow⟩
    · have s := R.slot j sv q
      cases sv with
      | st d => exact let ⟨v, h1, h2⟩ := s; ⟨v, by rw [List.getElem?_set_ne e]; exact h1, h2⟩
      | ow d =>
        obtain ⟨a, h1, h2, h3⟩ := s
        have ne : a ≠ p := fun z => by
          rw [z, g1] at h2
          cases h2
        exact ⟨a, by rw [List.getElem?_set_ne e]; exact h1, (Own.on_ne ne).trans h2, h3⟩
  · obtain ⟨h1, h2, h3⟩ := R.hd q (List.mem_cons_of_mem _ hq)
    have ne : q.1 ≠ p := fun e => nd.1 (List.mem_map.mpr ⟨q, hq, e⟩)
    exact ⟨(Own.on_ne ne).trans h1, h2, h3⟩
  · have ne : i ≠ q.1 := fun e => hi (by rw [e]; exact List.mem_map_of_mem hq)
    rw [List.getElem?_set_ne ne]
    exact R.ios q hq
/-- what a slot owns changes -/
theorem RR.write {i : Nat} {d : D} (R : RR K C S σ H ρ hid) (h : ρ[i]? = some (some (.ow d))) :
    ∃ a o, σ[i]? = some (some (.ref a)) ∧ H a = some o ∧ S a = none ∧ OwO K S o d ∧ ∀ o' d', OwO K S o' d' → RR K C S σ (upd H a o') (ρ.set i (some (.ow d'))) hid := by
  obtain ⟨G, R⟩ := R
  obtain ⟨a, h1, h2, o, h3, h4⟩ := R.slot i _ h
  have hS := (R.gs a _ h2).1
  refine ⟨a, o, h1, h3, hS, h4, fun o' d' ow => ⟨G, same_updR R.sub hS, fun b l z => ⟨(R.gs b l z).1, by
      by_cases e : b = a
      · rw [e, upd_same]
        exact nofun
      · rw [upd_ne e]
        exact (R.gs b l z).2.1, (R.gs b l z).2.2⟩, fun j sv q => ?_, fun q hq => ?_, R.nd, R.old, fun b x e hm => ?_, R.ios, fun b hm => ?_, R.iog, by rw [List.length_set]; exact R.len⟩⟩
  · rcases set_get q with ⟨e, q2⟩ | ⟨e, q⟩
    · subst e
      cases q2
      exact ⟨a, h1, h2, o', upd_same, ow⟩
    · have s := R.slot j sv q
      cases sv with
      | st d => exact s
      | ow d =>
        obtain ⟨b, g1, g2, g3⟩ := s
        have ne : b ≠ a := fun z => by
          rw [z, h2] at g2
          exact e (Option.some.inj (Option.some.inj g2))
        exact ⟨b, g1, g2, g3.keep (upd_ne ne)⟩
  · obtain ⟨g1, g2, g3⟩ := R.hd q hq
    have ne : q.1 ≠ a := fun z => by
      rw [z, h2] at g1
      cases g1
    exact ⟨g1, g2, g3.keep (upd_ne ne)⟩
  · have ne : b ≠ a := fun z => by
      subst z
      rcases (R.gs _ _ h2).2.2 with z | z
      · rw [z] at e
        cases e
      · exact hm z
    rw [upd_ne ne]
    exact R.frm b x e hm
  · by_cases z : b = a
    · subst z
      rw [upd_same]
      exact nofun
    · rw [upd_ne z]
      exact R.ioh b hm
/-- a slot lets go what it owns -/
theorem RR.letGo {i : Nat} {d : D} (R : RR K C S σ H ρ hid) (h : ρ[i]? = some (some (.ow d))) (hi : i ∉ C.ioS) :
    ∃ a, σ[i]? = some (some (.ref a)) ∧ RR K C S σ H (ρ.set i none) ((a, d) :: hid) := by
  obtain ⟨G, R⟩ := R
  obtain ⟨a, h1, h2, ow⟩ := R.slot i _ h
  have hS := (R.gs a _ h2).1
  have nh : a ∉ hid.map (·.1) := fun hm => by
    obtain ⟨q, hq, e⟩ := List.mem_map.mp hm
    have := (R.hd q hq).1
    rw [e, h2] at this
    cases this
  have nio : ∀ q ∈ C.io, q.2 ≠ a := fun q hq e => by
    have z := R.iog q hq
    rw [e, h2] at z
    have z : i = q.1 := Option.some.inj (Option.some.inj z)
    exact hi (by rw [z]; exact List.mem_map_of_mem hq)
  have h0 : C.H0 a = none := by
    rcases (R.gs a _ h2).2.2 with z | z
    · exact z
    · obtain ⟨q, hq, e⟩ := List.mem_map.mp z
      exact absurd e (nio q hq)
  refine ⟨a, h1, ⟨G.on a none, R.sub, fun b l e => ?_, fun j sv q => ?_, fun q hq => ?_, List.nodup_cons.mpr ⟨nh, R.nd⟩, R.old, R.frm, R.ios, R.ioh, fun q hq => (Own.on_ne (nio q hq)).trans (R.iog q hq), by rw [List.length_set]; exact R.len⟩⟩
  · by_cases z : b = a
    · subst z
      exact ⟨hS, (R.gs _ _ h2).2.1, .inl h0⟩
    · rw [Own.on_ne z] at e
      exact R.gs b l e
  · rcases set_get q with ⟨e, q⟩ | ⟨e, q⟩
    · cases q
    · have s := R.slot j sv q
      cases sv with
      | st d => exact s
      | ow d =>
        obtain ⟨b, g1, g2, g3⟩ := s
        have ne : b ≠ a := fun z => by
          rw [z, h2] at g2
          exact e (Option.some.inj (Option.some.inj g2))
        exact ⟨b, g1, (Own.on_ne ne).trans g2, g3⟩
  · rcases List.mem_cons.mp hq with e | hq
    · subst e
      exact ⟨Own.on_self, h0, ow⟩
    · obtain ⟨g1, g2, g3⟩ := R.hd q hq
      have ne : q.1 ≠ a := fun z => nh (List.mem_map.mpr ⟨q, hq, z⟩)
      exact ⟨(Own.on_ne ne).trans g1, g2, g3⟩
/-- a slot's own becomes a thing that stands still -/
theorem RR.freezeSlot {i : Nat} {d : D} (R : RR K C S σ H ρ hid) (h : ρ[i]? = some (some (.ow d))) (hi : i ∉ C.ioS) : ∃ S' a, Same S S' ∧ σ[i]? = some (some (.ref a)) ∧ RR K C S' σ H (ρ.set i (some (.st d))) hid ∧ Rp K S' (.ref a) d := by
  obtain ⟨a, h1, R1⟩ := R.letGo h hi
  obtain ⟨S', s, R2, r⟩ := R1.freeze
  have R3 := R2.setSt (i := i) r hi
  have e : σ.set i (some (.ref a)) = σ := by
    obtain ⟨hl, e⟩ := List.getElem?_eq_some_iff.mp h1
    rw [← e]
    exact List.set_getElem_self hl
  rw [e, List.set_set] at R3
  exact ⟨S', a, s, h1, R3, r⟩
end
end VS

set_option Elab.async false
set_option linter.all false
set_option maxRecDepth 100000
/-! VsB: the readings by plain functions: expressions, operands, operators, tests, statements. -/
namespace VS
open PySem PySem.Spec PyProof.Rows L2

inductive Out where
  | nx (ρ : Env') | bk (ρ : Env') | ct (ρ : Env') | rt (d : D) (ρ : Env') | rf (d : D) (ρ : Env')
abbrev ME := Env' → Option (D × Env')
abbrev MT := Env' → Option (Bool × Env')
abbrev MS := Env' → Option Out

def rdE (K : Frag') (C : Ct) (m : ME) : TE := fun σ H Q => ∃ S ρ hid, RR K C S σ H ρ hid ∧ ∃ d ρ', m ρ = some (d, ρ') ∧ ∀ S' v H', Same S S' → RR K C S' σ H' ρ' hid → Rp K S' v d → Q v H'
def rdF (K : Frag') (C : Ct) (m : ME) : TE := fun σ H Q => ∃ S ρ hid, RR K C S σ H ρ hid ∧ ∃ d ρ', m ρ = some (d, ρ') ∧ ∀ S' p H', Same S S' → RR K C S' σ H' ρ' ((p, d) :: hid) → Q (.ref p) H'
def rdT (K : Frag') (C : Ct) (m : MT) : TT := fun σ H Q => ∃ S ρ hid, RR K C S σ H ρ hid ∧ ∃ b ρ', m ρ = some (b, ρ') ∧ ∀ S' H', Same S S' → RR K C S' σ H' ρ' hid → Q b H'
def OutQ (K : Frag') (C : Ct) (S : Hp) (hid : Hid) (Dn : Ends) : Out → Prop
  | .nx ρ' => ∀ S' σ' H', Same S S' → RR K C S' σ' H' ρ' hid → Dn.nx σ' H'
  | .bk ρ' => ∀ S' σ' H', Same S S' → RR K C S' σ' H' ρ' hid → Dn.bk σ' H'
  | .ct ρ' => ∀ S' σ' H', Same S S' → RR K C S' σ' H' ρ' hid → Dn.ct σ' H'
  | .rt d ρ' => ∀ S' σ' v H', Same S S' → RR K C S' σ' H' ρ' hid → Rp K S' v d → Dn.rt v H'
  | .rf d ρ' => ∀ S' σ' p H', Same S S' → RR K C S' σ' H' ρ' ((p, d) :: hid) → Dn.rt (.ref p) H'
def rdS (K : Frag') (C : Ct) (m : MS) : TS := fun Dn σ H => ∃ S ρ hid, RR K C S σ H ρ hid ∧ ∃ o, m ρ = some o ∧ OutQ K C S hid Dn o

theorem OutQ.same {K : Frag'} {C : Ct} {S S1 : Hp} {hid : Hid} {Dn : Ends} {o : Out} (h : OutQ K C S hid Dn o) (e : Same S S1) : OutQ K C S1 hid Dn o := by
  cases o with
  | nx ρ => exact fun S' σ' H' s R => h S' σ' H' (e.trans s) R
  | bk ρ => exact fun S' σ' H' s R => h S' σ' H' (e.trans s) R
  | ct ρ => exact fun S' σ' H' s R => h S' σ' H' (e.trans s) R
  | rt d ρ => exact fun S' σ' v H' s R r => h S' σ' v H' (e.trans s) R r
  | rf d ρ => exact fun S' σ' p H' s R => h S' σ' p H' (e.trans s) R

/-! ### weaker readings -/
section
variable {X : Cx} {e : Expr} {st : Stmt} {sts : List Stmt}
theorem PE.imp {t t' : TE} (h : PE X e t) (i : ∀ σ H Q, t' σ H Q → t σ H Q) : PE X e t' := ⟨fun pins s σ H Q I q => h.run pins s σ H Q I (i σ H Q q)⟩
theorem PT.imp {t t' : TT} (h : PT X e t) (i : ∀ σ H Q, t' σ H Q → t σ H Q) : PT X e t' := ⟨fun pins s σ H Q I q => h.run pins s σ H Q I (i σ H Q q)⟩
theorem PW.imp {t t' : TT} (h : PW X e t) (i : ∀ σ H Q, t' σ H Q → t σ H Q) : PW X e t' := ⟨fun wh pins s σ H Q I q => h.run wh pins s σ H Q I (i σ H Q q)⟩
theorem PS.imp {t t' : TS} (h : PS X st t) (i : ∀ Dn σ H, t' Dn σ H → t Dn σ H) : PS X st t' := ⟨fun pins s σ H Dn I q => h.run pins s σ H Dn I (i Dn σ H q)⟩
theorem PSs.imp {t t' : TS} (h : PSs X sts t) (i : ∀ Dn σ H, t' Dn σ H → t Dn σ H) : PSs X sts t' := ⟨fun pins s σ H Dn I q => h.run pins s σ H Dn I (i Dn σ H q)⟩
end

/-! ### values at a place and time -/
def At (K : Frag') (S H : Hp) (v : V) (d : D) : Prop := Rp K S v d ∨ ∃ a, v = .ref a ∧ S a = none ∧ Ow K S H a d
abbrev AtAll (K : Frag') (S H : Hp) : List V → List D → Prop := Paired (At K S H)
theorem At.rp {K : Frag'} {S H : Hp} {v : V} {d : D} (h : Rp K S v d) : At K S H v d := .inl h
def look (ρ : Env') (i : Nat) : Option D := match ρ[i]? with
  | some (some (.st d)) => some d
  | some (some (.ow d)) => some d
  | _ => none
theorem RR.look {K : Frag'} {C : Ct} {S : Hp} {σ : L2.St} {H : Hp} {ρ : Env'} {hid : Hid} (R : RR K C S σ H ρ hid) {i : Nat} {d : D} (h : look ρ i = some d) : ∃ v, σ[i]? = some (some v) ∧ At K S H v d := by
  obtain ⟨G, R⟩ := R
  unfold VS.look at h
  split at h
  · rename_i d' e
    cases h
    obtain ⟨v, h1, h2⟩ := R.slot i _ e
    exact ⟨v, h1, .inl h2⟩
  · rename_i d' e
    cases h
    obtain ⟨a, h1, h2, h3⟩ := R.slot i _ e
    exact ⟨.ref a, h1, .inr ⟨a, rfl, (R.gs a _ h2).1, h3⟩⟩
  · cases h
theorem RR.sub {K : Frag'} {C : Ct} {S : Hp} {σ : L2.St} {H : Hp} {ρ : Env'} {hid : Hid} (R : RR K C S σ H ρ hid) : Same S H := let ⟨_, R⟩ := R; R.sub
theorem At.int {K : Frag'} {S H : Hp} {v : V} {i : Int} (h : At K S H v (.int i)) : v = .int i := by
  rcases h with h | ⟨a, _, _, o, _, h⟩
  · cases h
    rfl
  · cases o <;> exact False.elim h
theorem At.bool {K : Frag'} {S H : Hp} {v : V} {i : Bool} (h : At K S H v (.bool i)) : v = .bl i := by
  rcases h with h | ⟨a, _, _, o, _, h⟩
  · cases h
    rfl
  · cases o <;> exact False.elim h
theorem At.none {K : Frag'} {S H : Hp} {v : V} (h : At K S H v .none) : v = .non := by
  rcases h with h | ⟨a, _, _, o, _, h⟩
  · cases h
    rfl
  · cases o <;> exact False.elim h
theorem At.str {K : Frag'} {S H : Hp} {v : V} {i : Str} (h : At K S H v (.str i)) : v = .str i := by
  rcases h with h | ⟨a, _, _, o, _, h⟩
  · cases h
    rfl
  · cases o <;> exact False.elim h
theorem At.tup {K : Frag'} {S H : Hp} {v : V} {ds : List D} (h : At K S H v (.tuple ds)) : ∃ a xs, v = .ref a ∧ SqT K S a xs ∧ DpAll K S xs ds := by
  rcases h with h | ⟨a, _, _, o, _, h⟩
  · cases h with
    | tup h r => exact ⟨_, _, rfl, h, r⟩
  · cases o <;> exact False.elim h
theorem At.lst {K : Frag'} {S H : Hp} {v : V} {ds : List D} (h : At K S H v (.list ds)) (e : Same S H) : ∃ a xs, v = .ref a ∧ SqL K H a xs ∧ DpAll K S xs ds := by
  rcases h with h | ⟨a, e1, _, o, e2, h⟩
  · cases h with
    | lst h r => exact ⟨_, _, rfl, e.seq h, r⟩
  · cases o with
    | lst xs => exact ⟨a, xs, e1, .inl (.inl e2), h⟩
    | _ => exact False.elim h
theorem At.dp {K : Frag'} {S H : Hp} {v : V} {d : D} (h : At K S H v d) (e : Same S H) (n : noDict d = true) : Dp K H v d := by
  rcases h with h | ⟨a, e1, e0, o, e2, h⟩
  · exact Dp.same e (h.dp n)
  · cases d with
    | dict kvs => cases n
    | list ds =>
      cases o with
      | lst xs =>
        subst e1
        exact .lst (.inl (.inl e2)) (DpAll.same e h)
      | _ => exact False.elim h
    | _ => cases o <;> exact False.elim h

/-! ### operands: an expression, or a name (its value is looked up when all are known) -/
inductive Opd where
  | ex (m : ME) | nm (i : Nat)
def rdO (K : Frag') (C : Ct) : Opd → TE
  | .ex m => rdE K C m
  | .nm i => tVar i
def evp : List Opd → Env' → Option (List (Option D) × Env')
  | [], ρ => some ([], ρ)
  | .ex m :: r, ρ => (m ρ).bind fun p => (evp r p.2).bind fun q => some (some p.1 :: q.1, q.2)
  | .nm i :: r, ρ => (look ρ i).bind fun _ => (evp r ρ).bind fun q => some (none :: q.1, q.2)
def res : List Opd → List (Option D) → Env' → Option (List D)
  | [], _, _ => some []
  | .ex _ :: r, some d :: ps, ρ => (res r ps ρ).map (d :: ·)
  | .nm i :: r, _ :: ps, ρ => (look ρ i).bind fun d => (res r ps ρ).map (d :: ·)
  | _, _, _ => none
def evs (os : List Opd) (ρ : Env') : Option (List D × Env') := (evp os ρ).bind fun q => (res os q.1 q.2).bind fun ds => some (ds, q.2)
/-- what the operands' values are, ahead of the look-up -/
inductive PreAll (K : Frag') (S : Hp) (σ : L2.St) : List Opd → List (Option D) → List V → Prop where
  | nil : PreAll K S σ [] [] []
  | ex {m : ME} {d : D} {v : V} {os : List Opd} {ps : List (Option D)} {vs : List V} : Rp K S v d → PreAll K S σ os ps vs → PreAll K S σ (.ex m :: os) (some d :: ps) (v :: vs)
  | nm {i : Nat} {v : V} {os : List Opd} {ps : List (Option D)} {vs : List V} : σ[i]? = some (some v) → PreAll K S σ os ps vs → PreAll K S σ (.nm i :: os) (none :: ps) (v :: vs)
theorem res_ok {K : Frag'} {C : Ct} {S : Hp} {σ : L2.St} {H : Hp} {ρ : Env'} {hid : Hid} (R : RR K C S σ H ρ hid) : ∀ {os : List Opd} {ps : List (Option D)} {vs : List V} {ds : List D}, PreAll K S σ os ps vs → res os ps ρ = some ds → AtAll K S H vs ds
  | _, _, _, _, .nil, h => by
    cases h
    exact .nil
  | _, _, _, _, .ex r t, h => by
    unfold res at h
    obtain ⟨ds, h1, h2⟩ := Option.map_eq_some_iff.mp h
    subst h2
    exact .cons (.inl r) (res_ok R t h1)
  | _, _, _, _, .nm e t, h => by
    unfold res at h
    obtain ⟨d, h1, h⟩ := Option.bind_eq_some_iff.mp h
    obtain ⟨ds, h2, h3⟩ := Option.map_eq_some_iff.mp h
    subst h3
    obtain ⟨v, g1, g2⟩ := R.look h1
    rw [e] at g1
    cases g1
    exact .cons g2 (res_ok R t h2)
/-- the operands in a row -/
def tOs (K : Frag') (C : Ct) : List Opd → TA
  | [] => tNil
  | o :: os => tCons (rdO K C o) (tOs K C os)
theorem tOs_pre {K : Frag'} {C : Ct} {σ : L2.St} : ∀ {os : List Opd} {S : Hp} {H : Hp} {ρ ρ' : Env'} {hid : Hid} {ps : List (Option D)} {Q : List V → Hp → Prop}, RR K C S σ H ρ hid → evp os ρ = some (ps, ρ') →
    (∀ S' vs H', Same S S' → RR K C S' σ H' ρ' hid → PreAll K S' σ os ps vs → Q vs H') → tOs K C os σ H Q
  | [], S, H, ρ, ρ', hid, ps, Q, R, h, q => by
    cases h
    exact q S [] H (Same.refl S) R .nil
  | .ex m :: os, S, H, ρ, ρ', hid, ps, Q, R, h, q => by
    unfold evp at h
    obtain ⟨⟨d, ρ1⟩, h1, h⟩ := Option.bind_eq_some_iff.mp h
    obtain ⟨⟨ps2, ρ2⟩, h2, h⟩ := Option.bind_eq_some_iff.mp h
    cases h
    refine ⟨S, ρ, hid, R, d, ρ1, h1, fun S1 v H1 e1 R1 r1 => ?_⟩
    exact tOs_pre R1 h2 fun S2 vs H2 e2 R2 r2 => q S2 (v :: vs) H2 (e1.trans e2) R2 (.ex (r1.same e2) r2)
  | .nm i :: os, S, H, ρ, ρ', hid, ps, Q, R, h, q => by
    unfold evp at h
    obtain ⟨d, h1, h⟩ := Option.bind_eq_some_iff.mp h
    obtain ⟨⟨ps2, ρ2⟩, h2, h⟩ := Option.bind_eq_some_iff.mp h
    cases h
    obtain ⟨v, g1, g2⟩ := R.look h1
    refine ⟨v, g1, ?_⟩
    exact tOs_pre R h2 fun S2 vs H2 e2 R2 r2 => q S2 (v :: vs) H2 e2 R2 (.nm g1 r2)
theorem tOs_ok {K : Frag'} {C : Ct} {σ : L2.St} {os : List Opd} {S : Hp} {H : Hp} {ρ ρ' : Env'} {hid : Hid} {ds : List D} {Q : List V → Hp → Prop} (R : RR K C S σ H ρ hid) (h : evs os ρ = some (ds, ρ'))
    (q : ∀ S' vs H', Same S S' → RR K C S' σ H' ρ' hid → AtAll K S' H' vs ds → Q vs H') : tOs K C os σ H Q := by
  unfold evs at h
  obtain ⟨⟨ps, ρ1⟩, h1, h⟩ := Option.bind_eq_some_iff.mp h
  obtain ⟨ds1, h2, h⟩ := Option.bind_eq_some_iff.mp h
  cases h
  exact tOs_pre R h1 fun S' vs H' e R' p => q S' vs H' e R' (res_ok R' p h2)

/-! ### operations by values -/
abbrev RV := List V → Hp → VK → Prop
/-- the result stands still -/
def OpOk (K : Frag') (r : RV) (f : List D → Option D) : Prop := ∀ (C : Ct) (S : Hp) (σ : L2.St) (H : Hp) (ρ : Env') (hid : Hid) (vs : List V) (ds : List D) (d : D) (Q : VK), RR K C S σ H ρ hid → AtAll K S H vs ds → f ds = some d →
  (∀ S' v H', Same S S' → RR K C S' σ H' ρ hid → Rp K S' v d → Q v H') → r vs H Q
/-- the result is a new list or dict -/
def OpFr (K : Frag') (r : RV) (f : List D → Option D) : Prop := ∀ (C : Ct) (S : Hp) (σ : L2.St) (H : Hp) (ρ : Env') (hid : Hid) (vs : List V) (ds : List D) (d : D) (Q : VK), RR K C S σ H ρ hid → AtAll K S H vs ds → f ds = some d →
  (∀ S' p H', Same S S' → RR K C S' σ H' ρ ((p, d) :: hid) → Q (.ref p) H') → r vs H Q
theorem OpFr.ok {K : Frag'} {r : RV} {f : List D → Option D} (h : OpFr K r f) : OpOk K r f := fun C S σ H ρ hid vs ds d Q R a e q =>
  h C S σ H ρ hid vs ds d Q R a e fun S' p H' s R' => by
    obtain ⟨S2, s2, R2, r2⟩ := R'.freeze
    exact q S2 (.ref p) H' (s.trans s2) R2 r2
def mOp (f : List D → Option D) (os : List Opd) : ME := fun ρ => (evs os ρ).bind fun q => (f q.1).bind fun d => some (d, q.2)
theorem mOp_st {K : Frag'} {C : Ct} {r : RV} {f : List D → Option D} {os : List Opd} (h : OpOk K r f) {σ : L2.St} {H : Hp} {Q : VK} (q : rdE K C (mOp f os) σ H Q) : tOs K C os σ H fun vs H' => r vs H' Q := by
  obtain ⟨S, ρ, hid, R, d, ρ', e, q⟩ := q
  obtain ⟨⟨ds, ρ1⟩, h1, e⟩ := Option.bind_eq_some_iff.mp e
  obtain ⟨d1, h2, e⟩ := Option.bind_eq_some_iff.mp e
  cases e
  exact tOs_ok R h1 fun S' vs H' s R' a => h C S' σ H' ρ1 hid vs ds d Q R' a h2 fun S2 v H2 s2 R2 r2 => q S2 v H2 (s.trans s2) R2 r2
theorem mOp_fr {K : Frag'} {C : Ct} {r : RV} {f : List D → Option D} {os : List Opd} (h : OpFr K r f) {σ : L2.St} {H : Hp} {Q : VK} (q : rdF K C (mOp f os) σ H Q) : tOs K C os σ H fun vs H' => r vs H' Q := by
  obtain ⟨S, ρ, hid, R, d, ρ', e, q⟩ := q
  obtain ⟨⟨ds, ρ1⟩, h1, e⟩ := Option.bind_eq_some_iff.mp e
  obtain ⟨d1, h2, e⟩ := Option.bind_eq_some_iff.mp e
  cases e
  exact tOs_ok R h1 fun S' vs H' s R' a => h C S' σ H' ρ1 hid vs ds d Q R' a h2 fun S2 v H2 s2 R2 => q S2 v H2 (s.trans s2) R2
/-- what is new is used as it stands -/
theorem rdF_E {K : Frag'} {C : Ct} {m : ME} {σ : L2.St} {H : Hp} {Q : VK} (q : rdE K C m σ H Q) : rdF K C m σ H Q := by
  obtain ⟨S, ρ, hid, R, d, ρ', e, q⟩ := q
  exact ⟨S, ρ, hid, R, d, ρ', e, fun S' p H' s R' => by
    obtain ⟨S2, s2, R2, r2⟩ := R'.freeze
    exact q S2 (.ref p) H' (s.trans s2) R2 r2⟩
theorem e_of {X : Cx} {C : Ct} {e : Expr} {m : ME} (h : PE X e (rdF X.K C m)) : PE X e (rdE X.K C m) := PE.imp h fun _ _ _ q => rdF_E q
/-- a two-place reading by its list of values -/
def l2 (r : R2) : RV := fun vs H Q => match vs with
  | [x, y] => r x y H Q
  | _ => False
def l1 (r : V → Hp → VK → Prop) : RV := fun vs H Q => match vs with
  | [x] => r x H Q
  | _ => False
/-- a method's -/
def lm (r : V → List V → Hp → VK → Prop) : RV := fun vs H Q => match vs with
  | x :: xs => r x xs H Q
  | _ => False

section
variable {X : Cx} {C : Ct} {a b c : Expr} {pos : Pos}
/-- an operand of the text -/
def PO' (X : Cx) (C : Ct) (e : Expr) (o : Opd) : Prop := PE X e (rdO X.K C o)
theorem o_nm {i : Nat} {x : Str} (h : PE X (.Name x pos) (tVar i)) : PO' X C (.Name x pos) (.nm i) := h
theorem o_ex {e : Expr} {m : ME} (h : PE X e (rdE X.K C m)) : PO' X C e (.ex m) := h

/-! ### constants and names -/
def mC (d : D) : ME := fun ρ => some (d, ρ)
theorem rdC {d : D} {v : V} (h : Dp X.K (fun _ => none) v d) {σ : L2.St} {H : Hp} {Q : VK} (q : rdE X.K C (mC d) σ H Q) : tC v σ H Q := by
  obtain ⟨S, ρ, hid, R, d, ρ', e, q⟩ := q
  cases e
  exact q S v H (Same.refl S) R (Rp.of (Dp.same (fun _ _ z => by cases z) h))
theorem e_int {i : Int} {k : Nat} : PE X (.Constant (.int i) k pos) (rdE X.K C (mC (.int i))) := PE.imp pe_int fun _ _ _ q => rdC (.int i) q
theorem e_bool {b : Bool} {k : Nat} : PE X (.Constant (.bool b) k pos) (rdE X.K C (mC (.bool b))) := PE.imp pe_bl fun _ _ _ q => rdC (.bl b) q
theorem e_none {k : Nat} : PE X (.Constant .none k pos) (rdE X.K C (mC .none)) := PE.imp pe_non fun _ _ _ q => rdC .non q
theorem e_str {x : Str} {k : Nat} : PE X (.Constant (.str x) k pos) (rdE X.K C (mC (.str x))) := PE.imp pe_str fun _ _ _ q => rdC (.str x) q
/-- a name whose value stands still -/
def mN (i : Nat) : ME := fun ρ => match ρ[i]? with
  | some (some (.st d)) => some (d, ρ)
  | _ => none
theorem mN_some {i : Nat} {ρ ρ' : Env'} {d : D} (h : mN i ρ = some (d, ρ')) : ρ[i]? = some (some (.st d)) ∧ ρ' = ρ := by
  unfold mN at h
  split at h
  · rename_i d' e
    cases h
    exact ⟨e, rfl⟩
  · cases h
theorem e_nm {i : Nat} {x : Str} (h : PE X (.Name x pos) (tVar i)) : PE X (.Name x pos) (rdE X.K C (mN i)) := PE.imp h fun σ H Q q => by
  obtain ⟨S, ρ, hid, R, d, ρ', e, q⟩ := q
  obtain ⟨e1, rfl⟩ := mN_some e
  obtain ⟨G, R'⟩ := id R
  obtain ⟨v, h1, h2⟩ := R'.slot i _ e1
  exact ⟨v, h1, q S v H (Same.refl S) R h2⟩
/-- a constant of the module -/
theorem e_glob {x : Str} {u : Value} {v : V} {d : D} (hg : Gl X x) (hm : X.mg x = some u) (r : RelV v u) (h : Dp X.K (fun _ => none) v d) (hd : (x == ("__debug__" : Str)) = false := by decide) : PE X (.Name x pos) (rdE X.K C (mC d)) :=
  PE.imp (pe_glob hg hm r hd) fun _ _ _ q => rdC h q

/-! ### operators -/
theorem e_op {op : Operator} {r : R2} {f : List D → Option D} {o1 o2 : Opd} (ho : OpR X (binaryOp op) r) (hf : OpOk X.K (l2 r) f) (h1 : PO' X C a o1) (h2 : PO' X C b o2) : PE X (.BinOp a op b pos) (rdE X.K C (mOp f [o1, o2])) :=
  PE.imp (pe_op ho h1 h2) fun _ _ _ q => mOp_st hf q
theorem f_op {op : Operator} {r : R2} {f : List D → Option D} {o1 o2 : Opd} (ho : OpR X (binaryOp op) r) (hf : OpFr X.K (l2 r) f) (h1 : PO' X C a o1) (h2 : PO' X C b o2) : PE X (.BinOp a op b pos) (rdF X.K C (mOp f [o1, o2])) :=
  PE.imp (pe_op ho h1 h2) fun _ _ _ q => mOp_fr hf q
theorem e_un {op : UnaryOp} {r : V → Hp → VK → Prop} {f : List D → Option D} {o1 : Opd} (ho : UnR X (unaryOp op) r) (hf : OpOk X.K (l1 r) f) (h1 : PO' X C a o1) : PE X (.UnaryOp op a pos) (rdE X.K C (mOp f [o1])) :=
  PE.imp (pe_un ho h1) fun _ _ _ q => mOp_st hf q
theorem e_cmp {op : CmpOp} {r : R2} {f : List D → Option D} {o1 o2 : Opd} (ho : OpR X (compareOp op) r) (hf : OpOk X.K (l2 r) f) (h1 : PO' X C a o1) (h2 : PO' X C b o2) (hm : behindInMarks op b = false) : PE X (.Compare a [op] [b] pos) (rdE X.K C (mOp f [o1, o2])) :=
  PE.imp (pe_cmpR ho h1 h2 hm) fun _ _ _ q => mOp_st hf q
theorem e_ix {r : R2} {f : List D → Option D} {o1 o2 : Opd} (hr : IxR X r) (hf : OpOk X.K (l2 r) f) (h1 : PO' X C a o1) (h2 : PO' X C b o2) (hs : PlainIx b) : PE X (.Subscript a b pos) (rdE X.K C (mOp f [o1, o2])) :=
  PE.imp (pe_ix hr h1 h2 hs) fun _ _ _ q => mOp_st hf q

/-! ### arguments -/
inductive POs (X : Cx) (C : Ct) : List Expr → List Opd → Prop where
  | nil : POs X C [] []
  | cons {e : Expr} {es : List Expr} {o : Opd} {os : List Opd} : PO' X C e o → starEach (e :: es) X.env = (false, eval e X.env) :: starEach es X.env → POs X C es os → POs X C (e :: es) (o :: os)
theorem os_nil : POs X C [] [] := .nil
theorem os_cons {e : Expr} {es : List Expr} {o : Opd} {os : List Opd} (h : PO' X C e o) (r : POs X C es os) (hs : starEach (e :: es) X.env = (false, eval e X.env) :: starEach es X.env := by rfl) : POs X C (e :: es) (o :: os) := .cons h hs r
theorem POs.pa : ∀ {es : List Expr} {os : List Opd}, POs X C es os → PA X es (tOs X.K C os)
  | _, _, .nil => pa_nil
  | _, _, .cons h hs r => pa_cons h (POs.pa r) hs
end
end VS

set_option Elab.async false
set_option linter.all false
set_option maxRecDepth 100000
/-! VsC: tests, choices, statements, while, for. -/
namespace VS
open PySem PySem.Spec PyProof.Rows L2
section
variable {X : Cx} {C : Ct} {a b c e : Expr} {pos : Pos} {rest : List Expr}

/-! ### tests -/
def mTest (m : ME) : MT := fun ρ => (m ρ).bind fun p => match p.1 with
  | .bool b => some (b, p.2)
  | _ => none
theorem mTest_some {m : ME} {ρ ρ' : Env'} {b : Bool} (h : mTest m ρ = some (b, ρ')) : m ρ = some (.bool b, ρ') := by
  obtain ⟨⟨d, ρ1⟩, h1, h⟩ := Option.bind_eq_some_iff.mp h
  cases d <;> try cases h
  exact h1
theorem rdTest {K : Frag'} {m : ME} {σ : L2.St} {H : Hp} {Q : Bool → Hp → Prop} (q : rdT K C (mTest m) σ H Q) : rdE K C m σ H fun x H1 => ∃ k, x = .bl k ∧ Q k H1 := by
  obtain ⟨S, ρ, hid, R, b, ρ', e, q⟩ := q
  refine ⟨S, ρ, hid, R, .bool b, ρ', mTest_some e, fun S' v H' s R' r => ?_⟩
  cases r
  exact ⟨b, rfl, q S' H' s R'⟩
theorem t_val {m : ME} (h : PE X e (rdE X.K C m)) (he : ∀ whole, isTrue e X.env whole = (do let v ← whole; standAt e.pos; holding [v] (truthy v)) := by intro _; rfl) : PT X e (rdT X.K C (mTest m)) :=
  PT.imp (pt_val h he) fun _ _ _ q => rdTest q
theorem t_cmp {op : CmpOp} {r : R2} {f : List D → Option D} {o1 o2 : Opd} (ho : OpR X (compareOp op) r) (hf : OpOk X.K (l2 r) f) (h1 : PO' X C a o1) (h2 : PO' X C b o2) (hm : behindInMarks op b = false) : PT X (.Compare a [op] [b] pos) (rdT X.K C (mTest (mOp f [o1, o2]))) :=
  PT.imp (pt_cmpR ho h1 h2 hm) fun _ _ _ q => mOp_st hf (rdTest q)
/-- by truth -/
def truD : D → Option Bool
  | .none => some false
  | .bool b => some b
  | .int i => some (i != 0)
  | .str x => if x.length ≤ sizeLine then some ((x.length : Int) != 0) else none
  | .list ds => some (!ds.isEmpty)
  | .tuple ds => some (!ds.isEmpty)
  | .dict _ => none
theorem isEmpty_dp {K : Frag'} {S : Hp} {xs : List V} {ds : List D} (h : DpAll K S xs ds) : xs.isEmpty = ds.isEmpty := by
  cases h <;> rfl
theorem truD_ok {K : Frag'} {S H : Hp} {v : V} {d : D} {b : Bool} (e : Same S H) (h : At K S H v d) (t : truD d = some b) : TruV K v H b := by
  cases d with
  | none =>
    rw [h.none]
    cases t
    rfl
  | bool k =>
    rw [h.bool]
    cases t
    rfl
  | int i =>
    rw [h.int]
    cases t
    rfl
  | str x =>
    rw [h.str]
    have t : (if x.length ≤ sizeLine then some ((x.length : Int) != 0) else none) = some b := t
    by_cases hx : x.length ≤ sizeLine
    · rw [if_pos hx] at t
      exact ⟨hx, (Option.some.inj t).symm⟩
    · rw [if_neg hx] at t
      cases t
  | list ds =>
    obtain ⟨a, xs, rfl, hs, r⟩ := h.lst e
    cases t
    exact .inl ⟨xs, hs, by rw [isEmpty_dp r]⟩
  | tuple ds =>
    obtain ⟨a, xs, rfl, hs, r⟩ := h.tup
    cases t
    exact .inr (.inl ⟨xs, seqT_same e hs, by rw [isEmpty_dp r]⟩)
  | dict kvs => cases t
def mTru (o : Opd) : MT := fun ρ => (evs [o] ρ).bind fun p => match p.1 with
  | [d] => (truD d).bind fun b => some (b, p.2)
  | _ => none
theorem t_tru {o : Opd} (h : PO' X C e o) (he : ∀ whole, isTrue e X.env whole = (do let v ← whole; standAt e.pos; holding [v] (truthy v)) := by intro _; rfl) : PT X e (rdT X.K C (mTru o)) :=
  PT.imp (pt_truth h he) fun σ H Q q => by
    obtain ⟨S, ρ, hid, R, b, ρ', e, q⟩ := q
    obtain ⟨⟨ds, ρ1⟩, h1, h2⟩ := Option.bind_eq_some_iff.mp e
    cases ds with
    | nil => cases h2
    | cons d r =>
      cases r with
      | cons _ _ => cases h2
      | nil =>
        obtain ⟨b1, h3, h4⟩ := Option.bind_eq_some_iff.mp h2
        cases h4
        have z := tOs_ok (Q := fun vs H' => match vs with | [v] => ∃ k, TruV X.K v H' k ∧ Q k H' | _ => False) R h1 fun S' vs H' s R' al => by
          cases al with
          | cons h al =>
            cases al
            exact ⟨_, truD_ok R'.sub h h3, q S' H' s R'⟩
        exact z
def mNot (t : MT) : MT := fun ρ => (t ρ).bind fun p => some (!p.1, p.2)
def mAnd (t u : MT) : MT := fun ρ => (t ρ).bind fun p => if p.1 = true then u p.2 else some (false, p.2)
def mOr (t u : MT) : MT := fun ρ => (t ρ).bind fun p => if p.1 = true then some (true, p.2) else u p.2
theorem t_not {m : MT} (h : PT X a (rdT X.K C m)) : PT X (.UnaryOp .Not a pos) (rdT X.K C (mNot m)) := PT.imp (pt_not h) fun σ H Q q => by
  obtain ⟨S, ρ, hid, R, b, ρ', e, q⟩ := q
  obtain ⟨⟨b1, ρ1⟩, h1, h2⟩ := Option.bind_eq_some_iff.mp e
  cases h2
  exact ⟨S, ρ, hid, R, b1, ρ1, h1, fun S' H' s R' => q S' H' s R'⟩
theorem w_and1 {m : MT} (h : PT X a (rdT X.K C m)) : PW X (.BoolOp .And [a] pos) (rdT X.K C m) := pw_and1 h
theorem w_or1 {m : MT} (h : PT X a (rdT X.K C m)) : PW X (.BoolOp .Or [a] pos) (rdT X.K C m) := pw_or1 h
theorem w_and {m n : MT} (h : PT X a (rdT X.K C m)) (h2 : PW X (.BoolOp .And (b :: rest) pos) (rdT X.K C n)) : PW X (.BoolOp .And (a :: b :: rest) pos) (rdT X.K C (mAnd m n)) := PW.imp (pw_and h h2) fun σ H Q q => by
  obtain ⟨S, ρ, hid, R, k, ρ', e, q⟩ := q
  obtain ⟨⟨b1, ρ1⟩, h1, h2⟩ := Option.bind_eq_some_iff.mp e
  refine ⟨S, ρ, hid, R, b1, ρ1, h1, fun S' H' s R' => ?_⟩
  cases b1 with
  | true => exact ⟨S', ρ1, hid, R', k, ρ', h2, fun S2 H2 s2 R2 => q S2 H2 (s.trans s2) R2⟩
  | false =>
    cases h2
    exact q S' H' s R'
theorem w_or {m n : MT} (h : PT X a (rdT X.K C m)) (h2 : PW X (.BoolOp .Or (b :: rest) pos) (rdT X.K C n)) : PW X (.BoolOp .Or (a :: b :: rest) pos) (rdT X.K C (mOr m n)) := PW.imp (pw_or h h2) fun σ H Q q => by
  obtain ⟨S, ρ, hid, R, k, ρ', e, q⟩ := q
  obtain ⟨⟨b1, ρ1⟩, h1, h2⟩ := Option.bind_eq_some_iff.mp e
  refine ⟨S, ρ, hid, R, b1, ρ1, h1, fun S' H' s R' => ?_⟩
  cases b1 with
  | false => exact ⟨S', ρ1, hid, R', k, ρ', h2, fun S2 H2 s2 R2 => q S2 H2 (s.trans s2) R2⟩
  | true =>
    cases h2
    exact q S' H' s R'
theorem w_pt {m : MT} (h : PW X e (rdT X.K C m)) : PT X e (rdT X.K C m) := h.pt

/-! ### values by tests -/
/-- a and b, all but the last True or False -/
def mAndV (m n : ME) : ME := fun ρ => (m ρ).bind fun p => match p.1 with
  | .bool true => n p.2
  | .bool false => some (.bool false, p.2)
  | _ => none
def mOrV (m n : ME) : ME := fun ρ => (m ρ).bind fun p => match p.1 with
  | .bool true => some (.bool true, p.2)
  | .bool false => n p.2
  | _ => none
def mNotV (m : ME) : ME := fun ρ => (m ρ).bind fun p => match p.1 with
  | .bool k => some (.bool (!k), p.2)
  | _ => none
def mIf (t : MT) (m n : ME) : ME := fun ρ => (t ρ).bind fun p => if p.1 = true then m p.2 else n p.2
theorem v_one {op : BoolOp} {m : ME} (h : PE X a (rdE X.K C m)) : PE X (.BoolOp op [a] pos) (rdE X.K C m) := pe_one h
theorem v_and {m n : ME} (h : PE X a (rdE X.K C m)) (h2 : PE X (.BoolOp .And (b :: rest) pos) (rdE X.K C n)) : PE X (.BoolOp .And (a :: b :: rest) pos) (rdE X.K C (mAndV m n)) := PE.imp (pe_and h h2) fun σ H Q q => by
  obtain ⟨S, ρ, hid, R, k, ρ', e, q⟩ := q
  obtain ⟨⟨d, ρ1⟩, h1, h2⟩ := Option.bind_eq_some_iff.mp e
  refine ⟨S, ρ, hid, R, d, ρ1, h1, fun S' v H' s R' r => ?_⟩
  cases d with
  | bool b =>
    cases r
    refine ⟨b, rfl, ?_⟩
    cases b with
    | true => exact ⟨S', ρ1, hid, R', k, ρ', h2, fun S2 v H2 s2 R2 r => q S2 v H2 (s.trans s2) R2 r⟩
    | false =>
      cases h2
      exact q S' _ H' s R' (.of (.bl _))
  | _ => cases h2
theorem v_or {m n : ME} (h : PE X a (rdE X.K C m)) (h2 : PE X (.BoolOp .Or (b :: rest) pos) (rdE X.K C n)) : PE X (.BoolOp .Or (a :: b :: rest) pos) (rdE X.K C (mOrV m n)) := PE.imp (pe_or h h2) fun σ H Q q => by
  obtain ⟨S, ρ, hid, R, k, ρ', e, q⟩ := q
  obtain ⟨⟨d, ρ1⟩, h1, h2⟩ := Option.bind_eq_some_iff.mp e
  refine ⟨S, ρ, hid, R, d, ρ1, h1, fun S' v H' s R' r => ?_⟩
  cases d with
  | bool b =>
    cases r
    refine ⟨b, rfl, ?_⟩
    cases b with
    | false => exact ⟨S', ρ1, hid, R', k, ρ', h2, fun S2 v H2 s2 R2 r => q S2 v H2 (s.trans s2) R2 r⟩
    | true =>
      cases h2
      exact q S' _ H' s R' (.of (.bl _))
  | _ => cases h2
theorem v_not {m : ME} (h : PE X a (rdE X.K C m)) : PE X (.UnaryOp .Not a pos) (rdE X.K C (mNotV m)) := PE.imp (pe_not h) fun σ H Q q => by
  obtain ⟨S, ρ, hid, R, k, ρ', e, q⟩ := q
  obtain ⟨⟨d, ρ1⟩, h1, h2⟩ := Option.bind_eq_some_iff.mp e
  refine ⟨S, ρ, hid, R, d, ρ1, h1, fun S' v H' s R' r => ?_⟩
  cases d with
  | bool b =>
    cases r
    cases h2
    exact ⟨b, rfl, q S' _ H' s R' (.of (.bl _))⟩
  | _ => cases h2
theorem v_if {t : MT} {m n : ME} {c : Expr} (h : PT X c (rdT X.K C t)) (h1 : PE X a (rdE X.K C m)) (h2 : PE X b (rdE X.K C n)) : PE X (.IfExp c a b pos) (rdE X.K C (mIf t m n)) := PE.imp (pe_ifExp h h1 h2) fun σ H Q q => by
  obtain ⟨S, ρ, hid, R, k, ρ', e, q⟩ := q
  obtain ⟨⟨d, ρ1⟩, h1, h2⟩ := Option.bind_eq_some_iff.mp e
  refine ⟨S, ρ, hid, R, d, ρ1, h1, fun S' H' s R' => ?_⟩
  cases d with
  | true => exact ⟨S', ρ1, hid, R', k, ρ', h2, fun S2 v H2 s2 R2 r => q S2 v H2 (s.trans s2) R2 r⟩
  | false => exact ⟨S', ρ1, hid, R', k, ρ', h2, fun S2 v H2 s2 R2 r => q S2 v H2 (s.trans s2) R2 r⟩
end

/-! ### statements -/
section
variable {X : Cx} {C : Ct} {st : Stmt} {rest : List Stmt} {e : Expr} {pos : Pos}
def mNext : MS := fun ρ => some (.nx ρ)
def mSeq (m n : MS) : MS := fun ρ => (m ρ).bind fun o => match o with
  | .nx ρ' => n ρ'
  | o => some o
theorem ss_nil : PSs X [] (rdS X.K C mNext) := PSs.imp pss_nil fun Dn σ H q => by
  obtain ⟨S, ρ, hid, R, o, e, q⟩ := q
  cases e
  exact q S σ H (Same.refl S) R
theorem ss_cons {m n : MS} (h : PS X st (rdS X.K C m)) (h2 : PSs X rest (rdS X.K C n)) : PSs X (st :: rest) (rdS X.K C (mSeq m n)) := PSs.imp (pss_cons h h2) fun Dn σ H q => by
  obtain ⟨S, ρ, hid, R, o, e, q⟩ := q
  obtain ⟨o1, h1, h2⟩ := Option.bind_eq_some_iff.mp e
  refine ⟨S, ρ, hid, R, o1, h1, ?_⟩
  cases o1 with
  | nx ρ1 => exact fun S' σ' H' s R' => ⟨S', ρ1, hid, R', o, h2, q.same s⟩
  | bk ρ1 =>
    cases h2
    exact q
  | ct ρ1 =>
    cases h2
    exact q
  | rt d ρ1 =>
    cases h2
    exact q
  | rf d ρ1 =>
    cases h2
    exact q
theorem ss_one {m : MS} (h : PS X st (rdS X.K C m)) : PSs X [st] (rdS X.K C m) := pss_one h
theorem s_pass : PS X (.Pass pos) (rdS X.K C mNext) := PS.imp ps_pass fun Dn σ H q => by
  obtain ⟨S, ρ, hid, R, o, e, q⟩ := q
  cases e
  exact q S σ H (Same.refl S) R
def mBreak : MS := fun ρ => some (.bk ρ)
def mCont : MS := fun ρ => some (.ct ρ)
theorem s_break : PS X (.Break pos) (rdS X.K C mBreak) := PS.imp ps_break fun Dn σ H q => by
  obtain ⟨S, ρ, hid, R, o, e, q⟩ := q
  cases e
  exact q S σ H (Same.refl S) R
theorem s_cont : PS X (.Continue pos) (rdS X.K C mCont) := PS.imp ps_continue fun Dn σ H q => by
  obtain ⟨S, ρ, hid, R, o, e, q⟩ := q
  cases e
  exact q S σ H (Same.refl S) R
/-- an expression whose value is dropped -/
def mDrop (m : ME) : MS := fun ρ => (m ρ).bind fun p => some (.nx p.2)
theorem s_expr {m : ME} (h : PE X e (rdE X.K C m)) (hs : swapsWith e none pos.line X.env = pure false := by rfl) : PS X (.Expr e pos) (rdS X.K C (mDrop m)) := PS.imp (ps_expr h hs) fun Dn σ H q => by
  obtain ⟨S, ρ, hid, R, o, e, q⟩ := q
  obtain ⟨⟨d, ρ1⟩, h1, h2⟩ := Option.bind_eq_some_iff.mp e
  cases h2
  exact ⟨S, ρ, hid, R, d, ρ1, h1, fun S' v H' s R' r => q S' σ H' s R'⟩
def mRet (m : ME) : MS := fun ρ => (m ρ).bind fun p => some (.rt p.1 p.2)
def mRetF (m : ME) : MS := fun ρ => (m ρ).bind fun p => some (.rf p.1 p.2)
theorem s_ret {m : ME} (h : PE X e (rdE X.K C m)) : PS X (.Return (some e) pos) (rdS X.K C (mRet m)) := PS.imp (ps_ret h) fun Dn σ H q => by
  obtain ⟨S, ρ, hid, R, o, e, q⟩ := q
  obtain ⟨⟨d, ρ1⟩, h1, h2⟩ := Option.bind_eq_some_iff.mp e
  cases h2
  exact ⟨S, ρ, hid, R, d, ρ1, h1, fun S' v H' s R' r => q S' σ v H' s R' r⟩
theorem s_retF {m : ME} (h : PE X e (rdF X.K C m)) : PS X (.Return (some e) pos) (rdS X.K C (mRetF m)) := PS.imp (ps_ret h) fun Dn σ H q => by
  obtain ⟨S, ρ, hid, R, o, e, q⟩ := q
  obtain ⟨⟨d, ρ1⟩, h1, h2⟩ := Option.bind_eq_some_iff.mp e
  cases h2
  exact ⟨S, ρ, hid, R, d, ρ1, h1, fun S' p H' s R' => q S' σ p H' s R'⟩
/-- return of a name: what it owns goes out with it -/
def mRetN (i : Nat) : MS := fun ρ => match ρ[i]? with
  | some (some (.st d)) => some (.rt d ρ)
  | some (some (.ow d)) => some (.rf d (ρ.set i none))
  | _ => none
theorem s_retN {i : Nat} {x : Str} {p : Pos} (h : PE X (.Name x p) (tVar i)) (hi : i ∉ C.ioS) : PS X (.Return (some (.Name x p)) pos) (rdS X.K C (mRetN i)) := PS.imp (ps_ret h) fun Dn σ H q => by
  obtain ⟨S, ρ, hid, R, o, e, q⟩ := q
  unfold mRetN at e
  split at e
  · rename_i d h1
    cases e
    obtain ⟨G, R'⟩ := id R
    obtain ⟨v, g1, g2⟩ := R'.slot i _ h1
    exact ⟨v, g1, q S σ v H (Same.refl S) R g2⟩
  · rename_i d h1
    cases e
    obtain ⟨a, g1, g2⟩ := R.letGo h1 hi
    exact ⟨.ref a, g1, q S σ a H (Same.refl S) g2⟩
  · cases e
def mRetNone : MS := fun ρ => some (.rt .none ρ)
theorem s_retNone : PS X (.Return none pos) (rdS X.K C mRetNone) := PS.imp ps_retN fun Dn σ H q => by
  obtain ⟨S, ρ, hid, R, o, e, q⟩ := q
  cases e
  exact q S σ .non H (Same.refl S) R (.of .non)
/-- name = e -/
def mSet (i : Nat) (m : ME) : MS := fun ρ => (m ρ).bind fun p => some (.nx (p.2.set i (some (.st p.1))))
def mSetF (i : Nat) (m : ME) : MS := fun ρ => (m ρ).bind fun p => some (.nx (p.2.set i (some (.ow p.1))))
section
variable {i : Nat} {x : Str} {pos' : Pos}
theorem s_set {m : ME} (hN : X.N.Nodup) (hi : X.N[i]? = some x) (hx : Loc X.env.scope x) (hio : i ∉ C.ioS) (h : PE X e (rdE X.K C m)) (hs : swapsWith e (some (.Name x pos')) pos.line X.env = pure false := by rfl) (hf : X.fn x = true ∨ X.env.scope.names.lookup x = some .local := by first | exact .inl rfl | exact .inr rfl | assumption) :
    PS X (.Assign [.Name x pos'] e pos) (rdS X.K C (mSet i m)) := PS.imp (ps_set hN hi hx h hs hf) fun Dn σ H q => by
  obtain ⟨S, ρ, hid, R, o, e, q⟩ := q
  obtain ⟨⟨d, ρ1⟩, h1, h2⟩ := Option.bind_eq_some_iff.mp e
  cases h2
  exact ⟨S, ρ, hid, R, d, ρ1, h1, fun S' v H' s R' r => q S' _ H' s (R'.setSt r hio)⟩
theorem s_setF {m : ME} (hN : X.N.Nodup) (hi : X.N[i]? = some x) (hx : Loc X.env.scope x) (hio : i ∉ C.ioS) (h : PE X e (rdF X.K C m)) (hs : swapsWith e (some (.Name x pos')) pos.line X.env = pure false := by rfl) (hf : X.fn x = true ∨ X.env.scope.names.lookup x = some .local := by first | exact .inl rfl | exact .inr rfl | assumption) :
    PS X (.Assign [.Name x pos'] e pos) (rdS X.K C (mSetF i m)) := PS.imp (ps_set hN hi hx h hs hf) fun Dn σ H q => by
  obtain ⟨S, ρ, hid, R, o, e, q⟩ := q
  obtain ⟨⟨d, ρ1⟩, h1, h2⟩ := Option.bind_eq_some_iff.mp e
  cases h2
  exact ⟨S, ρ, hid, R, d, ρ1, h1, fun S' p H' s R' => q S' _ H' s (R'.take hio)⟩
/-- name = name: what is owned stands still from now on -/
def mSetN (i j : Nat) : MS := fun ρ => match ρ[j]? with
  | some (some (.st d)) => some (.nx (ρ.set i (some (.st d))))
  | some (some (.ow d)) => some (.nx ((ρ.set j (some (.st d))).set i (some (.st d))))
  | _ => none
theorem s_setN {j : Nat} {y : Str} {py : Pos} (hN : X.N.Nodup) (hi : X.N[i]? = some x) (hx : Loc X.env.scope x) (hio : i ∉ C.ioS) (hjo : j ∉ C.ioS) (h : PE X (.Name y py) (tVar j)) (hs : swapsWith (.Name y py) (some (.Name x pos')) pos.line X.env = pure false := by rfl) (hf : X.fn x = true ∨ X.env.scope.names.lookup x = some .local := by first | exact .inl rfl | exact .inr rfl | assumption) :
    PS X (.Assign [.Name x pos'] (.Name y py) pos) (rdS X.K C (mSetN i j)) := PS.imp (ps_set hN hi hx h hs hf) fun Dn σ H q => by
  obtain ⟨S, ρ, hid, R, o, e, q⟩ := q
  unfold mSetN at e
  split at e
  · rename_i d h1
    cases e
    obtain ⟨G, R'⟩ := id R
    obtain ⟨v, g1, g2⟩ := R'.slot j _ h1
    exact ⟨v, g1, q S _ H (Same.refl S) (R.setSt g2 hio)⟩
  · rename_i d h1
    cases e
    obtain ⟨S', a, s, g1, R', r⟩ := R.freezeSlot h1 hjo
    exact ⟨.ref a, g1, q S' _ H s (R'.setSt r hio)⟩
  · cases e
end

/-! ### targets -/
/-- the names of a target take what a value holds -/
inductive Tgt where
  | nm (i : Nat) | tu (is : List Nat)
def setAll : List Nat → List D → Env' → Option Env'
  | [], [], ρ => some ρ
  | i :: is, d :: ds, ρ => setAll is ds (ρ.set i (some (.st d)))
  | _, _, _ => none
def setT : Tgt → D → Env' → Option Env'
  | .nm i, d, ρ => some (ρ.set i (some (.st d)))
  | .tu is, .tuple ds, ρ => setAll is ds ρ
  | .tu is, .list ds, ρ => setAll is ds ρ
  | _, _, _ => none
def setV : List Nat → List V → L2.St → L2.St
  | i :: is, v :: vs, σ => setV is vs (σ.set i (some v))
  | _, _, σ => σ
def tgtI : Tgt → List Nat
  | .nm i => [i]
  | .tu is => is
/-- a target's reading, by what stands still -/
def rdG (K : Frag') (C : Ct) (t : Tgt) : TG := fun v σ H Q => ∃ S ρ hid d ρ', RR K C S σ H ρ hid ∧ Rp K S v d ∧ setT t d ρ = some ρ' ∧ ∀ σ', RR K C S σ' H ρ' hid → (∀ j, j ∉ tgtI t → σ'[j]? = σ[j]?) → Q σ' H
theorem g_nm {i : Nat} {x : Str} (hN : X.N.Nodup) (hi : X.N[i]? = some x) (hx : Loc X.env.scope x) (hio : i ∉ C.ioS) (hf : X.fn x = true ∨ X.env.scope.names.lookup x = some .local := by first | exact .inl rfl | exact .inr rfl | assumption) : PG X (.Name x pos) (rdG X.K C (.nm i)) := by
  have h := pg_name (pos := pos) hN hi hx hf
  refine ⟨fun pins s σ H v u Q I r q => h.run pins s σ H v u Q I r ?_⟩
  obtain ⟨S, ρ, hid, d, ρ', R, rp, e, q⟩ := q
  cases e
  exact q _ (R.setSt rp hio) fun j hj => List.getElem?_set_ne fun e => hj (List.mem_singleton.mpr e.symm)
inductive PGn (X : Cx) (C : Ct) : List Expr → List Nat → Prop where
  | nil : PGn X C [] []
  | cons {x : Str} {p : Pos} {es : List Expr} {i : Nat} {is : List Nat} : X.N[i]? = some x → Loc X.env.scope x → i ∉ C.ioS → (X.fn x = true ∨ X.env.scope.names.lookup x = some .local) → (assignEach (.Name x p :: es) X.env).map (·.2) = assign (.Name x p) X.env :: (assignEach es X.env).map (·.2) → PGn X C es is → PGn X C (.Name x p :: es) (i :: is)
theorem gn_nil : PGn X C [] [] := .nil
theorem gn_cons {x : Str} {p : Pos} {es : List Expr} {i : Nat} {is : List Nat} (hi : X.N[i]? = some x) (hx : Loc X.env.scope x) (hio : i ∉ C.ioS) (r : PGn X C es is) (hf : X.fn x = true ∨ X.env.scope.names.lookup x = some .local := by first | exact .inl rfl | exact .inr rfl | assumption)
    (hs : (assignEach (.Name x p :: es) X.env).map (·.2) = assign (.Name x p) X.env :: (assignEach es X.env).map (·.2) := by rfl) : PGn X C (.Name x p :: es) (i :: is) := .cons hi hx hio hf hs r
def gNames : List Nat → TGs
  | [] => gNil
  | i :: is => gCons (gName i) (gNames is)
theorem PGn.pgs (hN : X.N.Nodup) : ∀ {es : List Expr} {is : List Nat}, PGn X C es is → PGs X es (gNames is)
  | _, _, .nil => pgs_nil
  | _, _, .cons hi hx _ hf hs r => pgs_cons (pg_name hN hi hx hf) (PGn.pgs hN r) hs
theorem gNames_ok {K : Frag'} {C : Ct} : ∀ {is : List Nat} {vs : List V} {ds : List D} {S : Hp} {σ : L2.St} {H : Hp} {ρ ρ' : Env'} {hid : Hid} {Q : L2.St → Hp → Prop}, (∀ i ∈ is, i ∉ C.ioS) → RR K C S σ H ρ hid → DpAll K S vs ds → setAll is ds ρ = some ρ' →
    (∀ σ', RR K C S σ' H ρ' hid → (∀ j, j ∉ is → σ'[j]? = σ[j]?) → Q σ' H) → gNames is vs σ H Q
  | [], _, _, S, σ, H, ρ, ρ', hid, Q, hio, R, .nil, h, q => by
    cases h
    exact ⟨rfl, q σ R fun _ _ => rfl⟩
  | [], _, _, S, σ, H, ρ, ρ', hid, Q, hio, R, .cons _ _, h, q => by cases h
  | i :: is, _, _, S, σ, H, ρ, ρ', hid, Q, hio, R, .nil, h, q => by cases h
  | i :: is, _, _, S, σ, H, ρ, ρ', hid, Q, hio, R, .cons r rs, h, q => by
    refine ⟨_, _, rfl, ?_⟩
    refine gNames_ok (fun j hj => hio j (List.mem_cons_of_mem _ hj)) (R.setSt (i := i) (Rp.of r) (hio i List.mem_cons_self)) rs h fun σ' R' k => q σ' R' fun j hj => ?_
    rw [k j fun z => hj (List.mem_cons_of_mem _ z)]
    exact List.getElem?_set_ne fun e => hj (by rw [← e]; exact List.mem_cons_self)
theorem g_tu {es : List Expr} {k : Nat} {is : List Nat} (hc : X.calm = true) (hN : X.N.Nodup) (h : PGn X C es is) (hn : (assignEach es X.env).length = is.length := by rfl) (hst : (assignEach es X.env).findIdx? (·.1) = none := by rfl) : PG X (.Tuple es k pos) (rdG X.K C (.tu is)) := by
  have hio : ∀ {es : List Expr} {is : List Nat}, PGn X C es is → ∀ i ∈ is, i ∉ C.ioS := by
    intro es is h
    induction h with
    | nil => exact fun i hi => nomatch hi
    | cons _ _ h1 _ _ _ ih =>
      intro i hi
      rcases List.mem_cons.mp hi with e | hi
      · rw [e]
        exact h1
      · exact ih i hi
  have g := pg_tup (pos := pos) (k := k) hc (h.pgs hN) hn hst
  have gl := pg_lst (pos := pos) (k := k) hc (h.pgs hN) hn hst
  refine ⟨fun pins s σ H v u Q I r q => ?_⟩
  obtain ⟨S, ρ, hid, d, ρ', R, rp, e, q⟩ := q
  have hl : ∀ {is : List Nat} {ds : List D} {ρ ρ' : Env'}, setAll is ds ρ = some ρ' → is.length = ds.length := by
    intro is
    induction is with
    | nil =>
      intro ds ρ ρ' h
      cases ds with
      | nil => rfl
      | cons _ _ => cases h
    | cons i is ih =>
      intro ds ρ ρ' h
      cases ds with
      | nil => cases h
      | cons d ds => rw [List.length_cons, List.length_cons, ih (show setAll is ds _ = some ρ' from h)]
  cases d with
  | tuple ds =>
    refine g.run pins s σ H v u Q I r ?_
    obtain ⟨a, xs, rfl, hs, rs⟩ := (At.rp (H := H) rp).tup
    refine ⟨a, xs, rfl, seqT_same R.sub hs, by rw [DpAll.length rs, hl (show setAll is ds ρ = some ρ' from e)], ?_⟩
    exact gNames_ok (hio h) R rs e q
  | list ds =>
    refine gl.run pins s σ H v u Q I r ?_
    obtain ⟨a, xs, rfl, hs, rs⟩ := (At.rp (H := H) rp).lst R.sub
    refine ⟨a, xs, rfl, hs, by rw [DpAll.length rs, hl (show setAll is ds ρ = some ρ' from e)], ?_⟩
    exact gNames_ok (hio h) R rs e q
  | _ => cases e
/-- target = e -/
def mAsg (t : Tgt) (m : ME) : MS := fun ρ => (m ρ).bind fun p => (setT t p.1 p.2).bind fun ρ' => some (.nx ρ')
theorem s_asg {tg : Expr} {t : Tgt} {m : ME} (h : PE X e (rdE X.K C m)) (hg : PG X tg (rdG X.K C t)) (hs : swapsWithSole [tg] e pos.line X.env = pure false := by rfl) (hw : swappedStores [tg] e X.env = pure none := by rfl)
    (h1 : (assignEach [tg] X.env).map (·.2) = [assign tg X.env] := by rfl) : PS X (.Assign [tg] e pos) (rdS X.K C (mAsg t m)) := PS.imp (ps_asg h hg hs hw h1) fun Dn σ H q => by
  obtain ⟨S, ρ, hid, R, o, e, q⟩ := q
  obtain ⟨⟨d, ρ1⟩, h1, h2⟩ := Option.bind_eq_some_iff.mp e
  obtain ⟨ρ2, h3, h4⟩ := Option.bind_eq_some_iff.mp h2
  cases h4
  exact ⟨S, ρ, hid, R, d, ρ1, h1, fun S' v H' s R' r => ⟨S', ρ1, hid, d, ρ2, R', r, h3, fun σ' R2 _ => q S' σ' H' s R2⟩⟩

/-! ### if, while -/
def mIfS (t : MT) (m n : MS) : MS := fun ρ => (t ρ).bind fun p => if p.1 = true then m p.2 else n p.2
theorem s_if {c : Expr} {as bs : List Stmt} {t : MT} {m n : MS} (hc : PT X c (rdT X.K C t)) (ha : PSs X as (rdS X.K C m)) (hb : PSs X bs (rdS X.K C n)) : PS X (.If c as bs pos) (rdS X.K C (mIfS t m n)) := PS.imp (ps_if hc ha hb) fun Dn σ H q => by
  obtain ⟨S, ρ, hid, R, o, e, q⟩ := q
  obtain ⟨⟨b, ρ1⟩, h1, h2⟩ := Option.bind_eq_some_iff.mp e
  refine ⟨S, ρ, hid, R, b, ρ1, h1, fun S' H' s R' => ?_⟩
  cases b with
  | true => exact ⟨S', ρ1, hid, R', o, h2, q.same s⟩
  | false => exact ⟨S', ρ1, hid, R', o, h2, q.same s⟩
def whileN (t : MT) (m : MS) : Nat → MS
  | 0, _ => none
  | n + 1, ρ => (t ρ).bind fun p => if p.1 = true then (m p.2).bind fun o => match o with
      | .nx ρ' => whileN t m n ρ'
      | .ct ρ' => whileN t m n ρ'
      | .bk ρ' => some (.nx ρ')
      | o => some o
    else some (.nx p.2)
theorem s_while {c : Expr} {body : List Stmt} {t : MT} {m : MS} (n : Nat) (hp : PassesOwn (model X.prog X.w) X.A X.env X.xe) (hc : PT X c (rdT X.K C t)) (hb : PSs X body (rdS X.K C m)) : PS X (.While c body [] pos) (rdS X.K C (whileN t m n)) := PS.imp (ps_while hp hc hb) fun Dn σ H q => by
  obtain ⟨S, ρ, hid, R, o, e, q⟩ := q
  refine ⟨fun k σ1 H1 => ∃ S1 ρ1, Same S S1 ∧ RR X.K C S1 σ1 H1 ρ1 hid ∧ whileN t m k ρ1 = some o, ⟨n, S, ρ, Same.refl S, R, e⟩, ?_⟩
  rintro k σ1 H1 ⟨S1, ρ1, s1, R1, e1⟩
  cases k with
  | zero => cases e1
  | succ k =>
    unfold whileN at e1
    obtain ⟨⟨b, ρ2⟩, h1, h2⟩ := Option.bind_eq_some_iff.mp e1
    refine ⟨S1, ρ1, hid, R1, b, ρ2, h1, fun S2 H2 s2 R2 => ?_⟩
    cases b with
    | false =>
      cases h2
      exact q S2 _ H2 (s1.trans s2) R2
    | true =>
      rw [if_pos rfl] at h2 ⊢
      obtain ⟨o1, h3, h4⟩ := Option.bind_eq_some_iff.mp h2
      refine ⟨fun σ' H' => ∃ S3 ρ3, Same S S3 ∧ RR X.K C S3 σ' H' ρ3 hid ∧ whileN t m k ρ3 = some o, fun σ' H' z => ⟨k, Nat.lt_succ_self k, z⟩, S2, ρ2, hid, R2, o1, h3, ?_⟩
      cases o1 with
      | nx ρ3 => exact fun S3 σ3 H3 s3 R3 => ⟨S3, ρ3, (s1.trans s2).trans s3, R3, h4⟩
      | ct ρ3 => exact fun S3 σ3 H3 s3 R3 => ⟨S3, ρ3, (s1.trans s2).trans s3, R3, h4⟩
      | bk ρ3 =>
        cases h4
        exact fun S3 σ3 H3 s3 R3 => q S3 σ3 H3 ((s1.trans s2).trans s3) R3
      | rt d ρ3 =>
        cases h4
        exact OutQ.same (o := .rt d ρ3) q (s1.trans s2)
      | rf d ρ3 =>
        cases h4
        exact OutQ.same (o := .rf d ρ3) q (s1.trans s2)

/-! ### for -/
/-- an iterator yields these items -/
structure ItD (K : Frag') (C : Ct) (J : It) (S0 : Hp) (items : List D) : Prop where
  go : ∀ (i : Nat) (S : Hp) (σ : L2.St) (H : Hp) (ρ : Env') (hid : Hid), Same S0 S → RR K C S σ H ρ hid → i < items.length → J.go i H
  stop : ∀ (i : Nat) (S : Hp) (σ : L2.St) (H : Hp) (ρ : Env') (hid : Hid), Same S0 S → RR K C S σ H ρ hid → items.length ≤ i → J.stop i H
  yld : ∀ (i : Nat) (S : Hp) (σ : L2.St) (H : Hp) (ρ : Env') (hid : Hid) (x : V) (H' : Hp) (d : D), Same S0 S → RR K C S σ H ρ hid → items[i]? = some d → J.yld i H x H' → ∃ S', Same S S' ∧ RR K C S' σ H' ρ hid ∧ Rp K S' x d
abbrev MI := Env' → Option (List D × Env')
def rdI (K : Frag') (C : Ct) (m : MI) : TI := fun σ H R' => ∃ S ρ hid, RR K C S σ H ρ hid ∧ ∃ items ρ', m ρ = some (items, ρ') ∧ ∀ S' H' J, Same S S' → RR K C S' σ H' ρ' hid → ItD K C J S' items → R' J H'
def forL (t : Tgt) (m : MS) : List D → MS
  | [], ρ => some (.nx ρ)
  | d :: ds, ρ => (setT t d ρ).bind fun ρ1 => (m ρ1).bind fun o => match o with
    | .nx ρ' => forL t m ds ρ'
    | .ct ρ' => forL t m ds ρ'
    | .bk ρ' => some (.nx ρ')
    | o => some o
def mFor (t : Tgt) (i : MI) (m : MS) : MS := fun ρ => (i ρ).bind fun p => forL t m p.1 p.2
theorem s_for {tg iter : Expr} {body : List Stmt} {t : Tgt} {mi : MI} {m : MS} (hp : PassesOwn (model X.prog X.w) X.A X.env X.xe) (hc : X.calm = true) (hi : PI X tg iter (rdI X.K C mi)) (hg : PG X tg (rdG X.K C t)) (hb : PSs X body (rdS X.K C m))
    (hs : ∀ x, foldedSetIterable iter X.env x = pure x := by intro _; rfl) : PS X (.For tg iter body [] pos) (rdS X.K C (mFor t mi m)) := PS.imp (ps_for hp hc hi hg hb hs) fun Dn σ H q => by
  obtain ⟨S, ρ, hid, R, o, e, q⟩ := q
  obtain ⟨⟨items, ρ1⟩, h1, h2⟩ := Option.bind_eq_some_iff.mp e
  refine ⟨S, ρ, hid, R, items, ρ1, h1, fun S0 H0 J s0 R0 D0 => ?_⟩
  refine ⟨fun i k σ1 H1 => k = items.length - i ∧ i ≤ items.length ∧ ∃ S1 ρ1, Same S0 S1 ∧ RR X.K C S1 σ1 H1 ρ1 hid ∧ forL t m (items.drop i) ρ1 = some o, ⟨items.length, by simp, Nat.zero_le _, S0, ρ1, Same.refl _, R0, h2⟩, ?_⟩
  rintro i k σ1 H1 ⟨rfl, hi, S1, ρ1, s1, R1, e1⟩
  by_cases hlt : i < items.length
  · refine .inr ⟨D0.go i S1 σ1 H1 ρ1 hid s1 R1 hlt, fun σ' H' => ∃ S2 ρ2, Same S0 S2 ∧ RR X.K C S2 σ' H' ρ2 hid ∧ forL t m (items.drop (i + 1)) ρ2 = some o, fun σ' H' z => ⟨items.length - (i + 1), by omega, rfl, hlt, z⟩, fun x H' y => ?_⟩
    obtain ⟨S2, s2, R2, r2⟩ := D0.yld i S1 σ1 H1 ρ1 hid x H' items[i] s1 R1 (List.getElem?_eq_getElem hlt) y
    rw [List.drop_eq_getElem_cons hlt] at e1
    unfold forL at e1
    obtain ⟨ρ2, g1, g2⟩ := Option.bind_eq_some_iff.mp e1
    obtain ⟨o1, g3, g4⟩ := Option.bind_eq_some_iff.mp g2
    refine ⟨S2, ρ1, hid, items[i], ρ2, R2, r2, g1, fun σ3 R3 _ => ⟨S2, ρ2, hid, R3, o1, g3, ?_⟩⟩
    cases o1 with
    | nx ρ3 => exact fun S3 σ3 H3 s3 R3 => ⟨S3, ρ3, (s1.trans s2).trans s3, R3, g4⟩
    | ct ρ3 => exact fun S3 σ3 H3 s3 R3 => ⟨S3, ρ3, (s1.trans s2).trans s3, R3, g4⟩
    | bk ρ3 =>
      cases g4
      exact fun S3 σ3 H3 s3 R3 => q S3 σ3 H3 (((s0.trans s1).trans s2).trans s3) R3
    | rt d ρ3 =>
      cases g4
      exact OutQ.same (o := .rt d ρ3) q ((s0.trans s1).trans s2)
    | rf d ρ3 =>
      cases g4
      exact OutQ.same (o := .rf d ρ3) q ((s0.trans s1).trans s2)
  · have ei : i = items.length := by omega
    subst ei
    rw [List.drop_length] at e1
    cases e1
    exact .inl ⟨D0.stop _ S1 σ1 H1 ρ1 hid s1 R1 (Nat.le_refl _), q S1 σ1 H1 (s0.trans s1) R1⟩
end
end VS

set_option Elab.async false
set_option linter.all false
set_option maxRecDepth 100000
/-! VsD: defs by plain functions, their calls; methods that change a slot's own; stores; displays; comprehensions. -/
namespace VS
open PySem PySem.Spec PyProof.Rows L2

/-! ### a def's promise -/
/-- the parameters (their places) that the call may change, with their addresses -/
def IoOk (K : Frag') (S H : Hp) (vs : List V) (ds : List D) (io : List (Nat × Addr)) : Prop :=
  (io.map (·.2)).Nodup ∧ ∀ p ∈ io, vs[p.1]? = some (.ref p.2) ∧ S p.2 = none ∧ ∃ d, ds[p.1]? = some d ∧ Ow K S H p.2 d
def StOk (K : Frag') (S : Hp) (ios : List Nat) (vs : List V) (ds : List D) : Prop := ∀ (i : Nat) (d : D), i ∉ ios → ds[i]? = some d → ∃ v, vs[i]? = some v ∧ Rp K S v d
structure Post (K : Frag') (S H : Hp) (io : List (Nat × Addr)) (news : List D) (S' H' : Hp) : Prop where
  ss : Same S S'
  sub : Same S' H'
  old : ∀ a, H a ≠ none → S' a = S a
  frm : ∀ a o, H a = some o → a ∉ io.map (·.2) → H' a = some o
  new : Paired (fun (p : Nat × Addr) d => Ow K S' H' p.2 d) io news
def spF (K : Frag') (np : Nat) (ios : List Nat) (fr : Bool) (F : List D → Option (D × List D)) : Sp := fun vs H Q _ =>
  ∃ S ds r news io, Same S H ∧ vs.length = np ∧ ds.length = np ∧ io.map (·.1) = ios ∧ IoOk K S H vs ds io ∧ StOk K S ios vs ds ∧ F ds = some (r, news) ∧
    ∀ S' v H', Post K S H io news S' H' → (if fr = true then ∃ p, v = .ref p ∧ H p = none ∧ S' p = none ∧ Ow K S' H' p r else Rp K S' v r) → Q v H'
structure Fn (P : Program) (w : World) (K : Frag') (mg : Str → Option Value) (base : Heap) (k : Nat) (x : Str) (ps : List Str) (ios : List Nat) (fr : Bool) (F : List D → Option (D × List D)) : Prop where
  ex : ∃ f fd, mg x = some (.ref f) ∧ PySem.W.keepIn K (.ref f) = true ∧ Binds K fd ps [] ∧ FnOk P w K mg base CX0 k f fd ps (spF K ps.length ios fr F)
theorem Fn.mono {P : Program} {w : World} {K : Frag'} {mg : Str → Option Value} {base : Heap} {j k : Nat} {x : Str} {ps : List Str} {ios : List Nat} {fr : Bool} {F : List D → Option (D × List D)} (h : Fn P w K mg base j x ps ios fr F) (le : j ≤ k) : Fn P w K mg base k x ps ios fr F :=
  let ⟨f, fd, h1, h2, h3, h4⟩ := h.ex
  ⟨f, fd, h1, h2, h3, h4.mono le⟩
/-- where the plain function gives the same more often -/
theorem Fn.imp {P : Program} {w : World} {K : Frag'} {mg : Str → Option Value} {base : Heap} {k : Nat} {x : Str} {ps : List Str} {ios : List Nat} {fr : Bool} {F G : List D → Option (D × List D)} (h : Fn P w K mg base k x ps ios fr F) (e : ∀ ds r, G ds = some r → F ds = some r) : Fn P w K mg base k x ps ios fr G :=
  let ⟨f, fd, h1, h2, h3, h4⟩ := h.ex
  ⟨f, fd, h1, h2, h3, h4.imp fun vs H Q E q => by
    obtain ⟨S, ds, r, news, io, q1, q2, q3, q4, q5, q6, q7, q8⟩ := q
    exact ⟨S, ds, r, news, io, q1, q2, q3, q4, q5, q6, e _ _ q7, q8⟩⟩

/-! ### a def's body -/
def startE (n : Nat) (ios : List Nat) (ds : List D) : Env' := (ds.mapIdx fun i d => some (if i ∈ ios then SV.ow d else SV.st d)) ++ List.replicate (n - ds.length) none
def ioOut (ρ : Env') : List Nat → Option (List D)
  | [] => some []
  | i :: is => match ρ[i]? with
    | some (some (.ow d)) => (ioOut ρ is).map (d :: ·)
    | _ => none
def runF (n np : Nat) (ios : List Nat) (fr : Bool) (m : MS) : List D → Option (D × List D) := fun ds =>
  if ds.length = np then (m (startE n ios ds)).bind fun o => match o with
    | .nx ρ => if fr = true then none else (ioOut ρ ios).map fun ns => (.none, ns)
    | .rt d ρ => if fr = true then none else (ioOut ρ ios).map fun ns => (d, ns)
    | .rf d ρ => (ioOut ρ ios).map fun ns => (d, ns)
    | _ => none
  else none
section
variable {K : Frag'} {S H : Hp} {vs : List V} {ds : List D} {io : List (Nat × Addr)} {ios : List Nat}
def gOf (io : List (Nat × Addr)) : Own := fun a => (io.find? fun p => p.2 == a).map fun p => some p.1
theorem gOf_mem : ∀ {io : List (Nat × Addr)} {p : Nat × Addr}, (io.map (·.2)).Nodup → p ∈ io → gOf io p.2 = some (some p.1)
  | q :: io, p, nd, h => by
    unfold gOf
    rw [List.find?_cons]
    by_cases e : (q.2 == p.2) = true
    · rw [e]
      rcases List.mem_cons.mp h with z | z
      · rw [z]
        rfl
      · exfalso
        have e' : q.2 = p.2 := eq_of_beq e
        exact (List.nodup_cons.mp nd).1 (List.mem_map.mpr ⟨p, z, e'.symm⟩)
    · have e' : (q.2 == p.2) = false := by simpa using e
      rw [e']
      rcases List.mem_cons.mp h with z | z
      · rw [z] at e
        simp at e
      · exact gOf_mem (List.nodup_cons.mp nd).2 z
theorem gOf_some {io : List (Nat × Addr)} {a : Addr} {l : Option Nat} (h : gOf io a = some l) : ∃ p ∈ io, p.2 = a ∧ l = some p.1 := by
  unfold gOf at h
  obtain ⟨p, h1, h2⟩ := Option.map_eq_some_iff.mp h
  have z := List.find?_some h1
  exact ⟨p, List.mem_of_find?_eq_some h1, eq_of_beq z, h2.symm⟩
theorem startE_get {n : Nat} {i : Nat} {sv : SV} (h : (startE n ios ds)[i]? = some (some sv)) : ∃ d, ds[i]? = some d ∧ sv = if i ∈ ios then SV.ow d else SV.st d := by
  unfold startE at h
  by_cases hi : i < ds.length
  · rw [List.getElem?_append_left (by simpa using hi), List.getElem?_mapIdx] at h
    obtain ⟨d, h1, h2⟩ := Option.map_eq_some_iff.mp h
    exact ⟨d, h1, (Option.some.inj h2).symm⟩
  · rw [List.getElem?_append_right (by simpa using hi), List.getElem?_replicate] at h
    split at h <;> cases h
theorem start_get {N : List Str} {i : Nat} {v : V} (h : vs[i]? = some v) : (L2.start N vs)[i]? = some (some v) := by
  unfold L2.start
  have hi := (List.getElem?_eq_some_iff.mp h).1
  rw [List.getElem?_append_left (by simpa using hi), List.getElem?_map, h]
  rfl
theorem start_rr {N : List Str} {n : Nat} (sub : Same S H) (hl : vs.length = ds.length) (hn : N.length = n) (hio : io.map (·.1) = ios) (I : IoOk K S H vs ds io) (st : StOk K S ios vs ds) :
    RR K ⟨S, H, io⟩ S (L2.start N vs) H (startE n ios ds) [] := by
  subst hn
  refine ⟨gOf io, sub, fun a l h => ?_, fun i sv h => ?_, fun p hp => (nomatch hp), .nil, fun a h => rfl, fun a o h _ => h, fun p hp => ?_, fun a ha => ?_, fun p hp => gOf_mem I.1 hp, ?_⟩
  · obtain ⟨p, hp, e, _⟩ := gOf_some h
    obtain ⟨_, h2, d, _, o, h4, _⟩ := I.2 p hp
    rw [← e]
    exact ⟨h2, by rw [h4]; exact nofun, .inr (List.mem_map_of_mem hp)⟩
  · obtain ⟨d, h1, h2⟩ := startE_get h
    subst h2
    by_cases hi : i ∈ ios
    · rw [if_pos hi]
      rw [← hio] at hi
      obtain ⟨p, hp, e⟩ := List.mem_map.mp hi
      subst e
      obtain ⟨g1, g2, d', g3, g4⟩ := I.2 p hp
      rw [h1] at g3
      cases g3
      exact ⟨p.2, start_get g1, gOf_mem I.1 hp, g4⟩
    · rw [if_neg hi]
      obtain ⟨v, g1, g2⟩ := st i d hi h1
      exact ⟨v, start_get g1, g2⟩
  · exact start_get (I.2 p hp).1
  · obtain ⟨p, hp, e⟩ := List.mem_map.mp ha
    obtain ⟨_, _, d, _, o, h4, _⟩ := I.2 p hp
    rw [← e]
    show H p.2 ≠ none
    rw [h4]
    exact nofun
  · unfold startE L2.start
    rw [List.length_append, List.length_append, List.length_mapIdx, List.length_map, List.length_replicate, List.length_replicate, hl]
theorem ioOut_ok {C : Ct} {G : Own} {S' : Hp} {σ : L2.St} {H' : Hp} {ρ : Env'} {hid : Hid} (R : RG K C G S' σ H' ρ hid) : ∀ {io : List (Nat × Addr)} {ns : List D}, (∀ p ∈ io, p ∈ C.io) → ioOut ρ (io.map (·.1)) = some ns → Paired (fun (p : Nat × Addr) d => Ow K S' H' p.2 d) io ns
  | [], _, _, h => by
    cases h
    exact .nil
  | p :: io, ns, hs, h => by
    rw [List.map_cons] at h
    unfold ioOut at h
    split at h
    · rename_i d e
      obtain ⟨ms, h1, h2⟩ := Option.map_eq_some_iff.mp h
      subst h2
      obtain ⟨a, g1, g2, g3⟩ := R.slot _ _ e
      have g4 := R.ios p (hs p List.mem_cons_self)
      rw [g1] at g4
      cases g4
      exact .cons g3 (ioOut_ok R (fun q hq => hs q (List.mem_cons_of_mem _ hq)) h1)
    · cases h
theorem post_of {C : Ct} {S' : Hp} {σ : L2.St} {H' : Hp} {ρ : Env'} {hid : Hid} {ns : List D} (R : RR K C S' σ H' ρ hid) (ss : Same C.S0 S') (h : ioOut ρ C.ioS = some ns) : Post K C.S0 C.H0 C.io ns S' H' := by
  obtain ⟨G, R⟩ := R
  exact ⟨ss, R.sub, R.old, R.frm, ioOut_ok R (fun _ z => z) h⟩
end
section
variable {P : Program} {w : World} {K : Frag'} {mg : Str → Option Value} {base : Heap}
/-- THE RULE for a def -/
theorem ok_def {x qual : Str} {st : Stmt} {f : Addr} {fd : FuncData} {N ps : List Str} {k : Nat} {ios : List Nat} {fr : Bool} {m : MS} (F : Fun K x qual st f fd) (S : FnScope N ps (defScope st)) 
    (body : ∀ (cdv : Value) (A : Around) (outer : List Env) (s : Shared) (H : Hp) (E : XK) (C : Ct), C.ioS = ios → Room k (A.deeper (envOfC qual (defScope st) s.heap.objs.size f cdv)) →
      PSs (cxOf CX0 P w K mg base N qual (defScope st) f cdv A outer s H E).nox (defBody st) (rdS K C m)) :
    FnOk P w K mg base CX0 (k + 1) f fd ps (spF K ps.length ios fr (runF N.length ps.length ios fr m)) := by
  refine F.ok S (fun vs H Q E h => ?_) (fun cdv A outer s H vs Q E hr h => ?_)
  · obtain ⟨_, _, _, _, _, _, h, _⟩ := h
    exact h
  · obtain ⟨S0, ds, r, news, io, sub, hl1, hl2, hio, I, sto, hF, q⟩ := h
    refine ⟨_, body cdv A outer s H E ⟨S0, H, io⟩ hio hr, S0, startE N.length ios ds, [], start_rr sub (hl1.trans hl2.symm) rfl hio I sto, ?_⟩
    unfold runF at hF
    rw [if_pos hl2] at hF
    obtain ⟨o, h1, h2⟩ := Option.bind_eq_some_iff.mp hF
    refine ⟨o, h1, ?_⟩
    cases o with
    | nx ρ =>
      cases fr with
      | true => cases h2
      | false =>
        have h2 : (ioOut ρ ios).map (fun ns => (PyData.none, ns)) = some (r, news) := h2
        obtain ⟨ns, h3, h4⟩ := Option.map_eq_some_iff.mp h2
        cases h4
        exact fun S' σ' H' s' R => q S' .non H' (post_of R s' (by show ioOut ρ (io.map (·.1)) = _; rw [hio]; exact h3)) (by rw [if_neg Bool.false_ne_true]; exact .of .non)
    | rt d ρ =>
      cases fr with
      | true => cases h2
      | false =>
        have h2 : (ioOut ρ ios).map (fun ns => (d, ns)) = some (r, news) := h2
        obtain ⟨ns, h3, h4⟩ := Option.map_eq_some_iff.mp h2
        cases h4
        exact fun S' σ' v H' s' R rp => q S' v H' (post_of R s' (by show ioOut ρ (io.map (·.1)) = _; rw [hio]; exact h3)) (by rw [if_neg Bool.false_ne_true]; exact rp)
    | rf d ρ =>
      have h2 : (ioOut ρ ios).map (fun ns => (d, ns)) = some (r, news) := h2
      obtain ⟨ns, h3, h4⟩ := Option.map_eq_some_iff.mp h2
      cases h4
      cases fr with
      | true =>
        intro S' σ' p H' s' R
        refine q S' (.ref p) H' (post_of R s' (by show ioOut ρ (io.map (·.1)) = _; rw [hio]; exact h3)) ?_
        obtain ⟨G, R⟩ := R
        obtain ⟨g1, g2, g3⟩ := R.hd _ List.mem_cons_self
        rw [if_pos rfl]
        exact ⟨p, rfl, g2, (R.gs _ _ g1).1, g3⟩
      | false =>
        intro S' σ' p H' s' R
        obtain ⟨S2, s2, R2, rp⟩ := R.freeze
        exact q S2 (.ref p) H' (post_of R2 (s'.trans s2) (by show ioOut ρ (io.map (·.1)) = _; rw [hio]; exact h3)) (by rw [if_neg Bool.false_ne_true]; exact rp)
    | bk ρ => cases h2
    | ct ρ => cases h2
theorem fn_def {x qual : Str} {st : Stmt} {f : Addr} {fd : FuncData} {N ps : List Str} {k : Nat} {ios : List Nat} {fr : Bool} {m : MS} (F : Fun K x qual st f fd) (S : FnScope N ps (defScope st)) (hm : mg x = some (.ref f)) (hb : Binds K fd ps [])
    (body : ∀ (cdv : Value) (A : Around) (outer : List Env) (s : Shared) (H : Hp) (E : XK) (C : Ct), C.ioS = ios → Room k (A.deeper (envOfC qual (defScope st) s.heap.objs.size f cdv)) →
      PSs (cxOf CX0 P w K mg base N qual (defScope st) f cdv A outer s H E).nox (defBody st) (rdS K C m)) :
    Fn P w K mg base (k + 1) x ps ios fr (runF N.length ps.length ios fr m) := ⟨f, fd, hm, F.kp, hb, ok_def F S body⟩
/-- a def that nothing is known of (a recursion's start) -/
theorem fn_none {x qual : Str} {st : Stmt} {f : Addr} {fd : FuncData} {N ps : List Str} {k : Nat} {ios : List Nat} {fr : Bool} (F : Fun K x qual st f fd) (hm : mg x = some (.ref f)) (hb : Binds K fd ps []) :
    Fn P w K mg base k x ps ios fr (fun _ => none) := by
  refine ⟨f, fd, hm, F.kp, hb, fun vs H Q E h => ?_, fun A outer s H args us vs Q E hr e0 b r h => ?_⟩
  · obtain ⟨_, _, _, _, _, _, h, _⟩ := h
    exact h
  · obtain ⟨_, _, _, _, _, _, _, _, _, _, _, h, _⟩ := h
    cases h
end

/-! ### calls -/
inductive Arg where
  | ex (m : ME) | st (j : Nat) | io (j : Nat)
def Arg.o : Arg → Opd
  | .ex m => .ex m
  | .st j => .nm j
  | .io j => .nm j
/-- a list or dict that is handed on stands still from now on -/
def frz1 (j : Nat) (ρ : Env') : Env' := match ρ[j]? with
  | some (some (.ow d)) => ρ.set j (some (.st d))
  | _ => ρ
def frzA : List Arg → Env' → Env'
  | [], ρ => ρ
  | .st j :: as, ρ => frzA as (frz1 j ρ)
  | _ :: as, ρ => frzA as ρ
def argD : List Arg → List (Option D) → Env' → Option (List D)
  | [], _, _ => some []
  | .ex _ :: r, some d :: ps, ρ => (argD r ps ρ).map (d :: ·)
  | .st j :: r, _ :: ps, ρ => match ρ[j]? with
    | some (some (.st d)) => (argD r ps ρ).map (d :: ·)
    | _ => none
  | .io j :: r, _ :: ps, ρ => match ρ[j]? with
    | some (some (.ow d)) => (argD r ps ρ).map (d :: ·)
    | _ => none
  | _, _, _ => none
def ioJ : List Arg → List Nat
  | [] => []
  | .io j :: r => j :: ioJ r
  | _ :: r => ioJ r
/-- the places of the arguments that may be changed -/
def ioP : Nat → List Arg → List Nat
  | _, [] => []
  | n, .io _ :: r => n :: ioP (n + 1) r
  | n, _ :: r => ioP (n + 1) r
def putA : List Nat → List D → Env' → Option Env'
  | [], [], ρ => some ρ
  | j :: js, d :: ds, ρ => putA js ds (ρ.set j (some (.ow d)))
  | _, _, _ => none
def mCall (F : List D → Option (D × List D)) (as : List Arg) : ME := fun ρ => (evp (as.map Arg.o) ρ).bind fun q => (argD as q.1 (frzA as q.2)).bind fun ds => (F ds).bind fun r => (putA (ioJ as) r.2 (frzA as q.2)).bind fun ρ' => some (r.1, ρ')
def stJ : List Arg → List Nat
  | [] => []
  | .st j :: r => j :: stJ r
  | _ :: r => stJ r
section
variable {K : Frag'} {C : Ct} {S : Hp} {σ : L2.St} {H : Hp} {ρ : Env'} {hid : Hid}
theorem RR.frz1 {j : Nat} (R : RR K C S σ H ρ hid) (hj : j ∉ C.ioS) : ∃ S', Same S S' ∧ RR K C S' σ H (frz1 j ρ) hid := by
  unfold VS.frz1
  split
  · rename_i d e
    obtain ⟨S', a, s, _, R', _⟩ := R.freezeSlot e hj
    exact ⟨S', s, R'⟩
  · exact ⟨S, Same.refl S, R⟩
theorem RR.frzA : ∀ {as : List Arg} {S : Hp} {ρ : Env'}, RR K C S σ H ρ hid → (∀ j ∈ stJ as, j ∉ C.ioS) → ∃ S', Same S S' ∧ RR K C S' σ H (frzA as ρ) hid
  | [], S, ρ, R, _ => ⟨S, Same.refl S, R⟩
  | .ex _ :: as, S, ρ, R, h => RR.frzA (as := as) R h
  | .io _ :: as, S, ρ, R, h => RR.frzA (as := as) R h
  | .st j :: as, S, ρ, R, h => by
    obtain ⟨S1, s1, R1⟩ := R.frz1 (h j List.mem_cons_self)
    obtain ⟨S2, s2, R2⟩ := RR.frzA (as := as) R1 fun i hi => h i (List.mem_cons_of_mem _ hi)
    exact ⟨S2, s1.trans s2, R2⟩
/-- what the arguments are, from the n-th on -/
structure ArgsOk (K : Frag') (G : Own) (S : Hp) (σ : L2.St) (H : Hp) (ρ : Env') (as : List Arg) (n : Nat) (vs : List V) (ds : List D) : Prop where
  lv : vs.length = as.length
  ld : ds.length = as.length
  st : ∀ (i : Nat) (d : D), n + i ∉ ioP n as → ds[i]? = some d → ∃ v, vs[i]? = some v ∧ Rp K S v d
  io : ∃ io : List (Nat × Addr), io.map (·.1) = ioP n as ∧ Paired (fun (p : Nat × Addr) j => G p.2 = some (some j) ∧ σ[j]? = some (some (.ref p.2)) ∧ ∃ d, ρ[j]? = some (some (.ow d))) io (ioJ as) ∧ (∀ p ∈ io, n ≤ p.1 ∧ vs[p.1 - n]? = some (.ref p.2) ∧ ∃ d, ds[p.1 - n]? = some d ∧ Ow K S H p.2 d)
theorem ioP_ge : ∀ {as : List Arg} {n i : Nat}, i ∈ ioP n as → n ≤ i
  | .ex _ :: as, n, i, h => Nat.le_of_succ_le (ioP_ge (as := as) h)
  | .st _ :: as, n, i, h => Nat.le_of_succ_le (ioP_ge (as := as) h)
  | .io _ :: as, n, i, h => by
    rcases List.mem_cons.mp h with e | h
    · omega
    · exact Nat.le_of_succ_le (ioP_ge (as := as) h)
theorem ArgsOk.next {G : Own} {as : List Arg} {n : Nat} {vs : List V} {ds : List D} {a : Arg} {v : V} {d : D} (h : ArgsOk K G S σ H ρ as (n + 1) vs ds) (ha : ∀ j, a ≠ .io j) (r : Rp K S v d) : ArgsOk K G S σ H ρ (a :: as) n (v :: vs) (d :: ds) := by
  have e1 : ioP n (a :: as) = ioP (n + 1) as := by
    cases a with
    | io j => exact absurd rfl (ha j)
    | ex _ => rfl
    | st _ => rfl
  have e2 : ioJ (a :: as) = ioJ as := by
    cases a with
    | io j => exact absurd rfl (ha j)
    | ex _ => rfl
    | st _ => rfl
  refine ⟨by rw [List.length_cons, List.length_cons, h.lv], by rw [List.length_cons, List.length_cons, h.ld], fun i d' hi hd => ?_, ?_⟩
  · cases i with
    | zero =>
      have e : d = d' := Option.some.inj hd
      subst e
      exact ⟨v, rfl, r⟩
    | succ i =>
      obtain ⟨v', g1, g2⟩ := h.st i d' (by rw [e1] at hi; rw [Nat.add_assoc, Nat.add_comm 1 i]; exact hi) (by simpa using hd)
      exact ⟨v', by simpa using g1, g2⟩
  · obtain ⟨io, g1, g2, g3⟩ := h.io
    refine ⟨io, by rw [e1]; exact g1, by rw [e2]; exact g2, fun p hp => ?_⟩
    obtain ⟨k1, k2, d', k3, k4⟩ := g3 p hp
    have e : p.1 - n = (p.1 - (n + 1)) + 1 := by omega
    refine ⟨by omega, by rw [e]; simpa using k2, d', by rw [e]; simpa using k3, k4⟩
theorem argD_ok {G : Own} (R : RG K C G S σ H ρ hid) : ∀ {as : List Arg} {n : Nat} {ps : List (Option D)} {vs : List V} {ds : List D} {S1 : Hp}, Same S1 S → PreAll K S1 σ (as.map Arg.o) ps vs → argD as ps ρ = some ds → ArgsOk K G S σ H ρ as n vs ds
  | [], n, _, _, ds, S1, s1, .nil, h => by
    cases h
    exact ⟨rfl, rfl, fun i d _ h => (by simp at h), [], rfl, .nil, fun p hp => nomatch hp⟩
  | .ex m :: as, n, _, _, ds, S1, s1, .ex r t, h => by
    unfold argD at h
    obtain ⟨ds1, h1, h2⟩ := Option.map_eq_some_iff.mp h
    subst h2
    exact (argD_ok R s1 t h1).next (fun j e => nomatch e) (r.same s1)
  | .st j :: as, n, _, _, ds, S1, s1, .nm e t, h => by
    unfold argD at h
    split at h
    · rename_i d e1
      obtain ⟨ds1, h1, h2⟩ := Option.map_eq_some_iff.mp h
      subst h2
      obtain ⟨v, g1, g2⟩ := R.slot _ _ e1
      rw [e] at g1
      cases g1
      exact (argD_ok R s1 t h1).next (fun j e => nomatch e) g2
    · cases h
  | .io j :: as, n, _, _, ds, S1, s1, .nm e t, h => by
    unfold argD at h
    split at h
    · rename_i d e1
      obtain ⟨ds1, h1, h2⟩ := Option.map_eq_some_iff.mp h
      subst h2
      obtain ⟨a, g1, g2, g3⟩ := R.slot _ _ e1
      rw [e] at g1
      cases g1
      have A := argD_ok (n := n + 1) R s1 t h1
      refine ⟨by rw [List.length_cons, List.length_cons, A.lv], by rw [List.length_cons, List.length_cons, A.ld], fun i d' hi hd => ?_, ?_⟩
      · cases i with
        | zero => exact absurd List.mem_cons_self hi
        | succ i =>
          have hi' : n + 1 + i ∉ ioP (n + 1) as := fun z => hi (by
            show n + (i + 1) ∈ n :: ioP (n + 1) as
            rw [Nat.add_comm i 1, ← Nat.add_assoc]
            exact List.mem_cons_of_mem _ z)
          obtain ⟨v', k1, k2⟩ := A.st i d' hi' (by simpa using hd)
          exact ⟨v', by simpa using k1, k2⟩
      · obtain ⟨io, k1, k2, k3⟩ := A.io
        refine ⟨(n, a) :: io, by rw [List.map_cons, k1]; rfl, .cons ⟨g2, e, d, e1⟩ k2, fun p hp => ?_⟩
        rcases List.mem_cons.mp hp with z | z
        · subst z
          exact ⟨Nat.le_refl _, by simp, d, by simp, g3⟩
        · obtain ⟨l1, l2, d', l3, l4⟩ := k3 p z
          have e : p.1 - n = (p.1 - (n + 1)) + 1 := by omega
          exact ⟨by omega, by rw [e]; simpa using l2, d', by rw [e]; simpa using l3, l4⟩
    · cases h
theorem paired_map {α β : Type} {F : α → β → Prop} : ∀ {l : List α} {m : List β}, Paired F l m → ∀ x ∈ l, ∃ y ∈ m, F x y
  | _, _, .nil, x, h => nomatch h
  | _, _, .cons r t, x, h => by
    rcases List.mem_cons.mp h with e | h
    · subst e
      exact ⟨_, List.mem_cons_self, r⟩
    · obtain ⟨y, h1, h2⟩ := paired_map t x h
      exact ⟨y, List.mem_cons_of_mem _ h1, h2⟩
abbrev Lab (G : Own) (σ : L2.St) (ρ : Env') (p : Nat × Addr) (j : Nat) : Prop := G p.2 = some (some j) ∧ σ[j]? = some (some (.ref p.2)) ∧ ∃ d, ρ[j]? = some (some (.ow d))
theorem nodup_of_labels {G : Own} : ∀ {io : List (Nat × Addr)} {js : List Nat}, Paired (Lab G σ ρ) io js → js.Nodup → (io.map (·.2)).Nodup
  | _, _, .nil, _ => .nil
  | p :: io, j :: js, .cons r t, nd => by
    rw [List.map_cons]
    refine List.nodup_cons.mpr ⟨fun hm => ?_, nodup_of_labels t (List.nodup_cons.mp nd).2⟩
    obtain ⟨q, hq, e⟩ := List.mem_map.mp hm
    obtain ⟨i, hi, g⟩ := paired_map t q hq
    have e : q.2 = p.2 := e
    have g := g.1
    rw [e, r.1] at g
    have z : j = i := Option.some.inj (Option.some.inj g)
    exact (List.nodup_cons.mp nd).1 (by rw [z]; exact hi)
theorem putA_get : ∀ {js : List Nat} {ds : List D} {ρ ρ' : Env'} {i : Nat} {sv : SV}, putA js ds ρ = some ρ' → js.Nodup → ρ'[i]? = some (some sv) → (i ∉ js ∧ ρ[i]? = some (some sv)) ∨ ∃ (k : Nat) (d : D), js[k]? = some i ∧ ds[k]? = some d ∧ sv = .ow d
  | [], [], ρ, ρ', i, sv, h, _, q => by
    cases h
    exact .inl ⟨by simp, q⟩
  | j :: js, d :: ds, ρ, ρ', i, sv, h, nd, q => by
    have h : putA js ds (ρ.set j (some (.ow d))) = some ρ' := h
    rcases putA_get h (List.nodup_cons.mp nd).2 q with ⟨h1, h2⟩ | ⟨k, d', h1, h2, h3⟩
    · rcases set_get h2 with ⟨e, z⟩ | ⟨e, z⟩
      · subst e
        exact .inr ⟨0, d, rfl, rfl, (Option.some.inj z)⟩
      · exact .inl ⟨by simp only [List.mem_cons, not_or]; exact ⟨Ne.symm e, h1⟩, z⟩
    · exact .inr ⟨k + 1, d', by simpa using h1, by simpa using h2, h3⟩
  | [], _ :: _, _, _, _, _, h, _, _ => by cases h
  | _ :: _, [], _, _, _, _, h, _, _ => by cases h
theorem putA_len : ∀ {js : List Nat} {ds : List D} {ρ ρ' : Env'}, putA js ds ρ = some ρ' → ρ'.length = ρ.length
  | [], [], ρ, ρ', h => by
    cases h
    rfl
  | j :: js, d :: ds, ρ, ρ', h => by
    have h : putA js ds (ρ.set j (some (.ow d))) = some ρ' := h
    rw [putA_len h, List.length_set]
  | [], _ :: _, _, _, h => by cases h
  | _ :: _, [], _, _, h => by cases h
theorem Paired.at {α β : Type} {F : α → β → Prop} : ∀ {l : List α} {m : List β} {k : Nat} {y : β}, Paired F l m → m[k]? = some y → ∃ x, l[k]? = some x ∧ F x y
  | _, _, _, _, .nil, h => by simp at h
  | _, _, 0, y, .cons r t, h => by
    have e := Option.some.inj h
    subst e
    exact ⟨_, rfl, r⟩
  | _, _, k + 1, y, .cons r t, h => by
    obtain ⟨x, h1, h2⟩ := Paired.at (k := k) t (by simpa using h)
    exact ⟨x, by simpa using h1, h2⟩
/-- behind a call -/
theorem RG.call {G : Own} (R : RG K C G S σ H ρ hid) {js : List Nat} {io : List (Nat × Addr)} {news : List D} {S' H' : Hp} {ρ' : Env'} (lab : Paired (Lab G σ ρ) io js) (nd : js.Nodup) (p : Post K S H io news S' H') (h : putA js news ρ = some ρ') : RG K C G S' σ H' ρ' hid := by
  have ion : ∀ a ∈ io.map (·.2), ∃ j ∈ js, G a = some (some j) := fun a ha => by
    obtain ⟨q, hq, e⟩ := List.mem_map.mp ha
    obtain ⟨j, hj, g⟩ := paired_map lab q hq
    exact ⟨j, hj, by rw [← e]; exact g.1⟩
  have keep : ∀ a, H a ≠ none → H' a ≠ none := fun a ha => by
    by_cases hm : a ∈ io.map (·.2)
    · obtain ⟨q, hq, e⟩ := List.mem_map.mp hm
      obtain ⟨d, _, o, ho, _⟩ := paired_map p.new q hq
      rw [← e, ho]
      exact nofun
    · cases z : H a with
      | none => exact absurd z ha
      | some o => rw [p.frm a o z hm]; exact nofun
  have same : ∀ a, H a ≠ none → a ∉ io.map (·.2) → H' a = H a := fun a ha hm => by
    cases z : H a with
    | none => exact absurd z ha
    | some o => exact p.frm a o z hm
  refine ⟨p.sub, fun a l z => ?_, fun i sv z => ?_, fun q hq => ?_, R.nd, fun a z => ?_, fun a o z hm => ?_, R.ios, fun a ha => keep a (R.ioh a ha), R.iog, by rw [putA_len h]; exact R.len⟩
  · obtain ⟨g1, g2, g3⟩ := R.gs a l z
    exact ⟨by rw [p.old a g2]; exact g1, keep a g2, g3⟩
  · rcases putA_get h nd z with ⟨h1, h2⟩ | ⟨k, d, h1, h2, h3⟩
    · have s := R.slot i sv h2
      cases sv with
      | st d =>
        obtain ⟨v, g1, g2⟩ := s
        exact ⟨v, g1, g2.same p.ss⟩
      | ow d =>
        obtain ⟨a, g1, g2, g3⟩ := s
        refine ⟨a, g1, g2, (g3.same p.ss).keep (same a (R.gs a _ g2).2.1 fun hm => ?_)⟩
        obtain ⟨j, hj, g⟩ := ion a hm
        rw [g2] at g
        exact h1 (by rw [Option.some.inj (Option.some.inj g)]; exact hj)
    · subst h3
      obtain ⟨q, e1, e2⟩ := Paired.at lab h1
      obtain ⟨q', e3, e4⟩ := Paired.at p.new h2
      rw [e1] at e3
      cases e3
      exact ⟨q.2, e2.2.1, e2.1, e4⟩
  · obtain ⟨g1, g2, g3⟩ := R.hd q hq
    refine ⟨g1, g2, (g3.same p.ss).keep (same q.1 (R.gs _ _ g1).2.1 fun hm => ?_)⟩
    obtain ⟨j, hj, g⟩ := ion q.1 hm
    rw [g1] at g
    cases g
  · have hn : H a ≠ none := by
      by_cases hm : a ∈ C.ioA
      · exact R.ioh a hm
      · cases e : C.H0 a with
        | none => exact absurd e z
        | some o => rw [R.frm a o e hm]; exact nofun
    rw [p.old a hn]
    exact R.old a z
  · have e := R.frm a o z hm
    refine p.frm a o e fun hm2 => ?_
    obtain ⟨j, hj, g⟩ := ion a hm2
    rcases (R.gs a _ g).2.2 with q | q
    · rw [q] at z
      cases z
    · exact hm q
end
end VS

set_option Elab.async false
set_option linter.all false
set_option maxRecDepth 100000
/-! VsE: calls of defs, of built-ins; methods that change a slot's own; stores; displays; comprehensions. -/
namespace VS
open PySem PySem.Spec PyProof.Rows L2
section
variable {X : Cx} {C : Ct} {e : Expr} {es : List Expr} {x : Str} {p pos : Pos}

/-! ### calls of defs -/
inductive PAs (X : Cx) (C : Ct) : List Expr → List Arg → Prop where
  | nil : PAs X C [] []
  | cons {e : Expr} {es : List Expr} {a : Arg} {as : List Arg} : PO' X C e a.o → starEach (e :: es) X.env = (false, eval e X.env) :: starEach es X.env → PAs X C es as → PAs X C (e :: es) (a :: as)
theorem as_nil : PAs X C [] [] := .nil
theorem as_ex {e : Expr} {es : List Expr} {m : ME} {as : List Arg} (h : PE X e (rdE X.K C m)) (r : PAs X C es as) (hs : starEach (e :: es) X.env = (false, eval e X.env) :: starEach es X.env := by rfl) : PAs X C (e :: es) (.ex m :: as) := .cons (a := .ex m) h hs r
theorem as_st {e : Expr} {es : List Expr} {j : Nat} {as : List Arg} (h : PE X e (tVar j)) (r : PAs X C es as) (hs : starEach (e :: es) X.env = (false, eval e X.env) :: starEach es X.env := by rfl) : PAs X C (e :: es) (.st j :: as) := .cons (a := .st j) h hs r
theorem as_io {e : Expr} {es : List Expr} {j : Nat} {as : List Arg} (h : PE X e (tVar j)) (r : PAs X C es as) (hs : starEach (e :: es) X.env = (false, eval e X.env) :: starEach es X.env := by rfl) : PAs X C (e :: es) (.io j :: as) := .cons (a := .io j) h hs r
theorem PAs.pa : ∀ {es : List Expr} {as : List Arg}, PAs X C es as → PA X es (tOs X.K C (as.map Arg.o))
  | _, _, .nil => pa_nil
  | _, _, .cons h hs r => pa_cons h (PAs.pa r) hs
theorem call_ok {K : Frag'} {np : Nat} {ios : List Nat} {fr : Bool} {F : List D → Option (D × List D)} {as : List Arg} (hst : ∀ j ∈ stJ as, j ∉ C.ioS) (hio : ioP 0 as = ios) (hnd : (ioJ as).Nodup) (hl : as.length = np) {σ : L2.St} {H : Hp} {Q : VK}
    {S : Hp} {ρ : Env'} {hid : Hid} (R : RR K C S σ H ρ hid) {d : D} {ρ' : Env'} (e : mCall F as ρ = some (d, ρ'))
    (q : ∀ S' v H', Same S S' → (if fr = true then ∃ p, v = .ref p ∧ RR K C S' σ H' ρ' ((p, d) :: hid) else RR K C S' σ H' ρ' hid ∧ Rp K S' v d) → Q v H') : tOs K C (as.map Arg.o) σ H fun vs H' => spF K np ios fr F vs H' Q E0 := by
  obtain ⟨⟨ps, ρ1⟩, h1, e⟩ := Option.bind_eq_some_iff.mp e
  obtain ⟨ds, h2, e⟩ := Option.bind_eq_some_iff.mp e
  obtain ⟨⟨r, news⟩, h3, e⟩ := Option.bind_eq_some_iff.mp e
  obtain ⟨ρ2, h4, e⟩ := Option.bind_eq_some_iff.mp e
  cases e
  refine tOs_pre R h1 fun S1 vs H1 s1 R1 pa => ?_
  obtain ⟨S2, s2, G, R2⟩ := R1.frzA (as := as) hst
  have A := argD_ok (n := 0) R2 s2 pa h2
  obtain ⟨io, g1, g2, g3⟩ := A.io
  have nd2 := nodup_of_labels g2 hnd
  refine ⟨S2, ds, r, news, io, R2.sub, by rw [A.lv, hl], by rw [A.ld, hl], g1.trans hio, ⟨nd2, fun p hp => ?_⟩, fun i d hi hd => ?_, h3, fun S' v H' P hv => ?_⟩
  · obtain ⟨_, k2, d, k3, k4⟩ := g3 p hp
    obtain ⟨j, hj, l1, _⟩ := paired_map g2 p hp
    exact ⟨by simpa using k2, (R2.gs _ _ l1).1, d, by simpa using k3, k4⟩
  · exact A.st i d (by rw [Nat.zero_add, hio]; exact hi) hd
  · have R3 := R2.call g2 hnd P h4
    refine q S' v H' ((s1.trans s2).trans P.ss) ?_
    cases fr with
    | false =>
      rw [if_neg Bool.false_ne_true] at hv ⊢
      exact ⟨⟨G, R3⟩, hv⟩
    | true =>
      rw [if_pos rfl] at hv ⊢
      obtain ⟨pp, rfl, n1, n2, ow⟩ := hv
      refine ⟨pp, rfl, ?_⟩
      have h0 : C.H0 pp = none := R2.fresh0 n1
      have nh := R2.hid_ne n1
      have gn : G pp = none := by
        cases z : G pp with
        | none => rfl
        | some l => exact absurd n1 (R2.gs pp l z).2.1
      have ne : ∀ a l, G a = some l → a ≠ pp := fun a l z e => by
        rw [e, gn] at z
        cases z
      obtain ⟨o, ho, ow'⟩ := id ow
      refine ⟨G.on pp none, R3.sub, fun a l z => ?_, fun i sv z => ?_, fun q hq => ?_, List.nodup_cons.mpr ⟨nh, R3.nd⟩, R3.old, R3.frm, R3.ios, R3.ioh, fun q hq => (Own.on_ne (ne _ _ (R3.iog q hq))).trans (R3.iog q hq), R3.len⟩
      · by_cases e : a = pp
        · subst e
          exact ⟨n2, by rw [ho]; exact nofun, .inl h0⟩
        · rw [Own.on_ne e] at z
          exact R3.gs a l z
      · have s := R3.slot i sv z
        cases sv with
        | st d => exact s
        | ow d =>
          obtain ⟨a, k1, k2, k3⟩ := s
          exact ⟨a, k1, (Own.on_ne (ne _ _ k2)).trans k2, k3⟩
      · rcases List.mem_cons.mp hq with z | z
        · subst z
          exact ⟨Own.on_self, h0, ow⟩
        · obtain ⟨k1, k2, k3⟩ := R3.hd q z
          exact ⟨(Own.on_ne (ne _ _ k1)).trans k1, k2, k3⟩
variable {k : Nat} {ps : List Str} {ios : List Nat} {F : List D → Option (D × List D)} {as : List Arg}
theorem e_call (Fx : Fn X.prog X.w X.K X.mg X.base k x ps ios false F) (hr : Room k X.A) (hg : Gl X x) (ha : PAs X C (e :: es) as) (hst : ∀ j ∈ stJ as, j ∉ C.ioS) (hio : ioP 0 as = ios) (hnd : (ioJ as).Nodup) (hl : as.length = ps.length) (hdb : (x == ("__debug__" : Str)) = false := by decide)
    (he : starEach (e :: es) X.env = (false, eval e X.env) :: starEach es X.env := by rfl) (hpl : (backTo pos (starEach es X.env)).any (·.1) = false := by rfl) : PE X (.Call (.Name x p) (e :: es) [] pos) (rdE X.K C (mCall F as)) := by
  obtain ⟨f, fd, hm, hk, hb, Fk⟩ := Fx.ex
  refine PE.imp (pe_call Fk hr hg hm hk hb .nil pass0 ha.pa hdb he hpl) fun σ H Q q => ?_
  obtain ⟨S, ρ, hid, R, d, ρ', e, q⟩ := q
  unfold tCall
  simp only [List.append_nil]
  exact call_ok hst hio hnd hl R e fun S' v H' s z => q S' v H' s z.1 z.2
theorem f_call (Fx : Fn X.prog X.w X.K X.mg X.base k x ps ios true F) (hr : Room k X.A) (hg : Gl X x) (ha : PAs X C (e :: es) as) (hst : ∀ j ∈ stJ as, j ∉ C.ioS) (hio : ioP 0 as = ios) (hnd : (ioJ as).Nodup) (hl : as.length = ps.length) (hdb : (x == ("__debug__" : Str)) = false := by decide)
    (he : starEach (e :: es) X.env = (false, eval e X.env) :: starEach es X.env := by rfl) (hpl : (backTo pos (starEach es X.env)).any (·.1) = false := by rfl) : PE X (.Call (.Name x p) (e :: es) [] pos) (rdF X.K C (mCall F as)) := by
  obtain ⟨f, fd, hm, hk, hb, Fk⟩ := Fx.ex
  refine PE.imp (pe_call Fk hr hg hm hk hb .nil pass0 ha.pa hdb he hpl) fun σ H Q q => ?_
  obtain ⟨S, ρ, hid, R, d, ρ', e, q⟩ := q
  unfold tCall
  simp only [List.append_nil]
  refine call_ok (fr := true) hst hio hnd hl R e fun S' v H' s z => ?_
  rw [if_pos rfl] at z
  obtain ⟨pp, rfl, R'⟩ := z
  exact q S' pp H' s R'

/-! ### built-ins by their names -/
section
variable {id T : String} {r : RV} {f : List D → Option D} {os : List Opd}
theorem e_callB (hc : CallR X (.builtin id) r) (hf : OpOk X.K r f) (hg : Gl X x) (hm : X.mg x = none) (hv : bootBuiltins x = some (.builtin id)) (ha : POs X C (e :: es) os) (hn : x ≠ "__name__" := by decide) (hdb : (x == ("__debug__" : Str)) = false := by decide)
    (he : starEach (e :: es) X.env = (false, eval e X.env) :: starEach es X.env := by rfl) (hpl : (backTo pos (starEach es X.env)).any (·.1) = false := by rfl) : PE X (.Call (.Name x p) (e :: es) [] pos) (rdE X.K C (mOp f os)) :=
  PE.imp (pe_callB hc hg hm hv ha.pa hn hdb he hpl) fun _ _ _ q => mOp_st hf q
theorem f_callB (hc : CallR X (.builtin id) r) (hf : OpFr X.K r f) (hg : Gl X x) (hm : X.mg x = none) (hv : bootBuiltins x = some (.builtin id)) (ha : POs X C (e :: es) os) (hn : x ≠ "__name__" := by decide) (hdb : (x == ("__debug__" : Str)) = false := by decide)
    (he : starEach (e :: es) X.env = (false, eval e X.env) :: starEach es X.env := by rfl) (hpl : (backTo pos (starEach es X.env)).any (·.1) = false := by rfl) : PE X (.Call (.Name x p) (e :: es) [] pos) (rdF X.K C (mOp f os)) :=
  PE.imp (pe_callB hc hg hm hv ha.pa hn hdb he hpl) fun _ _ _ q => mOp_fr hf q
theorem e_callTy (hc : CallR X (.type T) r) (hf : OpOk X.K r f) (hg : Gl X x) (hm : X.mg x = none) (hv : bootBuiltins x = some (.type T)) (ha : POs X C (e :: es) os) (hn : x ≠ "__name__" := by decide) (hdb : (x == ("__debug__" : Str)) = false := by decide)
    (he : starEach (e :: es) X.env = (false, eval e X.env) :: starEach es X.env := by rfl) (hpl : (backTo pos (starEach es X.env)).any (·.1) = false := by rfl) : PE X (.Call (.Name x p) (e :: es) [] pos) (rdE X.K C (mOp f os)) :=
  PE.imp (pe_callTy hc hg hm hv ha.pa hn hdb he hpl) fun _ _ _ q => mOp_st hf q
theorem f_callTy (hc : CallR X (.type T) r) (hf : OpFr X.K r f) (hg : Gl X x) (hm : X.mg x = none) (hv : bootBuiltins x = some (.type T)) (ha : POs X C (e :: es) os) (hn : x ≠ "__name__" := by decide) (hdb : (x == ("__debug__" : Str)) = false := by decide)
    (he : starEach (e :: es) X.env = (false, eval e X.env) :: starEach es X.env := by rfl) (hpl : (backTo pos (starEach es X.env)).any (·.1) = false := by rfl) : PE X (.Call (.Name x p) (e :: es) [] pos) (rdF X.K C (mOp f os)) :=
  PE.imp (pe_callTy hc hg hm hv ha.pa hn hdb he hpl) fun _ _ _ q => mOp_fr hf q
end

/-! ### displays -/
def dispF (mk : List D → D) (ds : List D) : Option D := if ds.all noDict = true ∧ ds.length ≤ sizeLine then some (mk ds) else none
theorem dispF_some {mk : List D → D} {ds : List D} {d : D} (h : dispF mk ds = some d) : (∀ x ∈ ds, noDict x = true) ∧ ds.length ≤ sizeLine ∧ d = mk ds := by
  unfold dispF at h
  split at h
  · rename_i g
    cases h
    exact ⟨fun x hx => List.all_eq_true.mp g.1 x hx, g.2, rfl⟩
  · cases h
/-- what the values of a display are, standing still: a list that a slot owns is none of them -/
def stD (K : Frag') (S : Hp) : List V → List D → Prop := Paired (Rp K S)
theorem stD.dp {K : Frag'} {S : Hp} : ∀ {vs : List V} {ds : List D}, stD K S vs ds → (∀ x ∈ ds, noDict x = true) → DpAll K S vs ds
  | _, _, .nil, _ => .nil
  | _, _, .cons h r, n => .cons (h.dp (n _ List.mem_cons_self)) (stD.dp r fun x hx => n x (List.mem_cons_of_mem _ hx))
/-- items that are expressions (a name's value stands still) -/
inductive PMs (X : Cx) (C : Ct) : List Expr → List ME → Prop where
  | nil : PMs X C [] []
  | cons {e : Expr} {es : List Expr} {m : ME} {ms : List ME} : PE X e (rdE X.K C m) → starEach (e :: es) X.env = (false, eval e X.env) :: starEach es X.env → PMs X C es ms → PMs X C (e :: es) (m :: ms)
theorem ms_nil : PMs X C [] [] := .nil
theorem ms_cons {e : Expr} {es : List Expr} {m : ME} {ms : List ME} (h : PE X e (rdE X.K C m)) (r : PMs X C es ms) (hs : starEach (e :: es) X.env = (false, eval e X.env) :: starEach es X.env := by rfl) : PMs X C (e :: es) (m :: ms) := .cons h hs r
def tMs (K : Frag') (C : Ct) : List ME → TA
  | [] => tNil
  | m :: ms => tCons (rdE K C m) (tMs K C ms)
theorem PMs.pa : ∀ {es : List Expr} {ms : List ME}, PMs X C es ms → PA X es (tMs X.K C ms)
  | _, _, .nil => pa_nil
  | _, _, .cons h hs r => pa_cons h (PMs.pa r) hs
def evm : List ME → Env' → Option (List D × Env')
  | [], ρ => some ([], ρ)
  | m :: ms, ρ => (m ρ).bind fun p => (evm ms p.2).bind fun q => some (p.1 :: q.1, q.2)
theorem stD.same {K : Frag'} {S S' : Hp} (e : Same S S') {vs : List V} {ds : List D} (h : stD K S vs ds) : stD K S' vs ds := Paired.mapP h fun _ _ r => r.same e
theorem tMs_ok {K : Frag'} {C : Ct} {σ : L2.St} : ∀ {ms : List ME} {S : Hp} {H : Hp} {ρ ρ' : Env'} {hid : Hid} {ds : List D} {Q : List V → Hp → Prop}, RR K C S σ H ρ hid → evm ms ρ = some (ds, ρ') →
    (∀ S' vs H', Same S S' → RR K C S' σ H' ρ' hid → stD K S' vs ds → Q vs H') → tMs K C ms σ H Q
  | [], S, H, ρ, ρ', hid, ds, Q, R, h, q => by
    cases h
    exact q S [] H (Same.refl S) R .nil
  | m :: ms, S, H, ρ, ρ', hid, ds, Q, R, h, q => by
    unfold evm at h
    obtain ⟨⟨d, ρ1⟩, h1, h⟩ := Option.bind_eq_some_iff.mp h
    obtain ⟨⟨ds2, ρ2⟩, h2, h⟩ := Option.bind_eq_some_iff.mp h
    cases h
    refine ⟨S, ρ, hid, R, d, ρ1, h1, fun S1 v H1 e1 R1 r1 => ?_⟩
    exact tMs_ok R1 h2 fun S2 vs H2 e2 R2 r2 => q S2 (v :: vs) H2 (e1.trans e2) R2 (.cons (r1.same e2) r2)
theorem stD.length {K : Frag'} {S : Hp} {vs : List V} {ds : List D} (h : stD K S vs ds) : vs.length = ds.length := Paired.length h
def mTup (ms : List ME) : ME := fun ρ => (evm ms ρ).bind fun q => (dispF .tuple q.1).bind fun d => some (d, q.2)
def mLst (ms : List ME) : ME := fun ρ => (evm ms ρ).bind fun q => (dispF .list q.1).bind fun d => some (d, q.2)
theorem e_tup {ms : List ME} {n : Nat} (h : PMs X C es ms) : PE X (.Tuple es n pos) (rdE X.K C (mTup ms)) := PE.imp (pe_tup h.pa) fun σ H Q q => by
  obtain ⟨S, ρ, hid, R, d, ρ', e, q⟩ := q
  obtain ⟨⟨ds, ρ1⟩, h1, e⟩ := Option.bind_eq_some_iff.mp e
  obtain ⟨d1, h2, e⟩ := Option.bind_eq_some_iff.mp e
  cases e
  obtain ⟨n1, n2, rfl⟩ := dispF_some h2
  refine tMs_ok R h1 fun S' vs H' s R' r => ⟨by rw [r.length]; exact n2, fun p hp => ?_⟩
  have sS := same_upd (o := .tup vs) (R'.sub.free hp)
  exact q _ (.ref p) _ (s.trans sS) (R'.still hp) (.of (.tup (.inl (.inl upd_same)) (DpAll.same sS (r.dp n1))))
theorem f_lst {ms : List ME} (h : PMs X C es ms) : PE X (.List es pos) (rdF X.K C (mLst ms)) := PE.imp (pe_lst h.pa) fun σ H Q q => by
  obtain ⟨S, ρ, hid, R, d, ρ', e, q⟩ := q
  obtain ⟨⟨ds, ρ1⟩, h1, e⟩ := Option.bind_eq_some_iff.mp e
  obtain ⟨d1, h2, e⟩ := Option.bind_eq_some_iff.mp e
  cases e
  obtain ⟨n1, n2, rfl⟩ := dispF_some h2
  refine tMs_ok R h1 fun S' vs H' s R' r => ⟨by rw [r.length]; exact n2, fun p hp => ?_⟩
  exact q _ p _ s (R'.fresh (o := .lst vs) (d := .list ds) hp (r.dp n1))

/-! ### methods that change what a slot owns, and stores -/
/-- r: the reading of the method at the receiver's address; f: what is handed back, what is owned behind it -/
def MtOk (K : Frag') (r : V → List V → Hp → VK → Prop) (f : D → List D → Option (D × D)) : Prop := ∀ (S : Hp) (H : Hp) (a : Addr) (o : HO) (d : D) (vs : List V) (ds : List D) (res d' : D) (Q : VK), Same S H → H a = some o → S a = none → OwO K S o d → AtAll K S H vs ds → f d ds = some (res, d') →
  (∀ v o', OwO K S o' d' → Rp K S v res → Q v (upd H a o')) → r (.ref a) vs H Q
def mMut (i : Nat) (f : D → List D → Option (D × D)) (os : List Opd) : ME := fun ρ => (evs os ρ).bind fun q => match q.2[i]? with
  | some (some (.ow d)) => (f d q.1).bind fun z => some (z.1, q.2.set i (some (.ow z.2)))
  | _ => none
theorem mMut_some {i : Nat} {f : D → List D → Option (D × D)} {os : List Opd} {ρ ρ' : Env'} {d : D} (h : mMut i f os ρ = some (d, ρ')) : ∃ ds ρ1 d0 d1, evs os ρ = some (ds, ρ1) ∧ ρ1[i]? = some (some (.ow d0)) ∧ f d0 ds = some (d, d1) ∧ ρ' = ρ1.set i (some (.ow d1)) := by
  obtain ⟨⟨ds, ρ1⟩, h1, e⟩ := Option.bind_eq_some_iff.mp h
  split at e
  · rename_i d0 h2
    obtain ⟨⟨z1, z2⟩, h3, e⟩ := Option.bind_eq_some_iff.mp e
    cases e
    exact ⟨ds, ρ1, d0, z2, h1, h2, h3, rfl⟩
  · cases e
/-- the receiver is a list -/
def isLst : D → Bool
  | .list _ => true
  | _ => false
def isDct : D → Bool
  | .dict _ => true
  | _ => false
theorem mMut_ok {K : Frag'} {r : V → List V → Hp → VK → Prop} {f : D → List D → Option (D × D)} (hf : MtOk K r f) {i : Nat} {os : List Opd} {σ : L2.St} {H : Hp} {Q : VK} (q : rdE K C (mMut i f os) σ H Q) (v0 : V) (hv : σ[i]? = some (some v0)) :
    tOs K C os σ H fun vs H' => r v0 vs H' Q := by
  obtain ⟨S, ρ, hid, R, d, ρ', e, q⟩ := q
  obtain ⟨ds, ρ1, d0, d1, h1, h2, h3, rfl⟩ := mMut_some e
  refine tOs_ok R h1 fun S' vs H' s R' al => ?_
  obtain ⟨a, o, g1, g2, g3, g4, g5⟩ := R'.write h2
  rw [hv] at g1
  cases g1
  exact hf S' H' a o d0 vs ds d d1 Q R'.sub g2 g3 g4 al h3 fun v o' ow rp => q S' v _ s (g5 o' d1 ow) rp
variable {o : Expr} {name : Str} {apos cpos : Pos} {id T : String} {r : V → List V → Hp → VK → Prop} {f : D → List D → Option (D × D)} {i : Nat} {os : List Opd}
/-- ahead of the arguments: the receiver's kind -/
def kindAt (T : String) (i : Nat) (ρ : Env') : Bool := match ρ[i]? with
  | some (some (.ow (.list _))) => T == "list"
  | some (some (.ow (.dict _))) => T == "dict"
  | _ => false
theorem kindAt_ok {K : Frag'} {S : Hp} {σ : L2.St} {H : Hp} {ρ : Env'} {hid : Hid} (R : RR K C S σ H ρ hid) {T : String} {i : Nat} (h : kindAt T i ρ = true) : ∃ a, σ[i]? = some (some (.ref a)) ∧ tyV K T (.ref a) H := by
  obtain ⟨G, R⟩ := R
  unfold kindAt at h
  split at h
  · rename_i ds e
    obtain ⟨a, h1, _, o, h2, h3⟩ := R.slot i _ e
    refine ⟨a, h1, ?_⟩
    cases o with
    | lst xs => exact .inl ⟨eq_of_beq h, xs, .inl (.inl h2)⟩
    | _ => exact False.elim h3
  · rename_i kvs e
    obtain ⟨a, h1, _, o, h2, h3⟩ := R.slot i _ e
    refine ⟨a, h1, .inr (.inr (.inl ⟨eq_of_beq h, ?_⟩))⟩
    have h3 := h3.dict
    cases o with
    | dK ps => exact .inl ⟨ps, h2⟩
    | dT ps => exact .inr ⟨ps, h2⟩
    | _ => exact False.elim h3
  · cases h
def mMeth (T : String) (i : Nat) (f : D → List D → Option (D × D)) (os : List Opd) : ME := fun ρ => if kindAt T i ρ = true then mMut i f os ρ else none
theorem e_meth (pa : PlainAttrs T) (slot : Slot T name id) (hty : typeOf (.builtin id) = pure (.type "method_descriptor")) (hm : MtR X id r) (hf : MtOk X.K r f) (ho : PE X o (tVar i)) (ha : POs X C (e :: es) os)
    (hbase : attributeBase o name X.env (eval o X.env) = eval o X.env := by rfl)
    (hfew : ((backTo cpos (starEach (e :: es) X.env)).all (fun x => !x.1) && (backToKw cpos (keywordEach [] X.env)).all (fun x => x.1.isSome)
      && decide ((e :: es).length + ([] : List Keyword).length + (if ([] : List Keyword).isEmpty then 0 else 1) < 30)) = true := by rfl)
    (hline : (apos.endLine == cpos.line) = true := by rfl) (hs : starEach (e :: es) X.env = (false, eval e X.env) :: starEach es X.env := by rfl) (hplain : (backTo cpos (starEach es X.env)).any (·.1) = false := by rfl) :
    PE X (.Call (.Attribute o name apos) (e :: es) [] cpos) (rdE X.K C (mMeth T i f os)) := PE.imp (pe_bm pa slot hty hm ho ha.pa hbase hfew hline hs hplain) fun σ H Q q => by
  obtain ⟨S, ρ, hid, R, d, ρ', e, q⟩ := q
  unfold mMeth at e
  split at e
  · rename_i hk
    obtain ⟨a, h1, h2⟩ := kindAt_ok R hk
    exact ⟨.ref a, h1, h2, mMut_ok hf ⟨S, ρ, hid, R, d, ρ', e, q⟩ _ h1⟩
  · cases e
theorem e_meth0 (pa : PlainAttrs T) (slot : Slot T name id) (hty : typeOf (.builtin id) = pure (.type "method_descriptor")) (hm : MtR X id r) (hf : MtOk X.K r f) (ho : PE X o (tVar i))
    (hbase : attributeBase o name X.env (eval o X.env) = eval o X.env := by rfl) (hline : (apos.endLine == cpos.line) = true := by rfl) : PE X (.Call (.Attribute o name apos) [] [] cpos) (rdE X.K C (mMeth T i f [])) := PE.imp (pe_bm0 pa slot hty hm ho hbase hline) fun σ H Q q => by
  obtain ⟨S, ρ, hid, R, d, ρ', e, q⟩ := q
  unfold mMeth at e
  split at e
  · rename_i hk
    obtain ⟨a, h1, h2⟩ := kindAt_ok R hk
    refine ⟨.ref a, h1, h2, ?_⟩
    exact mMut_ok (os := []) hf ⟨S, ρ, hid, R, d, ρ', e, q⟩ _ h1
  · cases e
/-- a method of a value that stands still, or of a name -/
theorem e_mval {r : V → List V → Hp → VK → Prop} {f : List D → Option D} {o1 : Opd} {n : D → Bool} (pa : PlainAttrs T) (slot : Slot T name id) (hty : typeOf (.builtin id) = pure (.type "method_descriptor")) (hm : MtR X id r) (hf : OpOk X.K (lm r) f) (hn : ∀ (S H : Hp) (v : V) (d : D), Same S H → At X.K S H v d → n d = true → tyV X.K T v H) (ho : PO' X C o o1) (ha : POs X C (e :: es) os)
    (hbase : attributeBase o name X.env (eval o X.env) = eval o X.env := by rfl)
    (hfew : ((backTo cpos (starEach (e :: es) X.env)).all (fun x => !x.1) && (backToKw cpos (keywordEach [] X.env)).all (fun x => x.1.isSome)
      && decide ((e :: es).length + ([] : List Keyword).length + (if ([] : List Keyword).isEmpty then 0 else 1) < 30)) = true := by rfl)
    (hline : (apos.endLine == cpos.line) = true := by rfl) (hs : starEach (e :: es) X.env = (false, eval e X.env) :: starEach es X.env := by rfl) (hplain : (backTo cpos (starEach es X.env)).any (·.1) = false := by rfl) :
    PE X (.Call (.Attribute o name apos) (e :: es) [] cpos) (rdE X.K C (fun ρ => (evs [o1] ρ).bind fun q => match q.1 with | [d] => if n d = true then mOp f (o1 :: os) ρ else none | _ => none)) := PE.imp (pe_bm pa slot hty hm ho ha.pa hbase hfew hline hs hplain) fun σ H Q q => by
  obtain ⟨S, ρ, hid, R, d, ρ', e, q⟩ := q
  obtain ⟨⟨ds, ρ1⟩, h1, h2⟩ := Option.bind_eq_some_iff.mp e
  cases ds with
  | nil => cases h2
  | cons d0 r0 =>
    cases r0 with
    | cons _ _ => cases h2
    | nil =>
      have h2 : (if n d0 = true then mOp f (o1 :: os) ρ else none) = some (d, ρ') := h2
      by_cases hd : n d0 = true
      · rw [if_pos hd] at h2
        -- the operands' own row, with the kind of the first
        obtain ⟨⟨es', ρ2⟩, h3, h4⟩ := Option.bind_eq_some_iff.mp h2
        obtain ⟨d2, h5, h6⟩ := Option.bind_eq_some_iff.mp h4
        cases h6
        unfold evs at h1 h3
        obtain ⟨⟨ps1, ρa⟩, i1, i2⟩ := Option.bind_eq_some_iff.mp h1
        obtain ⟨⟨ps3, ρb⟩, j1, j2⟩ := Option.bind_eq_some_iff.mp h3
        obtain ⟨ds3, j3, j4⟩ := Option.bind_eq_some_iff.mp j2
        cases j4
        obtain ⟨ds1, i3, i4⟩ := Option.bind_eq_some_iff.mp i2
        cases i4
        cases o1 with
        | ex m =>
          unfold evp at i1 j1
          obtain ⟨⟨d', ρc⟩, k1, k2⟩ := Option.bind_eq_some_iff.mp i1
          obtain ⟨⟨d'', ρd⟩, l1, l2⟩ := Option.bind_eq_some_iff.mp j1
          rw [k1] at l1
          cases l1
          cases k2
          obtain ⟨⟨ps4, ρe⟩, l3, l4⟩ := Option.bind_eq_some_iff.mp l2
          cases l4
          cases i3
          refine ⟨S, ρ, hid, R, _, _, k1, fun S1 v H1 s1 R1 r1 => ⟨hn S1 H1 v _ R1.sub (.inl r1) hd, ?_⟩⟩
          refine tOs_pre R1 l3 fun S2 vs H2 s2 R2 pr => ?_
          have al := res_ok R2 (PreAll.ex (m := m) (r1.same s2) pr) j3
          exact hf C S2 σ H2 _ hid (v :: vs) _ d Q R2 al h5 fun S3 v3 H3 s3 R3 r3 => q S3 v3 H3 ((s1.trans s2).trans s3) R3 r3
        | nm j =>
          unfold evp at i1 j1
          obtain ⟨d', k1, k2⟩ := Option.bind_eq_some_iff.mp i1
          obtain ⟨d'', l1, l2⟩ := Option.bind_eq_some_iff.mp j1
          cases k2
          obtain ⟨⟨ps4, ρe⟩, l3, l4⟩ := Option.bind_eq_some_iff.mp l2
          cases l4
          obtain ⟨v, g1, g2⟩ := R.look k1
          unfold res at i3
          rw [k1] at i3
          cases i3
          refine ⟨v, g1, hn S H v _ R.sub g2 hd, ?_⟩
          refine tOs_pre R l3 fun S2 vs H2 s2 R2 pr => ?_
          have al := res_ok R2 (PreAll.nm g1 pr) j3
          exact hf C S2 σ H2 _ hid (v :: vs) _ d Q R2 al h5 fun S3 v3 H3 s3 R3 r3 => q S3 v3 H3 (s2.trans s3) R3 r3
      · rw [if_neg hd] at h2
        cases h2
end
end VS

set_option Elab.async false
set_option linter.all false
set_option maxRecDepth 100000
/-! VsF: comprehensions (one clause, two), stores by subscripts, += . -/
namespace VS
open PySem PySem.Spec PyProof.Rows L2

def wipeE (ρ : Env') : List Nat → Env'
  | [] => ρ
  | v :: vs => (wipeE ρ vs).set v none
def restE (ρ0 ρ : Env') : List Nat → Env'
  | [] => ρ
  | v :: vs => (restE ρ0 ρ vs).set v (ρ0[v]?.getD none)
def stSlots (ρ : Env') (vs : List Nat) : Bool := vs.all fun v => match ρ[v]? with
  | some (some (.ow _)) => false
  | _ => true
section
variable {K : Frag'} {C : Ct} {S : Hp} {σ : L2.St} {H : Hp} {ρ : Env'} {hid : Hid}
theorem RR.unset {i : Nat} (R : RR K C S σ H ρ hid) (hi : i ∉ C.ioS) : RR K C S (σ.set i none) H (ρ.set i none) hid := by
  obtain ⟨G, R⟩ := R
  refine ⟨G, R.sub, R.gs, fun j sv h => ?_, R.hd, R.nd, R.old, R.frm, fun p hp => ?_, R.ioh, R.iog, by rw [List.length_set, List.length_set]; exact R.len⟩
  · rcases set_get h with ⟨_, q⟩ | ⟨e, q⟩
    · cases q
    · have s := R.slot j sv q
      cases sv with
      | st d => exact let ⟨v, h1, h2⟩ := s; ⟨v, by rw [List.getElem?_set_ne e]; exact h1, h2⟩
      | ow d => exact let ⟨a, h1, h2, h3⟩ := s; ⟨a, by rw [List.getElem?_set_ne e]; exact h1, h2, h3⟩
  · have ne : i ≠ p.1 := fun e => hi (by rw [e]; exact List.mem_map_of_mem hp)
    rw [List.getElem?_set_ne ne]
    exact R.ios p hp
theorem RR.wipe (R : RR K C S σ H ρ hid) : ∀ {vs : List Nat}, (∀ v ∈ vs, v ∉ C.ioS) → RR K C S (wipe σ vs) H (wipeE ρ vs) hid
  | [], _ => R
  | v :: vs, h => (RR.wipe R fun u hu => h u (List.mem_cons_of_mem _ hu)).unset (h v List.mem_cons_self)
theorem wipeE_len : ∀ {vs : List Nat}, (wipeE ρ vs).length = ρ.length
  | [] => rfl
  | v :: vs => by unfold wipeE; rw [List.length_set, wipeE_len]
theorem restE_len {ρ0 : Env'} : ∀ {vs : List Nat}, (restE ρ0 ρ vs).length = ρ.length
  | [] => rfl
  | v :: vs => by unfold restE; rw [List.length_set, restE_len]
theorem wipeE_out : ∀ {vs : List Nat} {j : Nat}, j ∉ vs → (wipeE ρ vs)[j]? = ρ[j]?
  | [], _, _ => rfl
  | v :: vs, j, h => by
    unfold wipeE
    rw [List.getElem?_set_ne fun e => h (by rw [e]; exact List.mem_cons_self)]
    exact wipeE_out fun z => h (List.mem_cons_of_mem _ z)
theorem restE_out {ρ0 : Env'} : ∀ {vs : List Nat} {j : Nat}, j ∉ vs → (restE ρ0 ρ vs)[j]? = ρ[j]?
  | [], _, _ => rfl
  | v :: vs, j, h => by
    unfold restE
    rw [List.getElem?_set_ne fun e => h (by rw [e]; exact List.mem_cons_self)]
    exact restE_out fun z => h (List.mem_cons_of_mem _ z)
theorem restE_in {ρ0 : Env'} : ∀ {vs : List Nat} {j : Nat} {sv : SV}, j ∈ vs → (restE ρ0 ρ vs)[j]? = some (some sv) → ρ0[j]? = some (some sv)
  | v :: vs, j, sv, h, e => by
    unfold restE at e
    rcases set_get e with ⟨e1, e2⟩ | ⟨e1, e2⟩
    · subst e1
      cases q : ρ0[v]? with
      | none => rw [q] at e2; cases e2
      | some z =>
        rw [q] at e2
        have e2 : some sv = z := e2
        rw [← e2]
    · rcases List.mem_cons.mp h with z | z
      · exact absurd z.symm e1
      · exact restE_in z e2
theorem set_none_none {α : Type} {l : List (Option α)} {v j : Nat} : (l.set v none)[j]? = if v = j then (if v < l.length then some none else none) else l[j]? := by
  rw [List.getElem?_set]
theorem wipe_in {σ : L2.St} : ∀ {vs : List Nat} {j : Nat}, j ∈ vs → (L2.wipe σ vs)[j]? = if j < σ.length then some none else none
  | v :: vs, j, h => by
    unfold L2.wipe
    rw [set_none_none, wipe_length]
    split
    · rename_i e
      rw [e]
    · rename_i e
      rcases List.mem_cons.mp h with z | z
      · exact absurd z.symm e
      · exact wipe_in z
theorem wipe_eq {σ σ' : L2.St} {vs : List Nat} (hl : σ'.length = σ.length) (h : ∀ j, j ∉ vs → σ'[j]? = σ[j]?) : L2.wipe σ' vs = L2.wipe σ vs := by
  apply List.ext_getElem?
  intro j
  by_cases hj : j ∈ vs
  · rw [wipe_in hj, wipe_in hj, hl]
  · rw [wipe_out hj, wipe_out hj]
    exact h j hj
theorem setAll_len : ∀ {is : List Nat} {ds : List D} {ρ ρ' : Env'}, setAll is ds ρ = some ρ' → ρ'.length = ρ.length
  | [], [], ρ, ρ', h => by
    cases h
    rfl
  | i :: is, d :: ds, ρ, ρ', h => by
    have h : setAll is ds (ρ.set i (some (.st d))) = some ρ' := h
    rw [setAll_len h, List.length_set]
  | [], _ :: _, _, _, h => by cases h
  | _ :: _, [], _, _, h => by cases h
theorem setT_len {t : Tgt} {d : D} {ρ ρ' : Env'} (h : setT t d ρ = some ρ') : ρ'.length = ρ.length := by
  cases t with
  | nm i =>
    cases h
    rw [List.length_set]
  | tu is =>
    cases d with
    | tuple ds => exact setAll_len (show setAll is ds ρ = some ρ' from h)
    | list ds => exact setAll_len (show setAll is ds ρ = some ρ' from h)
    | _ => cases h
theorem RR.len (R : RR K C S σ H ρ hid) : ρ.length = σ.length := let ⟨_, R⟩ := R; R.len
/-- behind a comprehension's block: the names as they were ahead -/
theorem RR.back {ρ1 : Env'} {S1 H1 : Hp} {hid0 : Hid} {vs : List Nat} (R : RR K C S σ H ρ hid0) (hs : stSlots ρ vs = true) (s : Same S S1) (R1 : RR K C S1 (L2.wipe σ vs) H1 (wipeE ρ1 vs) hid) : RR K C S1 σ H1 (restE ρ ρ1 vs) hid := by
  obtain ⟨G, R⟩ := R
  obtain ⟨G1, R1⟩ := R1
  refine ⟨G1, R1.sub, R1.gs, fun j sv h => ?_, R1.hd, R1.nd, R1.old, R1.frm, R.ios, R1.ioh, R1.iog, ?_⟩
  · by_cases hj : j ∈ vs
    · have e := restE_in hj h
      have s1 := R.slot j sv e
      cases sv with
      | st d =>
        obtain ⟨v, h1, h2⟩ := s1
        exact ⟨v, h1, h2.same s⟩
      | ow d =>
        have q := List.all_eq_true.mp hs j hj
        rw [e] at q
        cases q
    · rw [restE_out hj] at h
      have s1 := R1.slot j sv (by rw [wipeE_out hj]; exact h)
      cases sv with
      | st d =>
        obtain ⟨v, h1, h2⟩ := s1
        rw [wipe_out hj] at h1
        exact ⟨v, h1, h2⟩
      | ow d =>
        obtain ⟨v, h1, h2⟩ := s1
        rw [wipe_out hj] at h1
        exact ⟨v, h1, h2⟩
  · rw [restE_len]
    have e := R1.len
    rw [wipeE_len, wipe_length] at e
    exact e
/-- the list at the head of the hidden ones grows -/
theorem RR.grow {p : Addr} {ds : List D} {v : V} {d : D} (R : RR K C S σ H ρ ((p, .list ds) :: hid)) (r : Dp K S v d) : ∃ xs, H p = some (.lst xs) ∧ xs.length = ds.length ∧ RR K C S σ (upd H p (.lst (xs ++ [v]))) ρ ((p, .list (ds ++ [d])) :: hid) := by
  obtain ⟨G, R⟩ := R
  obtain ⟨g1, h0, o, ho, ow⟩ := R.hd (p, .list ds) List.mem_cons_self
  have g1 : G p = some none := g1
  have h0 : C.H0 p = none := h0
  have ho : H p = some o := ho
  have hS := (R.gs p _ g1).1
  cases o with
  | lst xs =>
    have ow : DpAll K S xs ds := ow
    have nd := List.nodup_cons.mp R.nd
    refine ⟨xs, ho, DpAll.length ow, G, same_updR R.sub hS, fun a l z => ⟨(R.gs a l z).1, ?_, (R.gs a l z).2.2⟩, fun i sv h => ?_, fun q hq => ?_, List.nodup_cons.mpr nd, R.old, fun a x e hm => ?_, R.ios, fun a hm => ?_, R.iog, R.len⟩
    · by_cases e : a = p
      · rw [e, upd_same]
        exact nofun
      · rw [upd_ne e]
        exact (R.gs a l z).2.1
    · have s := R.slot i sv h
      cases sv with
      | st d => exact s
      | ow d =>
        obtain ⟨a, h1, h2, h3⟩ := s
        have ne : a ≠ p := fun e => by
          rw [e, g1] at h2
          cases h2
        exact ⟨a, h1, h2, h3.keep (upd_ne ne)⟩
    · rcases List.mem_cons.mp hq with e | hq
      · subst e
        exact ⟨g1, h0, _, upd_same, DpAll.append ow (DpAll.one r)⟩
      · obtain ⟨h1, h2, h3⟩ := R.hd q (List.mem_cons_of_mem _ hq)
        have ne : q.1 ≠ p := fun e => nd.1 (List.mem_map.mpr ⟨q, hq, e⟩)
        exact ⟨h1, h2, h3.keep (upd_ne ne)⟩
    · have ne : a ≠ p := fun z => by
        rw [z, h0] at e
        cases e
      rw [upd_ne ne]
      exact R.frm a x e hm
    · by_cases e : a = p
      · rw [e, upd_same]
        exact nofun
      · rw [upd_ne e]
        exact R.ioh a hm
  | _ => exact False.elim ow
end

/-! ### comprehensions -/
def compL (own : List Nat) (t : Tgt) (tt : MT) (me : ME) : List D → Env' → Option (List D × Env')
  | [], ρ => some ([], ρ)
  | d :: ds, ρ => (setT t d (wipeE ρ own)).bind fun ρ1 => (tt ρ1).bind fun p => if p.1 = true then
      (me p.2).bind fun y => if noDict y.1 = true then (compL own t tt me ds y.2).bind fun z => some (y.1 :: z.1, z.2) else none
    else compL own t tt me ds p.2
def mComp (own : List Nat) (t : Tgt) (mi : MI) (tt : MT) (me : ME) : ME := fun ρ => (mi ρ).bind fun p => if stSlots p.2 own = true ∧ p.1.length ≤ sizeLine then (compL own t tt me p.1 p.2).bind fun z => some (.list z.1, restE p.2 z.2 own) else none
def mYes : MT := fun ρ => some (true, ρ)
section
variable {X : Cx} {C : Ct} {pos : Pos}
theorem ts_nil : PTs X [] (rdT X.K C mYes) := ⟨fun pins s σ H Q I q => by
  obtain ⟨S, ρ, hid, R, b, ρ', e, q⟩ := q
  cases e
  exact pts_nil.run pins s σ H Q I (q S H (Same.refl S) R)⟩
theorem ts_one {c : Expr} {t : MT} (h : PT X c (rdT X.K C t)) : PTs X [c] (rdT X.K C t) := pts_one h
/-- the reading of a comprehension: its turns -/
theorem lc_ok {K : Frag'} {own : List Nat} {t : Tgt} {mi : MI} {tt : MT} {me : ME} (ht : ∀ i ∈ tgtI t, i ∈ own) (hio : ∀ v ∈ own, v ∉ C.ioS) {σ : L2.St} {H : Hp} {Q : VK} (q : rdF K C (mComp own t mi tt me) σ H Q) : tLc (rdI K C mi) (rdG K C t) (rdT K C tt) (rdE K C me) own σ H Q := by
  obtain ⟨S, ρ, hid, R, d, ρ', e, q⟩ := q
  obtain ⟨⟨items, ρ1⟩, h1, e⟩ := Option.bind_eq_some_iff.mp e
  have e : (if stSlots ρ1 own = true ∧ items.length ≤ sizeLine then (compL own t tt me items ρ1).bind fun z => some (PyData.list z.1, restE ρ1 z.2 own) else none) = some (d, ρ') := e
  by_cases hc : stSlots ρ1 own = true ∧ items.length ≤ sizeLine
  · rw [if_pos hc] at e
    obtain ⟨⟨ys, ρe⟩, h2, e⟩ := Option.bind_eq_some_iff.mp e
    cases e
    refine ⟨S, ρ, hid, R, items, ρ1, h1, fun S0 H0 J s0 R0 D0 Dn hD => ?_⟩
    refine ⟨fun i m H1 => m = items.length - i ∧ i ≤ items.length ∧ ∃ S1 ρ2 acc rs, Same S0 S1 ∧ RR K C S1 (L2.wipe σ own) H1 (wipeE ρ2 own) ((Dn, .list acc) :: hid) ∧ compL own t tt me (items.drop i) ρ2 = some (rs, ρe) ∧ acc ++ rs = ys ∧ acc.length ≤ i,
      ⟨items.length, by simp, Nat.zero_le _, S0, ρ1, [], ys, Same.refl _, (R0.wipe hio).fresh (d := .list []) hD .nil, h2, rfl, Nat.le_refl _⟩, ?_⟩
    rintro i m H1 ⟨rfl, hi, S1, ρ2, acc, rs, s1, R1, e1, ea, la⟩
    by_cases hlt : i < items.length
    · refine .inr ⟨D0.go i S1 _ H1 _ _ s1 R1 hlt, fun H' => ∃ S2 ρ3 acc rs, Same S0 S2 ∧ RR K C S2 (L2.wipe σ own) H' (wipeE ρ3 own) ((Dn, .list acc) :: hid) ∧ compL own t tt me (items.drop (i + 1)) ρ3 = some (rs, ρe) ∧ acc ++ rs = ys ∧ acc.length ≤ i + 1,
        fun H' z => ⟨items.length - (i + 1), by omega, rfl, hlt, z⟩, fun x H' y => ?_⟩
      obtain ⟨S2, s2, R2, r2⟩ := D0.yld i S1 _ H1 _ _ x H' items[i] s1 R1 (List.getElem?_eq_getElem hlt) y
      rw [List.drop_eq_getElem_cons hlt] at e1
      unfold compL at e1
      obtain ⟨ρ3, g1, g2⟩ := Option.bind_eq_some_iff.mp e1
      obtain ⟨⟨b, ρ4⟩, g3, g4⟩ := Option.bind_eq_some_iff.mp g2
      refine ⟨S2, wipeE ρ2 own, _, items[i], ρ3, R2, r2, g1, fun σ3 R3 k3 => ⟨?_, S2, ρ3, _, R3, b, ρ4, g3, fun S4 H4 s4 R4 => ?_⟩⟩
      · have e := wipe_eq (σ := L2.wipe σ own) (σ' := σ3) (vs := own) (by rw [← R3.len, setT_len g1, R2.len]) fun j hj => k3 j fun z => hj (ht j z)
        rw [e]
        exact wipe_eq (by rw [wipe_length]) fun j hj => wipe_out hj
      · have w3 : ∀ {S5 : Hp} {ρ5 : Env'} {H5 : Hp} {hid5 : Hid}, RR K C S5 σ3 H5 ρ5 hid5 → RR K C S5 (L2.wipe σ own) H5 (wipeE ρ5 own) hid5 := fun {S5 ρ5 H5 hid5} R5 => by
          have z := R5.wipe hio
          have e := wipe_eq (σ := L2.wipe σ own) (σ' := σ3) (vs := own) (by rw [← R3.len, setT_len g1, R2.len]) fun j hj => k3 j fun z => hj (ht j z)
          rw [e, wipe_eq (σ := σ) (σ' := L2.wipe σ own) (by rw [wipe_length]) fun j hj => wipe_out hj] at z
          exact z
        cases b with
        | false => exact ⟨S4, ρ4, acc, rs, (s1.trans s2).trans s4, w3 R4, g4, ea, by omega⟩
        | true =>
          refine iteT ?_
          have g4 : ((me ρ4).bind fun y => if noDict y.1 = true then (compL own t tt me (items.drop (i + 1)) y.2).bind fun z => some (y.1 :: z.1, z.2) else none) = some (rs, ρe) := g4
          obtain ⟨⟨y5, ρ5⟩, k1, k2⟩ := Option.bind_eq_some_iff.mp g4
          have k2 : (if noDict y5 = true then (compL own t tt me (items.drop (i + 1)) ρ5).bind fun z => some (y5 :: z.1, z.2) else none) = some (rs, ρe) := k2
          by_cases hn : noDict y5 = true
          · rw [if_pos hn] at k2
            obtain ⟨⟨zs, ρ6⟩, k3', k4⟩ := Option.bind_eq_some_iff.mp k2
            cases k4
            refine ⟨S4, ρ4, _, R4, y5, ρ5, k1, fun S5 v5 H5 s5 R5 r5 => ?_⟩
            obtain ⟨xs, hx, lx, R6⟩ := R5.grow (r5.dp hn)
            refine ⟨xs, hx, by rw [lx]; omega, S5, ρ5, acc ++ [y5], zs, ((s1.trans s2).trans s4).trans s5, w3 R6, k3', by rw [List.append_assoc]; exact ea, by rw [List.length_append, List.length_singleton]; omega⟩
          · rw [if_neg hn] at k2
            cases k2
    · have ei : i = items.length := by omega
      subst ei
      rw [List.drop_length] at e1
      cases e1
      rw [List.append_nil] at ea
      subst ea
      refine .inl ⟨D0.stop _ S1 _ H1 _ _ s1 R1 (Nat.le_refl _), q S1 Dn H1 (s0.trans s1) ?_⟩
      exact R0.back hc.1 s1 R1
  · rw [if_neg hc] at e
    cases e
theorem f_lc {elt tg iter : Expr} {ifs : List Expr} {scope : Scope} {own : List (Str × Nat)} {t : Tgt} {mi : MI} {tt : MT} {me : ME} (hc : X.calm = true) (hN : X.N.Nodup) (hi : PI X tg iter (rdI X.K C mi)) (ok : BlkOk X.N X.env.scope scope own) (ht : ∀ i ∈ tgtI t, i ∈ own.map (·.2)) (hio : ∀ v ∈ own.map (·.2), v ∉ C.ioS)
    (hg : ∀ (s : Shared) (H : Hp) (Ca : Addr) (cl : List (Str × Addr)) (fp : List Addr), PG (X.blk s H scope (compEnvC scope cl Ca X.env) fp) tg (rdG X.K C t)) (htt : ∀ (s : Shared) (H : Hp) (Ca : Addr) (cl : List (Str × Addr)) (fp : List Addr), PTs (X.blk s H scope (compEnvC scope cl Ca X.env) fp) ifs (rdT X.K C tt))
    (he : ∀ (s : Shared) (H : Hp) (Ca : Addr) (cl : List (Str × Addr)) (fp : List Addr), PE (X.blk s H scope (compEnvC scope cl Ca X.env) fp) elt (rdE X.K C me)) (hs : ∀ x, foldedSetIterable iter X.env x = pure x := by intro _; rfl) :
    PE X (.ListComp elt [⟨tg, iter, ifs, 0⟩] scope pos) (rdF X.K C (mComp (own.map (·.2)) t mi tt me)) := PE.imp (pe_lc hc hN hi ok hg htt he hs) fun σ H Q q => lc_ok ht hio q
/-- name = [..] on one line -/
theorem s_setLc {i : Nat} {y : Str} {py : Pos} {elt tg iter : Expr} {ifs : List Expr} {scope : Scope} {own : List (Str × Nat)} {spos : Pos} {t : Tgt} {mi : MI} {tt : MT} {me : ME} (hc : X.calm = true) (hN : X.N.Nodup) (hy : X.N[i]? = some y) (hyl : X.env.scope.names.lookup y = some .local) (hyo : i ∉ C.ioS)
    (hsw : swapsWith (.ListComp elt [⟨tg, iter, ifs, 0⟩] scope pos) (some (.Name y py)) spos.line X.env = pure true) (hi : PI X tg iter (rdI X.K C mi)) (ok : BlkOk X.N X.env.scope scope own) (ht : ∀ i ∈ tgtI t, i ∈ own.map (·.2)) (hio : ∀ v ∈ own.map (·.2), v ∉ C.ioS)
    (hg : ∀ (s : Shared) (H : Hp) (Ca : Addr) (cl : List (Str × Addr)) (fp : List Addr), PG (X.blk s H scope (compEnvC scope cl Ca X.env) fp) tg (rdG X.K C t)) (htt : ∀ (s : Shared) (H : Hp) (Ca : Addr) (cl : List (Str × Addr)) (fp : List Addr), PTs (X.blk s H scope (compEnvC scope cl Ca X.env) fp) ifs (rdT X.K C tt))
    (he : ∀ (s : Shared) (H : Hp) (Ca : Addr) (cl : List (Str × Addr)) (fp : List Addr), PE (X.blk s H scope (compEnvC scope cl Ca X.env) fp) elt (rdE X.K C me)) (hs : ∀ x, foldedSetIterable iter X.env x = pure x := by intro _; rfl) :
    PS X (.Assign [.Name y py] (.ListComp elt [⟨tg, iter, ifs, 0⟩] scope pos) spos) (rdS X.K C (mSetF i (mComp (own.map (·.2)) t mi tt me))) := PS.imp (ps_setLc hc hN hy hyl hsw hi ok hg htt he hs) fun Dn σ H q => by
  obtain ⟨S, ρ, hid, R, o, e, q⟩ := q
  obtain ⟨⟨d, ρ1⟩, h1, h2⟩ := Option.bind_eq_some_iff.mp e
  cases h2
  exact lc_ok ht hio ⟨S, ρ, hid, R, d, ρ1, h1, fun S' p H' s R' => q S' _ H' s (R'.take hyo)⟩
end

/-! ### two clauses -/
def compL2 (own : List Nat) (t : Tgt) (tt : MT) (own1 : List Nat) (t1 : Tgt) (mi1 : MI) (tt1 : MT) (me : ME) : List D → Env' → Option (List D × Env')
  | [], ρ => some ([], ρ)
  | d :: ds, ρ => (setT t d (wipeE ρ own)).bind fun ρ1 => (tt ρ1).bind fun p => if p.1 = true then
      (mi1 p.2).bind fun j => (compL own1 t1 tt1 me j.1 j.2).bind fun y => (compL2 own t tt own1 t1 mi1 tt1 me ds y.2).bind fun z => some (y.1 ++ z.1, z.2)
    else compL2 own t tt own1 t1 mi1 tt1 me ds p.2
def mComp2 (own : List Nat) (t : Tgt) (mi : MI) (tt : MT) (own1 : List Nat) (t1 : Tgt) (mi1 : MI) (tt1 : MT) (me : ME) : ME := fun ρ => (mi ρ).bind fun p => if stSlots p.2 own = true then (compL2 own t tt own1 t1 mi1 tt1 me p.1 p.2).bind fun z => if z.1.length ≤ sizeLine then some (.list z.1, restE p.2 z.2 own) else none else none
theorem compL_len {own : List Nat} {t : Tgt} {tt : MT} {me : ME} : ∀ {ds : List D} {ρ ρ' : Env'} {ys : List D}, compL own t tt me ds ρ = some (ys, ρ') → ys.length ≤ ds.length
  | [], ρ, ρ', ys, h => by
    cases h
    exact Nat.le_refl _
  | d :: ds, ρ, ρ', ys, h => by
    unfold compL at h
    obtain ⟨ρ1, g1, g2⟩ := Option.bind_eq_some_iff.mp h
    obtain ⟨⟨b, ρ2⟩, g3, g4⟩ := Option.bind_eq_some_iff.mp g2
    cases b with
    | false => exact Nat.le_succ_of_le (compL_len (ds := ds) g4)
    | true =>
      have g4 : ((me ρ2).bind fun y => if noDict y.1 = true then (compL own t tt me ds y.2).bind fun z => some (y.1 :: z.1, z.2) else none) = some (ys, ρ') := g4
      obtain ⟨⟨y, ρ3⟩, k1, k2⟩ := Option.bind_eq_some_iff.mp g4
      have k2 : (if noDict y = true then (compL own t tt me ds ρ3).bind fun z => some (y :: z.1, z.2) else none) = some (ys, ρ') := k2
      split at k2
      · obtain ⟨⟨zs, ρ4⟩, k3, k4⟩ := Option.bind_eq_some_iff.mp k2
        cases k4
        exact Nat.succ_le_succ (compL_len (ds := ds) k3)
      · cases k2
section
variable {X : Cx} {C : Ct} {pos : Pos}
theorem lc2_ok {K : Frag'} {own own1 : List Nat} {t t1 : Tgt} {mi mi1 : MI} {tt tt1 : MT} {me : ME} (ht : ∀ i ∈ tgtI t, i ∈ own) (ht1 : ∀ i ∈ tgtI t1, i ∈ own1) (h11 : ∀ i ∈ own1, i ∈ own) (hio : ∀ v ∈ own, v ∉ C.ioS) {σ : L2.St} {H : Hp} {Q : VK} (q : rdF K C (mComp2 own t mi tt own1 t1 mi1 tt1 me) σ H Q) :
    tLc2 (rdI K C mi) (rdG K C t) (rdT K C tt) (rdI K C mi1) (rdG K C t1) (rdT K C tt1) (rdE K C me) own own1 σ H Q := by
  obtain ⟨S, ρ, hid, R, d, ρ', e, q⟩ := q
  obtain ⟨⟨items, ρ1⟩, h1, e⟩ := Option.bind_eq_some_iff.mp e
  have e : (if stSlots ρ1 own = true then (compL2 own t tt own1 t1 mi1 tt1 me items ρ1).bind fun z => if z.1.length ≤ sizeLine then some (PyData.list z.1, restE ρ1 z.2 own) else none else none) = some (d, ρ') := e
  by_cases hc : stSlots ρ1 own = true
  · rw [if_pos hc] at e
    obtain ⟨⟨ys, ρe⟩, h2, e⟩ := Option.bind_eq_some_iff.mp e
    have e : (if ys.length ≤ sizeLine then some (PyData.list ys, restE ρ1 ρe own) else none) = some (d, ρ') := e
    by_cases hz : ys.length ≤ sizeLine
    · rw [if_pos hz] at e
      cases e
      have hio1 : ∀ v ∈ own1, v ∉ C.ioS := fun v hv => hio v (h11 v hv)
      have ww : ∀ (τ : L2.St), L2.wipe (L2.wipe τ own1) own = L2.wipe τ own := fun τ => wipe_eq (by rw [wipe_length]) fun j hj => wipe_out fun z => hj (h11 j z)
      refine ⟨S, ρ, hid, R, items, ρ1, h1, fun S0 H0 J s0 R0 D0 Dn hD => ?_⟩
      refine ⟨fun i m H1 => m = items.length - i ∧ i ≤ items.length ∧ ∃ S1 ρ2 acc rs, Same S0 S1 ∧ RR K C S1 (L2.wipe σ own) H1 (wipeE ρ2 own) ((Dn, .list acc) :: hid) ∧ compL2 own t tt own1 t1 mi1 tt1 me (items.drop i) ρ2 = some (rs, ρe) ∧ acc ++ rs = ys,
        ⟨items.length, by simp, Nat.zero_le _, S0, ρ1, [], ys, Same.refl _, (R0.wipe hio).fresh (d := .list []) hD .nil, h2, rfl⟩, ?_⟩
      rintro i m H1 ⟨rfl, hi, S1, ρ2, acc, rs, s1, R1, e1, ea⟩
      by_cases hlt : i < items.length
      · refine .inr ⟨D0.go i S1 _ H1 _ _ s1 R1 hlt, fun H' => ∃ S2 ρ3 acc rs, Same S0 S2 ∧ RR K C S2 (L2.wipe σ own) H' (wipeE ρ3 own) ((Dn, .list acc) :: hid) ∧ compL2 own t tt own1 t1 mi1 tt1 me (items.drop (i + 1)) ρ3 = some (rs, ρe) ∧ acc ++ rs = ys,
          fun H' z => ⟨items.length - (i + 1), by omega, rfl, hlt, z⟩, fun x H' y => ?_⟩
        obtain ⟨S2, s2, R2, r2⟩ := D0.yld i S1 _ H1 _ _ x H' items[i] s1 R1 (List.getElem?_eq_getElem hlt) y
        rw [List.drop_eq_getElem_cons hlt] at e1
        unfold compL2 at e1
        obtain ⟨ρ3, g1, g2⟩ := Option.bind_eq_some_iff.mp e1
        obtain ⟨⟨b, ρ4⟩, g3, g4⟩ := Option.bind_eq_some_iff.mp g2
        refine ⟨S2, wipeE ρ2 own, _, items[i], ρ3, R2, r2, g1, fun σ3 R3 k3 => ⟨?_, S2, ρ3, _, R3, b, ρ4, g3, fun S4 H4 s4 R4 => ?_⟩⟩
        · have e := wipe_eq (σ := L2.wipe σ own) (σ' := σ3) (vs := own) (by rw [← R3.len, setT_len g1, R2.len]) fun j hj => k3 j fun z => hj (ht j z)
          rw [e]
          exact wipe_eq (by rw [wipe_length]) fun j hj => wipe_out hj
        · have e3 : L2.wipe σ3 own = L2.wipe σ own := by
            have e := wipe_eq (σ := L2.wipe σ own) (σ' := σ3) (vs := own) (by rw [← R3.len, setT_len g1, R2.len]) fun j hj => k3 j fun z => hj (ht j z)
            rw [e]
            exact wipe_eq (by rw [wipe_length]) fun j hj => wipe_out hj
          cases b with
          | false =>
            refine ⟨S4, ρ4, acc, rs, (s1.trans s2).trans s4, ?_, g4, ea⟩
            have z := R4.wipe hio
            rw [e3] at z
            exact z
          | true =>
            refine iteT ?_
            have g4 : ((mi1 ρ4).bind fun j => (compL own1 t1 tt1 me j.1 j.2).bind fun y => (compL2 own t tt own1 t1 mi1 tt1 me (items.drop (i + 1)) y.2).bind fun z => some (y.1 ++ z.1, z.2)) = some (rs, ρe) := g4
            obtain ⟨⟨its1, ρ5⟩, k1, k2⟩ := Option.bind_eq_some_iff.mp g4
            obtain ⟨⟨ys1, ρ6⟩, k3', k4⟩ := Option.bind_eq_some_iff.mp k2
            obtain ⟨⟨zs, ρ7⟩, k5, k6⟩ := Option.bind_eq_some_iff.mp k4
            cases k6
            refine ⟨S4, ρ4, _, R4, its1, ρ5, k1, fun S5 H5 J1 s5 R5 D5 => ?_⟩
            refine ⟨fun j m H1 => m = its1.length - j ∧ j ≤ its1.length ∧ ∃ S6 ρ8 acc1 rs1, Same S5 S6 ∧ RR K C S6 (L2.wipe σ3 own1) H1 (wipeE ρ8 own1) ((Dn, .list acc1) :: hid) ∧ compL own1 t1 tt1 me (its1.drop j) ρ8 = some (rs1, ρ6) ∧ acc1 ++ rs1 = acc ++ ys1,
              ⟨its1.length, by simp, Nat.zero_le _, S5, ρ5, acc, ys1, Same.refl _, R5.wipe hio1, k3', rfl⟩, ?_⟩
            rintro j m H1 ⟨rfl, hj, S6, ρ8, acc1, rs1, s6, R6, e6, ea6⟩
            by_cases hlt1 : j < its1.length
            · refine .inr ⟨D5.go j S6 _ H1 _ _ s6 R6 hlt1, fun H' => ∃ S7 ρ9 acc1 rs1, Same S5 S7 ∧ RR K C S7 (L2.wipe σ3 own1) H' (wipeE ρ9 own1) ((Dn, .list acc1) :: hid) ∧ compL own1 t1 tt1 me (its1.drop (j + 1)) ρ9 = some (rs1, ρ6) ∧ acc1 ++ rs1 = acc ++ ys1,
                fun H' z => ⟨its1.length - (j + 1), by omega, rfl, hlt1, z⟩, fun x H' y => ?_⟩
              obtain ⟨S7, s7, R7, r7⟩ := D5.yld j S6 _ H1 _ _ x H' its1[j] s6 R6 (List.getElem?_eq_getElem hlt1) y
              rw [List.drop_eq_getElem_cons hlt1] at e6
              unfold compL at e6
              obtain ⟨ρ9, l1, l2⟩ := Option.bind_eq_some_iff.mp e6
              obtain ⟨⟨b1, ρa⟩, l3, l4⟩ := Option.bind_eq_some_iff.mp l2
              refine ⟨S7, wipeE ρ8 own1, _, its1[j], ρ9, R7, r7, l1, fun σ4 R8 k8 => ⟨?_, S7, ρ9, _, R8, b1, ρa, l3, fun S9 H9 s9 R9 => ?_⟩⟩
              · have e := wipe_eq (σ := L2.wipe σ3 own1) (σ' := σ4) (vs := own1) (by rw [← R8.len, setT_len l1, R7.len]) fun i hi => k8 i fun z => hi (ht1 i z)
                rw [e]
                exact wipe_eq (by rw [wipe_length]) fun j hj => wipe_out hj
              · have w4 : ∀ {S5 : Hp} {ρ5 : Env'} {H5 : Hp} {hid5 : Hid}, RR K C S5 σ4 H5 ρ5 hid5 → RR K C S5 (L2.wipe σ3 own1) H5 (wipeE ρ5 own1) hid5 := fun {S5 ρ5 H5 hid5} R5 => by
                  have z := R5.wipe hio1
                  have e := wipe_eq (σ := L2.wipe σ3 own1) (σ' := σ4) (vs := own1) (by rw [← R8.len, setT_len l1, R7.len]) fun i hi => k8 i fun z => hi (ht1 i z)
                  rw [e, wipe_eq (σ := σ3) (σ' := L2.wipe σ3 own1) (by rw [wipe_length]) fun j hj => wipe_out hj] at z
                  exact z
                cases b1 with
                | false => exact ⟨S9, ρa, acc1, rs1, (s6.trans s7).trans s9, w4 R9, l4, ea6⟩
                | true =>
                  refine iteT ?_
                  have l4 : ((me ρa).bind fun y => if noDict y.1 = true then (compL own1 t1 tt1 me (its1.drop (j + 1)) y.2).bind fun z => some (y.1 :: z.1, z.2) else none) = some (rs1, ρ6) := l4
                  obtain ⟨⟨y5, ρb⟩, m1, m2⟩ := Option.bind_eq_some_iff.mp l4
                  have m2 : (if noDict y5 = true then (compL own1 t1 tt1 me (its1.drop (j + 1)) ρb).bind fun z => some (y5 :: z.1, z.2) else none) = some (rs1, ρ6) := m2
                  by_cases hn : noDict y5 = true
                  · rw [if_pos hn] at m2
                    obtain ⟨⟨us, ρc⟩, m3, m4⟩ := Option.bind_eq_some_iff.mp m2
                    cases m4
                    refine ⟨S9, ρa, _, R9, y5, ρb, m1, fun Sa va Ha sa Ra ra => ?_⟩
                    obtain ⟨xs, hx, lx, Rb⟩ := Ra.grow (ra.dp hn)
                    refine ⟨xs, hx, ?_, Sa, ρb, acc1 ++ [y5], us, ((s6.trans s7).trans s9).trans sa, w4 Rb, m3, by rw [List.append_assoc]; exact ea6⟩
                    have z1 := congrArg List.length ea6
                    have z2 := congrArg List.length ea
                    simp only [List.length_append, List.length_cons] at z1 z2
                    omega
                  · rw [if_neg hn] at m2
                    cases m2
            · have ej : j = its1.length := by omega
              subst ej
              rw [List.drop_length] at e6
              cases e6
              rw [List.append_nil] at ea6
              subst ea6
              refine .inl ⟨D5.stop _ S6 _ H1 _ _ s6 R6 (Nat.le_refl _), S6, ρ6, acc ++ ys1, zs, (((s1.trans s2).trans s4).trans s5).trans s6, ?_, k5, by rw [List.append_assoc]; exact ea⟩
              have z := R6.wipe hio
              rw [ww, e3] at z
              have e9 : wipeE (wipeE ρ6 own1) own = wipeE ρ6 own := by
                apply List.ext_getElem?
                intro j
                have wi : ∀ (ρ : Env') (vs : List Nat), j ∈ vs → (wipeE ρ vs)[j]? = if j < ρ.length then some none else none := by
                  intro ρ vs
                  induction vs with
                  | nil => exact fun h => nomatch h
                  | cons v vs ih =>
                    intro h
                    unfold wipeE
                    rw [set_none_none, wipeE_len]
                    split
                    · rename_i e
                      rw [e]
                    · rename_i e
                      rcases List.mem_cons.mp h with z | z
                      · exact absurd z.symm e
                      · exact ih z
                by_cases hj : j ∈ own
                · rw [wi _ _ hj, wi _ _ hj, wipeE_len]
                · rw [wipeE_out hj, wipeE_out hj, wipeE_out fun z => hj (h11 j z)]
              rw [e9] at z
              exact z
      · have ei : i = items.length := by omega
        subst ei
        rw [List.drop_length] at e1
        cases e1
        rw [List.append_nil] at ea
        subst ea
        refine .inl ⟨D0.stop _ S1 _ H1 _ _ s1 R1 (Nat.le_refl _), q S1 Dn H1 (s0.trans s1) ?_⟩
        exact R0.back hc s1 R1
    · rw [if_neg hz] at e
      cases e
  · rw [if_neg hc] at e
    cases e
end
end VS

set_option Elab.async false
set_option linter.all false
set_option maxRecDepth 100000
/-! VsG: what loops and comprehensions walk: lists, tuples, texts, ranges, enumerate, zip. -/
namespace VS
open PySem PySem.Spec PyProof.Rows L2

/-! ### enumerate of a tuple -/
def IteT (K : Frag') (a : Addr) : It :=
  ⟨fun i H => ∃ (xs : List V) (x : V), SqT K H a xs ∧ xs[i]? = some x, fun i H v H' => ∃ T x, v = .ref T ∧ H T = none ∧ H' = upd H T (.tup [.int (i : Nat), x]) ∧ ∀ xs, SqT K H a xs → xs[i]? = some x, fun i H => ∃ xs : List V, SqT K H a xs ∧ xs.length ≤ i⟩
theorem turn_enumT {P : Program} {w : World} {K : Frag'} {elts : List Expr} {kk : Nat} {tpos : Pos} (a e it : Addr) :
    Turn P w K (.Tuple elts kk tpos) (IteT K a) [e, it] e (fun i h => (∃ old, IsEnum h e it ((i : Nat) : Int) old) ∧ h.IsTupleIter it a i ∧ e ≠ it ∧ a ≠ e ∧ a ≠ it) where
  mem := by simp
  obj := fun i h st b hb => by
    obtain ⟨⟨old, he⟩, ⟨o, ho, hc, hd⟩, _⟩ := st
    have e' : b = e ∨ b = it := by simpa using hb
    rcases e' with z | z
    · rw [z]; exact ⟨_, he, fun v q => nomatch q⟩
    · rw [z]; exact ⟨o, ho, fun v q => by rw [hd] at q; cases q⟩
  keep := fun i h h' st k => let ⟨⟨old, he⟩, hi, hne⟩ := st; ⟨⟨old, k e (by simp) _ he⟩, hi.at fun o q => k it (by simp) o q, hne⟩
  item := by
    intro X hP hw hK hc i pins s σ H E I hf st hg
    subst hP hw hK
    obtain ⟨⟨old, he⟩, hit, hne, ha1, ha2⟩ := st
    obtain ⟨xs, x, hq, hx⟩ := hg
    obtain ⟨its, rv, p, hz⟩ := I.tuple hq
    obtain ⟨u, hu, ru⟩ := rv.get hx
    have hel : e < s.heap.objs.size := Heap.lt_size he
    have hil : it < s.heap.objs.size := by obtain ⟨_, q, _⟩ := hit; exact Heap.lt_size q
    have hlt : i < its.toArray.size := by
      have := (List.getElem?_eq_some_iff.mp hu).1
      simpa using this
    have D := Draws.tuple (prog := X.prog) (w := X.w) (A := X.A.in1) (show X.A.in1.handled = none from I.ok.hd hc) it a ha2 its.toArray
    refine wpAny_pyNext_enum_itemD D he ⟨hit, show s.heap.IsTuple a its.toArray from p⟩ hlt hne (by simp only [List.mem_cons, List.not_mem_nil, or_false, not_or]; exact ⟨hne, Ne.symm ha1⟩) fun y h' tk hy ho hit' hT hsz hk => ?_
    have ey : y = u := by
      have hu' : its.toArray[i]? = some u := by simpa using hu
      rw [hu'] at hy
      exact (Option.some.inj hy).symm
    subst ey
    refine ⟨_, rfl, wpAny_letOwnedTupleGo_enum (s := { s with heap := h', toks := tk + 1 }) ho fun h'' he' sb => ?_⟩
    have hT2 : h''.get? s.heap.objs.size = some { cls := .type "tuple", data := .seq #[.int i tk, y] } := (sb.2 _ (Nat.ne_of_gt hel)).trans hT
    have new : ObjOk X.prog X.w (upd H s.heap.objs.size (.tup [.int (i : Nat), x])) h'' s.heap.objs.size (.tup [.int (i : Nat), x]) :=
      ⟨by show 2 ≤ sizeLine; decide, [.int i tk, y], .cons ⟨_, rfl⟩ (.cons ru .nil), ⟨_, hT2, rfl, _, rfl⟩⟩
    have I1 : L2.Inv X pins σ (upd H s.heap.objs.size (.tup [.int (i : Nat), x])) { s with heap := h'', toks := tk + 1 } :=
      I.turnedNew (ch := [e, it]) (fun b ob hb q => (sb.2 b (fun z => hb (by simp [z]))).trans (hk b ob (fun z => hb (by simp [z])) (fun z => hb (by simp [z])) q)) hf (Nat.le_refl _) new
    refine ⟨.ref s.heap.objs.size, _, I1, rfl, ⟨_, x, rfl, I.hok.fresh (Nat.le_refl _), rfl, fun ys hy => by rw [I.tuple_inj hy hq]; exact hx⟩, ⟨⟨y, ?_⟩, hit'.1.at fun o q => (sb.2 it (Ne.symm hne)).trans q, hne, ha1, ha2⟩, fun b hb => ?_⟩
    · have e1 : ((i + 1 : Nat) : Int) = (i : Int) + 1 := by omega
      rw [e1]; exact he'
    · have hb' : b < s.heap.objs.size := by
        have e' : b = e ∨ b = it := by simpa using hb
        rcases e' with z | z
        · rw [z]; exact hel
        · rw [z]; exact hil
      rw [upd_ne (Nat.ne_of_lt hb')]
      exact (hf b hb).1
  done := by
    intro X hP hw hK hc i pins s σ H E I hf st hg
    subst hP hw hK
    obtain ⟨⟨old, he⟩, hit, hne, ha1, ha2⟩ := st
    obtain ⟨xs, hq, hx⟩ := hg
    obtain ⟨its, rv, p, hz⟩ := I.tuple hq
    obtain ⟨f0, f1, f2, f3, f4, f5⟩ := hf it (by simp)
    have hl := rv.length
    have hT : s.TypeIs (.ref e) "enumerate" := ⟨_, he, rfl⟩
    unfold pyNext
    refine wpAny_bind (wpAny_attempt (wpAny_callSpecial?_slot (name := Str.ofString "__next__") hT F.slot_enumerate_next
      (wpAny_call_entry F.slot_enumerate_next hT F.entry_enumerate_next ?_ (F.args_enumerate_next_1 _))))
    show wpAny _ _ (field (.ref e) 2 >>= _) _ _ _
    refine wpAny_bind (wpAny_field he rfl (x := .ref it) rfl ?_)
    refine wpAny_bind (wpAny_nextOf_tuple_end (show X.A.in1.handled = none from I.ok.hd hc) hit (show s.heap.IsTuple a its.toArray from p) (by simp; omega) fun h' x he' hx' => ?_)
    obtain ⟨o, ho, hc⟩ := hx'
    refine wpAny_bind (wpAny_isInstance (T := "StopIteration") (b := true) ⟨o, ho, hc⟩ isSubtype_stop ?_)
    exact wpAny_pure ⟨rfl, I.turned (t' := s.toks) (fun b o hb q => he' b o hb q) f0 f1 f3 f4 f5⟩
  self := fun A i s Q E st h => let ⟨⟨_, he⟩, _⟩ := st; wpAny_pyIter_enum he h
set_option maxHeartbeats 1000000 in
theorem meets_enumerate_newB1 {v : Value} {o : Obj} {Hh : Heap → Prop} (B : Begins v o Hh) :
    Meets (Builtin.«enumerate.__new__» ⟨[.type "enumerate", v], []⟩) (fun _ R s => Hh s.heap ∧
      R (.ok (.ret (.ref (s.heap.push o).objs.size))) { s with heap := (s.heap.push o).push { cls := .type "enumerate", data := .fields #[.none, .bool false, .ref s.heap.objs.size, rawInt 0, .none, .none] } }) :=
  .of_wp fun prog w A R s h => by
    obtain ⟨hp, g, d, tk, os⟩ := s; obtain ⟨h1, h⟩ := h
    have hsub := sub_enumerate
    have q1 : ∀ {A' : Around} {E : Value → Shared → Prop} {Q : Value → Shared → Prop}, Q (.ref hp.objs.size) ⟨hp.push o, g, d, tk, os⟩ → wpAny (model prog w) A' (pyIter v) Q E ⟨hp, g, d, tk, os⟩ :=
      fun q => B.iter prog w _ _ ⟨hp, g, d, tk, os⟩ _ h1 q
    wp_walk using q1
    refine wpAny_stack_any fun st => wpAny_pure ?_
    split
    · rename_i c _ _ _ _ _
      cases (c == Value.type "enumerate")
      · wp_walk using q1
        exact ⟨_, rfl, h⟩
      · wp_walk using q1
        exact ⟨_, rfl, h⟩
    · wp_walk using q1
      exact ⟨_, rfl, h⟩
theorem call_enumerateB {prog : Program} {w : World} {A : Around} {E : Value → Shared → Prop} {s : Shared} {v : Value} {o : Obj} {Hh : Heap → Prop} {Q : Value → Shared → Prop} (B : Begins v o Hh) (h1 : Hh s.heap)
    (h : ∀ h', IsEnum h' (s.heap.objs.size + 1) s.heap.objs.size 0 .none → h'.get? s.heap.objs.size = some o → h'.objs.size = s.heap.objs.size + 2 →
      (∀ b o, s.heap.get? b = some o → h'.get? b = some o) → Q (.ref (s.heap.objs.size + 1)) { s with heap := h' }) :
    wpAny (model prog w) A (call (.type "enumerate") [v]) Q E s := by
  refine callType_new F.called_enumerate (by decide) (F.typeCall_enumerate_1 _) (F.newCall_enumerate_1 _) (fun obj => F.args_object_init_2 obj _) F.entry_enumerate_new
    (meets_enumerate_newB1 B) ⟨h1, ?_⟩
  have hz : (s.heap.push o).objs.size = s.heap.objs.size + 1 := Heap.size_push ..
  show _ ∧ _
  rw [hz]
  have he : IsEnum ((s.heap.push o).push { cls := .type "enumerate", data := .fields #[.none, .bool false, .ref s.heap.objs.size, rawInt 0, .none, .none] }) (s.heap.objs.size + 1) s.heap.objs.size 0 .none := by
    have := Heap.get?_push_size (s.heap.push o) (o := { cls := .type "enumerate", data := .fields #[.none, .bool false, .ref s.heap.objs.size, rawInt 0, .none, .none] }) rfl
    rw [hz] at this; exact this
  refine ⟨⟨_, he, rfl⟩, h _ he (Heap.get?_push_of_some _ (Heap.get?_push_size _ B.free)) (by rw [Heap.size_push, hz]) fun b o x => Heap.get?_push_of_some _ (Heap.get?_push_of_some _ x)⟩
def iEnumA (K : Frag') (ta : TA) : TI := fun σ H R => ta σ H fun vs H1 => ∃ a, vs = [.ref a] ∧ ((∃ xs, SqL K H1 a xs ∧ R (Ite K a) H1) ∨ ∃ xs, SqT K H1 a xs ∧ R (IteT K a) H1)
theorem pi_enumA {X : Cx} {e : Expr} {ta : TA} {p pos tpos : Pos} {elts : List Expr} {kk : Nat} (hg : Gl X "enumerate") (hm : X.mg "enumerate" = none) (ha : PA X [e] ta) (hs : starEach [e] X.env = [(false, eval e X.env)] := by rfl) :
    PI X (.Tuple elts kk tpos) (.Call (.Name "enumerate" p) [e] [] pos) (iEnumA X.K ta) := by
  refine ⟨fun pins s σ H R I h => ?_⟩
  refine Call_ (ld_blt I hg hm boot_enumerate (PyProof.Rows.callWith_type1 (thn (ha.run pos pins s σ H _ I h) fun us s1 ⟨vs, H1, I1, r1, q1⟩ => ?_) hs rfl))
  obtain ⟨a, ex, q1⟩ := q1
  subst ex
  cases r1 with
  | cons r rr =>
    cases rr
    cases r
    have fp2 : ∀ b, b ∈ [s1.heap.objs.size + 1, s1.heap.objs.size] → FpOk X pins H1 b := fun b hb => by
      have e' : b = s1.heap.objs.size + 1 ∨ b = s1.heap.objs.size := by simpa using hb
      have hle : s1.heap.objs.size ≤ b := by
        rcases e' with z | z
        · rw [z]; exact Nat.le_add_right _ _
        · rw [z]; exact Nat.le_refl _
      exact I1.fpOk hle (I1.hok.fresh hle)
    rcases q1 with ⟨xs, hq, q⟩ | ⟨xs, hq, q⟩
    · obtain ⟨its, rv, p', hz⟩ := I1.list hq
      refine call_enumerate_list p'.isList fun h' he hit hsz hk => wpAny_pyIter_enum he ?_
      have I2 : L2.Inv X pins σ H1 { s1 with heap := h' } := I1.kept (t' := s1.toks) hk
      exact ⟨s1.heap.objs.size + 1, [s1.heap.objs.size + 1, s1.heap.objs.size], _, _, H1, rfl, I2, turn_enum a (s1.heap.objs.size + 1) s1.heap.objs.size, ⟨⟨.none, he⟩, hit, Nat.succ_ne_self _⟩, fp2, q⟩
    · obtain ⟨its, rv, p', hz⟩ := I1.tuple hq
      have hl : a < s1.heap.objs.size := p'.lt
      refine call_enumerateB (begins_tuple a its.toArray) (show s1.heap.IsTuple a its.toArray from p') fun h' he hit hsz hk => wpAny_pyIter_enum he ?_
      have I2 : L2.Inv X pins σ H1 { s1 with heap := h' } := I1.kept (t' := s1.toks) hk
      exact ⟨s1.heap.objs.size + 1, [s1.heap.objs.size + 1, s1.heap.objs.size], _, _, H1, rfl, I2, turn_enumT a (s1.heap.objs.size + 1) s1.heap.objs.size, ⟨⟨.none, he⟩, ⟨_, hit, rfl, rfl⟩, Nat.succ_ne_self _, Nat.ne_of_lt (Nat.lt_succ_of_lt hl), Nat.ne_of_lt hl⟩, fp2, q⟩

/-! ### a list or a tuple -/
def iSeq (K : Frag') (tl : TE) : TI := fun σ H R => tl σ H fun x H1 => ∃ a, x = .ref a ∧ ((∃ xs, SqL K H1 a xs ∧ R (Itl K a) H1) ∨ ∃ xs, SqT K H1 a xs ∧ R (Itt K a) H1)
theorem pi_seq {X : Cx} {tg l : Expr} {tl : TE} (hl : PE X l tl) : PI X tg l (iSeq X.K tl) := by
  refine ⟨fun pins s σ H R I h => ?_⟩
  refine thn (hl.run pins s σ H _ I h) fun v s1 ⟨x, H1, I1, r1, q1⟩ => ?_
  obtain ⟨a, e, q⟩ := q1
  subst e
  cases r1
  have fp : ∀ b, b ∈ [s1.heap.objs.size] → FpOk X pins H1 b := fun b hb => by
    have e : b = s1.heap.objs.size := by simpa using hb
    subst e
    exact I1.fpOk (Nat.le_refl _) (I1.hok.fresh (Nat.le_refl _))
  rcases q with ⟨xs, hq, q⟩ | ⟨xs, hq, q⟩
  · obtain ⟨its, rv, p, hz⟩ := I1.list hq
    refine wpAny_pyIter_list p.isList ?_
    exact ⟨s1.heap.objs.size, [s1.heap.objs.size], _, _, H1, rfl, I1.kept (t' := s1.toks) fun b o e => Heap.get?_push_of_some _ e, turn_list a _, ⟨_, Heap.get?_push_size _ rfl, rfl, rfl⟩, fp, q⟩
  · obtain ⟨its, rv, p, hz⟩ := I1.tuple hq
    refine wpAny_pyIter_tuple (show s1.heap.IsTuple a its.toArray from p) ?_
    exact ⟨s1.heap.objs.size, [s1.heap.objs.size], _, _, H1, rfl, I1.kept (t' := s1.toks) fun b o e => Heap.get?_push_of_some _ e, turn_tuple a _, ⟨_, Heap.get?_push_size _ rfl, rfl, rfl⟩, fp, q⟩

/-! ### walked things by plain functions -/
def seqD : D → Option (List D)
  | .list ds => some ds
  | .tuple ds => some ds
  | _ => none
/-- operands of which what is owned stands still from now on -/
def evA (as : List Arg) (ρ : Env') : Option (List D × Env') := (evp (as.map Arg.o) ρ).bind fun q => (argD as q.1 (frzA as q.2)).bind fun ds => some (ds, frzA as q.2)
theorem stD_of {K : Frag'} {S : Hp} : ∀ {vs : List V} {ds : List D}, (∀ (i : Nat) (d : D), ds[i]? = some d → ∃ v, vs[i]? = some v ∧ Rp K S v d) → vs.length = ds.length → stD K S vs ds
  | [], [], _, _ => .nil
  | v :: vs, d :: ds, st, ll => by
    obtain ⟨v', k1, k2⟩ := st 0 d rfl
    cases k1
    refine .cons k2 (stD_of (fun i d' hd => ?_) (by simpa using ll))
    obtain ⟨v', k1, k2⟩ := st (i + 1) d' (by simpa using hd)
    exact ⟨v', by simpa using k1, k2⟩
  | [], _ :: _, _, ll => by cases ll
  | _ :: _, [], _, ll => by cases ll
theorem tOs_frz {K : Frag'} {C : Ct} {as : List Arg} (hst : ∀ j ∈ stJ as, j ∉ C.ioS) (hio : ioJ as = []) {σ : L2.St} {H : Hp} {S : Hp} {ρ ρ' : Env'} {hid : Hid} {ds : List D} {Q : List V → Hp → Prop} (R : RR K C S σ H ρ hid) (h : evA as ρ = some (ds, ρ'))
    (q : ∀ S' vs H', Same S S' → RR K C S' σ H' ρ' hid → stD K S' vs ds → Q vs H') : tOs K C (as.map Arg.o) σ H Q := by
  obtain ⟨⟨ps, ρ1⟩, h1, e⟩ := Option.bind_eq_some_iff.mp h
  obtain ⟨ds1, h2, e⟩ := Option.bind_eq_some_iff.mp e
  cases e
  refine tOs_pre R h1 fun S1 vs H1 s1 R1 pa => ?_
  obtain ⟨S2, s2, G, R2⟩ := R1.frzA (as := as) hst
  have A := argD_ok (n := 0) R2 s2 pa h2
  refine q S2 vs H1 (s1.trans s2) ⟨G, R2⟩ ?_
  obtain ⟨io, g1, g2, g3⟩ := A.io
  have e0 : ioP 0 as = [] := by
    rw [hio] at g2
    cases g2
    exact g1.symm
  have st := A.st
  rw [e0] at st
  exact stD_of (fun i d hd => st i d (by simp) hd) (A.lv.trans A.ld.symm)
def one1 {α : Type} (f : D → Option α) : List D → Option α
  | [d] => f d
  | _ => none
theorem one1_some {α : Type} {f : D → Option α} {ds : List D} {x : α} (h : one1 f ds = some x) : ∃ d, ds = [d] ∧ f d = some x := by
  unfold one1 at h
  split at h
  · exact ⟨_, rfl, h⟩
  · cases h
theorem seqD_some {d : D} {ds : List D} (h : seqD d = some ds) : d = .list ds ∨ d = .tuple ds := by
  cases d <;> cases h
  · exact .inl rfl
  · exact .inr rfl
def mSeqI (a : Arg) : MI := fun ρ => (evA [a] ρ).bind fun q => (one1 seqD q.1).bind fun ds => some (ds, q.2)
theorem tOs_one {K : Frag'} {C : Ct} {o : Opd} {σ : L2.St} {H : Hp} {Q : V → Hp → Prop} (h : tOs K C [o] σ H fun vs H' => match vs with | [v] => Q v H' | _ => False) : rdO K C o σ H Q := h
theorem itD_list {K : Frag'} {C : Ct} {S : Hp} {a : Addr} {xs : List V} {ds : List D} (h : SqL K S a xs) (r : DpAll K S xs ds) : ItD K C (Itl K a) S ds where
  go := fun i S' σ H ρ hid s R hi => ⟨xs, xs[i]'(by rw [DpAll.length r]; exact hi), (s.trans R.sub).seq h, List.getElem?_eq_getElem _⟩
  stop := fun i S' σ H ρ hid s R hi => ⟨xs, (s.trans R.sub).seq h, by rw [DpAll.length r]; exact hi⟩
  yld := fun i S' σ H ρ hid x H' d s R hd y => by
    obtain ⟨e, y⟩ := y
    subst e
    obtain ⟨v, h1, h2⟩ := DpAll.get r hd
    have e := y xs ((s.trans R.sub).seq h)
    rw [h1] at e
    cases e
    exact ⟨S', Same.refl _, R, .of (Dp.same s h2)⟩
theorem itD_tup {K : Frag'} {C : Ct} {S : Hp} {a : Addr} {xs : List V} {ds : List D} (h : SqT K S a xs) (r : DpAll K S xs ds) : ItD K C (Itt K a) S ds where
  go := fun i S' σ H ρ hid s R hi => ⟨xs, xs[i]'(by rw [DpAll.length r]; exact hi), seqT_same (s.trans R.sub) h, List.getElem?_eq_getElem _⟩
  stop := fun i S' σ H ρ hid s R hi => ⟨xs, seqT_same (s.trans R.sub) h, by rw [DpAll.length r]; exact hi⟩
  yld := fun i S' σ H ρ hid x H' d s R hd y => by
    obtain ⟨e, y⟩ := y
    subst e
    obtain ⟨v, h1, h2⟩ := DpAll.get r hd
    have e := y xs (seqT_same (s.trans R.sub) h)
    rw [h1] at e
    cases e
    exact ⟨S', Same.refl _, R, .of (Dp.same s h2)⟩
section
variable {X : Cx} {C : Ct} {tg e : Expr} {p pos : Pos}
theorem i_seq {a : Arg} (h : PO' X C e a.o) (hst : ∀ j ∈ stJ [a], j ∉ C.ioS) (hio : ioJ [a] = []) : PI X tg e (rdI X.K C (mSeqI a)) := by
  refine ⟨fun pins s σ H R' I q => (pi_seq (tg := tg) h).run pins s σ H R' I ?_⟩
  obtain ⟨S, ρ, hid, R, items, ρ', e, q⟩ := q
  obtain ⟨⟨ds, ρ1⟩, h1, e⟩ := Option.bind_eq_some_iff.mp e
  obtain ⟨its, h2, e⟩ := Option.bind_eq_some_iff.mp e
  cases e
  obtain ⟨d, rfl, h2⟩ := one1_some h2
  refine tOs_one (K := X.K) (C := C) (o := a.o) (tOs_frz (as := [a]) hst hio R h1 fun S' vs H' s R2 sd => ?_)
  cases sd with
  | cons r t =>
    cases t
    rcases seqD_some h2 with e | e
    · subst e
      cases r with
      | lst h3 h4 => exact ⟨_, rfl, .inl ⟨_, R2.sub.seq h3, q S' H' _ s R2 (itD_list h3 h4)⟩⟩
    · subst e
      cases r with
      | tup h3 h4 => exact ⟨_, rfl, .inr ⟨_, seqT_same R2.sub h3, q S' H' _ s R2 (itD_tup h3 h4)⟩⟩
/-! ### ranges -/
def rngD (lo : Int) (n : Nat) : List D := (List.range n).map fun (i : Nat) => PyData.int (lo + (i : Int))
theorem itD_rng {K : Frag'} {S : Hp} {lo : Int} {n : Nat} : ItD K C (Itr lo n) S (rngD lo n) where
  go := fun i S' σ H ρ hid s R hi => by
    have h : i < n := by simpa [rngD] using hi
    exact h
  stop := fun i S' σ H ρ hid s R hi => by
    have h : n ≤ i := by simpa [rngD] using hi
    exact h
  yld := fun i S' σ H ρ hid x H' d s R hd y => by
    obtain ⟨e, y⟩ := y
    subst e y
    unfold rngD at hd
    rw [List.getElem?_map] at hd
    obtain ⟨k, h1, h2⟩ := Option.map_eq_some_iff.mp hd
    have hk : k = i := by
      rw [List.getElem?_range] at h1
      · exact (Option.some.inj h1).symm
      · by_cases hi : i < n
        · exact hi
        · rw [List.getElem?_eq_none (by simpa using hi)] at h1
          cases h1
    subst hk h2
    exact ⟨S', Same.refl _, R, .of (.int _)⟩
def small62 (i : Int) : Bool := decide (-(2 ^ 62) ≤ i ∧ i < 2 ^ 62)
def rng1F : List D → Option (List D)
  | [.int j] => if small62 j = true then some (rngD 0 j.toNat) else none
  | _ => none
def rng2F : List D → Option (List D)
  | [.int i, .int j] => if small62 i = true ∧ small62 j = true then some (rngD i (j - i).toNat) else none
  | _ => none
def mRng (f : List D → Option (List D)) (os : List Opd) : MI := fun ρ => (evs os ρ).bind fun q => (f q.1).bind fun ds => some (ds, q.2)
theorem rng1F_some {ds its : List D} (h : rng1F ds = some its) : ∃ j, ds = [.int j] ∧ -(2 ^ 62) ≤ j ∧ j < 2 ^ 62 ∧ its = rngD 0 j.toNat := by
  unfold rng1F at h
  split at h
  · split at h
    · rename_i hj
      cases h
      have hj := of_decide_eq_true hj
      exact ⟨_, rfl, hj.1, hj.2, rfl⟩
    · cases h
  · cases h
theorem rng2F_some {ds its : List D} (h : rng2F ds = some its) : ∃ i j, ds = [.int i, .int j] ∧ (-(2 ^ 62) ≤ i ∧ i < 2 ^ 62 ∧ -(2 ^ 62) ≤ j ∧ j < 2 ^ 62) ∧ its = rngD i (j - i).toNat := by
  unfold rng2F at h
  split at h
  · split at h
    · rename_i hj
      cases h
      have h3 := of_decide_eq_true hj.1
      have h4 := of_decide_eq_true hj.2
      exact ⟨_, _, rfl, ⟨h3.1, h3.2, h4.1, h4.2⟩, rfl⟩
    · cases h
  · cases h
theorem i_rng1 {o : Opd} (hg : Gl X "range") (hm : X.mg "range" = none) (h : POs X C [e] [o]) (hs : starEach [e] X.env = [(false, eval e X.env)] := by rfl) : PI X tg (.Call (.Name "range" p) [e] [] pos) (rdI X.K C (mRng rng1F [o])) := by
  refine ⟨fun pins s σ H R' I q => (pi_range1 (tg := tg) hg hm h.pa hs).run pins s σ H R' I ?_⟩
  obtain ⟨S, ρ, hid, R, items, ρ', e, q⟩ := q
  obtain ⟨⟨ds, ρ1⟩, h1, e⟩ := Option.bind_eq_some_iff.mp e
  obtain ⟨its, h2, e⟩ := Option.bind_eq_some_iff.mp e
  cases e
  refine tOs_ok R h1 fun S' vs H' s R2 al => ?_
  obtain ⟨j, rfl, b1, b2, rfl⟩ := rng1F_some h2
  cases al with
  | cons a t =>
    cases t
    exact ⟨j, by rw [a.int], b1, b2, q S' H' _ s R2 itD_rng⟩
theorem i_rng2 {e2 : Expr} {o o2 : Opd} (hg : Gl X "range") (hm : X.mg "range" = none) (h : POs X C [e, e2] [o, o2]) (hs : starEach [e, e2] X.env = [(false, eval e X.env), (false, eval e2 X.env)] := by rfl) (hs2 : starEach [e2] X.env = [(false, eval e2 X.env)] := by rfl) :
    PI X tg (.Call (.Name "range" p) [e, e2] [] pos) (rdI X.K C (mRng rng2F [o, o2])) := by
  refine ⟨fun pins s σ H R' I q => (pi_range2 (tg := tg) hg hm h.pa hs hs2).run pins s σ H R' I ?_⟩
  obtain ⟨S, ρ, hid, R, items, ρ', e, q⟩ := q
  obtain ⟨⟨ds, ρ1⟩, h1, e⟩ := Option.bind_eq_some_iff.mp e
  obtain ⟨its, h2, e⟩ := Option.bind_eq_some_iff.mp e
  cases e
  refine tOs_ok R h1 fun S' vs H' s R2 al => ?_
  obtain ⟨i, j, rfl, bs, rfl⟩ := rng2F_some h2
  cases al with
  | cons a t =>
    cases t with
    | cons b t =>
      cases t
      exact ⟨i, j, by rw [a.int, b.int], bs, q S' H' _ s R2 itD_rng⟩
/-! ### enumerate -/
def enumD (ds : List D) : List D := ds.mapIdx fun i d => .tuple [.int (i : Nat), d]
theorem itD_enumL {K : Frag'} {S : Hp} {a : Addr} {xs : List V} {ds : List D} (h : SqL K S a xs) (r : DpAll K S xs ds) : ItD K C (Ite K a) S (enumD ds) where
  go := fun i S' σ H ρ hid s R hi => ⟨xs, xs[i]'(by rw [DpAll.length r]; simpa [enumD] using hi), (s.trans R.sub).seq h, List.getElem?_eq_getElem _⟩
  stop := fun i S' σ H ρ hid s R hi => ⟨xs, (s.trans R.sub).seq h, by rw [DpAll.length r]; simpa [enumD] using hi⟩
  yld := fun i S' σ H ρ hid x H' d s R hd y => by
    obtain ⟨T, v, rfl, hT, rfl, y⟩ := y
    unfold enumD at hd
    rw [List.getElem?_mapIdx] at hd
    obtain ⟨d0, h1, h2⟩ := Option.map_eq_some_iff.mp hd
    subst h2
    obtain ⟨u, h3, h4⟩ := DpAll.get r h1
    have e := y xs ((s.trans R.sub).seq h)
    rw [h3] at e
    cases e
    have sS := same_upd (o := .tup [.int (i : Nat), v]) (R.sub.free hT)
    exact ⟨_, sS, R.still hT, .of (.tup (.inl (.inl upd_same)) (.cons (.int _) (.cons (Dp.same (s.trans sS) h4) .nil)))⟩
theorem itD_enumT {K : Frag'} {S : Hp} {a : Addr} {xs : List V} {ds : List D} (h : SqT K S a xs) (r : DpAll K S xs ds) : ItD K C (IteT K a) S (enumD ds) where
  go := fun i S' σ H ρ hid s R hi => ⟨xs, xs[i]'(by rw [DpAll.length r]; simpa [enumD] using hi), seqT_same (s.trans R.sub) h, List.getElem?_eq_getElem _⟩
  stop := fun i S' σ H ρ hid s R hi => ⟨xs, seqT_same (s.trans R.sub) h, by rw [DpAll.length r]; simpa [enumD] using hi⟩
  yld := fun i S' σ H ρ hid x H' d s R hd y => by
    obtain ⟨T, v, rfl, hT, rfl, y⟩ := y
    unfold enumD at hd
    rw [List.getElem?_mapIdx] at hd
    obtain ⟨d0, h1, h2⟩ := Option.map_eq_some_iff.mp hd
    subst h2
    obtain ⟨u, h3, h4⟩ := DpAll.get r h1
    have e := y xs (seqT_same (s.trans R.sub) h)
    rw [h3] at e
    cases e
    have sS := same_upd (o := .tup [.int (i : Nat), v]) (R.sub.free hT)
    exact ⟨_, sS, R.still hT, .of (.tup (.inl (.inl upd_same)) (.cons (.int _) (.cons (Dp.same (s.trans sS) h4) .nil)))⟩
def mEnum (a : Arg) : MI := fun ρ => (evA [a] ρ).bind fun q => (one1 seqD q.1).bind fun ds => some (enumD ds, q.2)
theorem i_enum {a : Arg} {elts : List Expr} {kk : Nat} {tpos : Pos} (hg : Gl X "enumerate") (hm : X.mg "enumerate" = none) (h : PAs X C [e] [a]) (hst : ∀ j ∈ stJ [a], j ∉ C.ioS) (hio : ioJ [a] = []) (hs : starEach [e] X.env = [(false, eval e X.env)] := by rfl) :
    PI X (.Tuple elts kk tpos) (.Call (.Name "enumerate" p) [e] [] pos) (rdI X.K C (mEnum a)) := by
  refine ⟨fun pins s σ H R' I q => (pi_enumA hg hm h.pa hs).run pins s σ H R' I ?_⟩
  obtain ⟨S, ρ, hid, R, items, ρ', e, q⟩ := q
  obtain ⟨⟨ds, ρ1⟩, h1, e⟩ := Option.bind_eq_some_iff.mp e
  obtain ⟨its, h2, e⟩ := Option.bind_eq_some_iff.mp e
  cases e
  obtain ⟨d, rfl, h2⟩ := one1_some h2
  refine tOs_frz (as := [a]) hst hio R h1 fun S' vs H' s R2 sd => ?_
  cases sd with
  | cons r t =>
    cases t
    rcases seqD_some h2 with e | e
    · subst e
      cases r with
      | lst h3 h4 => exact ⟨_, rfl, .inl ⟨_, R2.sub.seq h3, q S' H' _ s R2 (itD_enumL h3 h4)⟩⟩
    · subst e
      cases r with
      | tup h3 h4 => exact ⟨_, rfl, .inr ⟨_, seqT_same R2.sub h3, q S' H' _ s R2 (itD_enumT h3 h4)⟩⟩
end
end VS

set_option Elab.async false
set_option linter.all false
set_option maxRecDepth 100000
/-! VsH: operators and built-ins as plain functions of data. -/
namespace VS
open PySem PySem.Spec PyProof.Rows L2

theorem OpR.or {X : Cx} {f : Value → Value → Sem Value} {r r' : R2} (h : OpR X f r) (h' : OpR X f r') : OpR X f (fun x y H Q => r x y H Q ∨ r' x y H Q) := by
  intro pins s σ H x y v u Q I rx ry q
  rcases q with q | q
  · exact h pins s σ H x y v u Q I rx ry q
  · exact h' pins s σ H x y v u Q I rx ry q
theorem CallR.or {X : Cx} {f : Value} {r r' : RV} (h : CallR X f r) (h' : CallR X f r') : CallR X f (fun xs H Q => r xs H Q ∨ r' xs H Q) := by
  intro pins s σ H xs us Q I rx q
  rcases q with q | q
  · exact h pins s σ H xs us Q I rx q
  · exact h' pins s σ H xs us Q I rx q
section
variable {K : Frag'}
/-- an operation whose result has no object of its own -/
theorem opOk_flat {r : RV} {f : List D → Option D} (h : ∀ (S H : Hp) (vs : List V) (ds : List D) (d : D) (Q : VK), Same S H → AtAll K S H vs ds → f ds = some d → (∀ v, Rp K S v d → Q v H) → r vs H Q) : OpOk K r f := fun C S σ H ρ hid vs ds d Q R al e q =>
  h S H vs ds d Q R.sub al e fun v rp => q S v H (Same.refl S) R rp
/-- of two -/
theorem opOk2 {r : R2} {f : List D → Option D} (h : ∀ (S H : Hp) (x y : V) (a b d : D) (Q : VK), Same S H → At K S H x a → At K S H y b → f [a, b] = some d → (∀ v, Rp K S v d → Q v H) → r x y H Q) (hn : ∀ ds d, f ds = some d → ∃ a b, ds = [a, b]) : OpOk K (l2 r) f :=
  opOk_flat fun S H vs ds d Q s al e q => by
    obtain ⟨a, b, rfl⟩ := hn ds d e
    cases al with
    | cons h1 t =>
      cases t with
      | cons h2 t =>
        cases t
        exact h S H _ _ a b d Q s h1 h2 e q
theorem opOk1 {r : V → Hp → VK → Prop} {f : List D → Option D} (h : ∀ (S H : Hp) (x : V) (a d : D) (Q : VK), Same S H → At K S H x a → f [a] = some d → (∀ v, Rp K S v d → Q v H) → r x H Q) (hn : ∀ ds d, f ds = some d → ∃ a, ds = [a]) : OpOk K (l1 r) f :=
  opOk_flat fun S H vs ds d Q s al e q => by
    obtain ⟨a, rfl⟩ := hn ds d e
    cases al with
    | cons h1 t =>
      cases t
      exact h S H _ a d Q s h1 e q
end

/-! ### ints -/
/-- of two ints -/
def i2 (f : Int → Int → Option D) : List D → Option D
  | [.int i, .int j] => f i j
  | _ => none
theorem i2_some {f : Int → Int → Option D} {ds : List D} {d : D} (h : i2 f ds = some d) : ∃ i j, ds = [.int i, .int j] ∧ f i j = some d := by
  unfold i2 at h
  split at h
  · exact ⟨_, _, rfl, h⟩
  · cases h
theorem i2_two {f : Int → Int → Option D} {ds : List D} {d : D} (h : i2 f ds = some d) : ∃ a b, ds = [a, b] := let ⟨i, j, e, _⟩ := i2_some h; ⟨_, _, e⟩
abbrev subD : List D → Option D := i2 fun i j => some (.int (i - j))
def small64 (i : Int) : Bool := decide (-(2 ^ 64) < i ∧ i < 2 ^ 64)
abbrev mulD : List D → Option D := i2 fun i j => if small64 i = true ∨ small64 j = true then some (.int (i * j)) else none
abbrev fdivD : List D → Option D := i2 fun i j => if 0 < j ∧ j < 1073741824 then some (.int (i / j)) else none
abbrev modD : List D → Option D := i2 fun i j => if 0 < j then some (.int (i % j)) else none
abbrev powD : List D → Option D := i2 fun i j => if 0 ≤ j ∧ j ≤ 1000000 ∧ i.natAbs < 2 ^ 64 then some (.int (i ^ j.toNat)) else none
abbrev ltI : List D → Option D := i2 fun i j => some (.bool (decide (i < j)))
abbrev leI : List D → Option D := i2 fun i j => some (.bool (decide (i ≤ j)))
abbrev gtI : List D → Option D := i2 fun i j => some (.bool (decide (j < i)))
abbrev geI : List D → Option D := i2 fun i j => some (.bool (decide (j ≤ i)))
section
variable {K : Frag'}
theorem i2_ok {g : Int → Int → V} {f : Int → Int → Option D} {P : Int → Int → Prop} (h : ∀ i j d, f i j = some d → P i j ∧ ∀ S : Hp, Dp K S (g i j) d) : OpOk K (l2 (rI P g)) (i2 f) :=
  opOk2 (fun S H x y a b d Q s h1 h2 e q => by
    obtain ⟨i, j, e1, e2⟩ := i2_some e
    cases e1
    obtain ⟨p, g⟩ := h i j d e2
    exact ⟨i, j, h1.int, h2.int, p, q _ (.of (g S))⟩) fun _ _ => i2_two
theorem i2_ok0 {g : Int → Int → V} {f : Int → Int → Option D} (h : ∀ i j d, f i j = some d → ∀ S : Hp, Dp K S (g i j) d) : OpOk K (l2 (rI0 g)) (i2 f) :=
  opOk2 (fun S H x y a b d Q s h1 h2 e q => by
    obtain ⟨i, j, e1, e2⟩ := i2_some e
    cases e1
    exact ⟨i, j, h1.int, h2.int, q _ (.of (h i j d e2 S))⟩) fun _ _ => i2_two
theorem sub_ok : OpOk K (l2 (rI0 fun i j => .int (i - j))) subD := i2_ok0 fun i j d e S => by cases e; exact .int _
theorem mul_ok : OpOk K (l2 (rI CMul fun i j => .int (i * j))) mulD := i2_ok fun i j d e => by
  split at e
  · rename_i h
    cases e
    refine ⟨?_, fun S => .int _⟩
    rcases h with h | h
    · exact .inl (of_decide_eq_true h)
    · exact .inr (of_decide_eq_true h)
  · cases e
theorem fdiv_ok : OpOk K (l2 (rI CDiv fun i j => .int (i / j))) fdivD := i2_ok fun i j d e => by
  split at e
  · rename_i h
    cases e
    exact ⟨h, fun S => .int _⟩
  · cases e
theorem mod_ok : OpOk K (l2 (rI (fun _ j => 0 < j) fun i j => .int (i % j))) modD := i2_ok fun i j d e => by
  split at e
  · rename_i h
    cases e
    exact ⟨h, fun S => .int _⟩
  · cases e
theorem pow_ok : OpOk K (l2 (rI CPow fun i j => .int (i ^ j.toNat))) powD := i2_ok fun i j d e => by
  split at e
  · rename_i h
    cases e
    exact ⟨h, fun S => .int _⟩
  · cases e
theorem ltI_ok : OpOk K (l2 (rI0 fun i j => .bl (decide (i < j)))) ltI := i2_ok0 fun i j d e S => by cases e; exact .bl _
theorem leI_ok : OpOk K (l2 (rI0 fun i j => .bl (decide (i ≤ j)))) leI := i2_ok0 fun i j d e S => by cases e; exact .bl _
theorem gtI_ok : OpOk K (l2 (rI0 fun i j => .bl (decide (j < i)))) gtI := i2_ok0 fun i j d e S => by cases e; exact .bl _
theorem geI_ok : OpOk K (l2 (rI0 fun i j => .bl (decide (j ≤ i)))) geI := i2_ok0 fun i j d e S => by cases e; exact .bl _
/-! ### -n, abs, int -/
def negD : List D → Option D
  | [.int i] => some (.int (-i))
  | _ => none
theorem neg_ok : OpOk K (l1 (rU fun i => .int (-i))) negD := opOk1 (fun S H x a d Q s h1 e q => by
    unfold negD at e
    split at e
    · rename_i i z
      cases z
      cases e
      exact ⟨i, h1.int, q _ (.of (.int _))⟩
    · cases e) fun ds d e => by
  unfold negD at e
  split at e
  · exact ⟨_, rfl⟩
  · cases e
def absD : List D → Option D
  | [.int i] => some (.int (if i < 0 then -i else i))
  | _ => none
theorem abs_ok : OpOk K (fun xs H Q => ∃ i, xs = [.int i] ∧ Q (.int (if i < 0 then -i else i)) H) absD := opOk_flat fun S H vs ds d Q s al e q => by
  unfold absD at e
  split at e
  · rename_i i
    cases e
    cases al with
    | cons h t =>
      cases t
      exact ⟨i, by rw [h.int], q _ (.of (.int _))⟩
  · cases e
def intD : List D → Option D
  | [.int i] => some (.int i)
  | [.bool b] => some (.int (if b = true then 1 else 0))
  | _ => none
theorem int_ok : OpOk K (fun xs H Q => (∃ i, xs = [.int i] ∧ Q (.int i) H) ∨ ∃ k, xs = [.bl k] ∧ Q (.int (if k then 1 else 0)) H) intD := opOk_flat fun S H vs ds d Q s al e q => by
  unfold intD at e
  split at e
  · rename_i i
    cases e
    cases al with
    | cons h t =>
      cases t
      exact .inl ⟨i, by rw [h.int], q _ (.of (.int _))⟩
  · rename_i b
    cases e
    cases al with
    | cons h t =>
      cases t
      exact .inr ⟨b, by rw [h.bool], q _ (.of (.int _))⟩
  · cases e
end

/-! ### + -/
def addD : List D → Option D
  | [.int i, .int j] => some (.int (i + j))
  | [.str x, .str y] => if x.length + y.length ≤ sizeLine then some (.str (x ++ y)) else none
  | [.tuple a, .tuple b] => if a.length + b.length ≤ sizeLine then some (.tuple (a ++ b)) else none
  | [.list a, .list b] => if a.length + b.length ≤ sizeLine then some (.list (a ++ b)) else none
  | _ => none
def catL : List D → Option D
  | [.list a, .list b] => if a.length + b.length ≤ sizeLine then some (.list (a ++ b)) else none
  | _ => none
def rCatW (K : Frag') : R2 := fun x y H Q => ∃ l b xs zs, x = .ref l ∧ y = .ref b ∧ SqL K H l xs ∧ SqL K H b zs ∧ xs.length + zs.length ≤ sizeLine ∧ ∀ p, H p = none → Q (.ref p) (upd H p (.lst (xs ++ zs)))
theorem op_catW {X : Cx} : OpR X (binaryOp .Add) (rCatW X.K) := by
  intro pins s σ H x y v u Q I rx ry h
  obtain ⟨l, b, xs, zs, rfl, rfl, hH, hB, hz, q⟩ := h
  cases rx
  cases ry
  obtain ⟨its, r, ⟨⟨cls, dd, data, sl⟩, n, ho, hc, hd, hs⟩, z⟩ := I.list hH
  obtain ⟨its2, r2, ⟨⟨cls2, dd2, data2, sl2⟩, n2, ho2, hc2, hd2, hs2⟩, z2⟩ := I.list hB
  simp only at hc hs hc2 hs2
  subst hc hs hc2 hs2
  have l1 := r.length
  have l2 := r2.length
  refine concat_meets ⟨_, ho, rfl⟩ ⟨_, ho2, rfl⟩ noFill_list_add seq_list_add PySem.F.slot_list_add PySem.F.entry_list_add (PySem.F.args_list_add_2 _ _)
    (list_addW l b its.toArray its2.toArray n n2 dd dd2 sl sl2 (by rw [List.size_toArray, List.size_toArray]; omega)) ⟨ho, ho2, ?_⟩
  have ea : its.toArray ++ its2.toArray = (its ++ its2).toArray := by simp
  rw [ea]
  exact ⟨.ref _, _, I.lnew (t' := s.toks) (r.append r2) (by rw [List.length_append]; omega), rfl, q _ I.fresh⟩
abbrev rAddD (K : Frag') : R2 := fun x y H Q => rI0 (fun i j => .int (i + j)) x y H Q ∨ (fun x y H Q => ∃ i j, x = V.str i ∧ y = V.str j ∧ i.length + j.length ≤ sizeLine ∧ Q (V.str (i ++ j)) H) x y H Q ∨ rCatA K x y H Q ∨ rCatW K x y H Q
theorem op_addD {X : Cx} : OpR X (binaryOp .Add) (rAddD X.K) := op_add.or (op_add_str.or (op_catA.or op_catW))
section
variable {K : Frag'}
theorem cat_fr : OpFr K (l2 (rCatW K)) catL := fun C S σ H ρ hid vs ds d Q R al e q => by
  unfold catL at e
  split at e
  · rename_i a b
    split at e
    · rename_i hz
      cases e
      cases al with
      | cons h1 t =>
        cases t with
        | cons h2 t =>
          cases t
          obtain ⟨l, xs, rfl, g1, g2⟩ := h1.lst R.sub
          obtain ⟨m, zs, rfl, g3, g4⟩ := h2.lst R.sub
          exact ⟨l, m, xs, zs, rfl, rfl, g1, g3, by rw [DpAll.length g2, DpAll.length g4]; exact hz, fun p hp => q S p _ (Same.refl S) (R.fresh (o := .lst (xs ++ zs)) (d := .list (a ++ b)) hp (DpAll.append g2 g4))⟩
    · cases e
  · cases e
theorem add_ok : OpOk K (l2 (rAddD K)) addD := fun C S σ H ρ hid vs ds d Q R al e q => by
  unfold addD at e
  split at e
  · rename_i i j
    cases e
    cases al with
    | cons h1 t =>
      cases t with
      | cons h2 t =>
        cases t
        exact .inl ⟨i, j, h1.int, h2.int, q S _ H (Same.refl S) R (.of (.int _))⟩
  · rename_i x y
    split at e
    · rename_i hz
      cases e
      cases al with
      | cons h1 t =>
        cases t with
        | cons h2 t =>
          cases t
          exact .inr (.inl ⟨x, y, h1.str, h2.str, hz, q S _ H (Same.refl S) R (.of (.str _))⟩)
    · cases e
  · rename_i a b
    split at e
    · rename_i hz
      cases e
      cases al with
      | cons h1 t =>
        cases t with
        | cons h2 t =>
          cases t
          obtain ⟨l, xs, rfl, g1, g2⟩ := h1.tup
          obtain ⟨m, zs, rfl, g3, g4⟩ := h2.tup
          refine .inr (.inr (.inl ⟨l, m, xs, zs, rfl, rfl, seqT_same R.sub g1, seqT_same R.sub g3, by rw [DpAll.length g2, DpAll.length g4]; exact hz, fun e0 => ?_, fun n0 e0 => ?_, fun n0 n1 p hp => ?_⟩))
          · subst e0
            cases g2
            exact q S _ H (Same.refl S) R (.of (.tup g3 (by simpa using g4)))
          · subst e0
            cases g4
            exact q S _ H (Same.refl S) R (.of (.tup g1 (by simpa using g2)))
          · have sS := same_upd (o := .tup (xs ++ zs)) (R.sub.free hp)
            exact q _ (.ref p) _ sS (R.still hp) (.of (.tup (.inl (.inl upd_same)) (DpAll.same sS (DpAll.append g2 g4))))
    · cases e
  · rename_i a b
    split at e
    · rename_i hz
      cases e
      cases al with
      | cons h1 t =>
        cases t with
        | cons h2 t =>
          cases t
          obtain ⟨l, xs, rfl, g1, g2⟩ := h1.lst R.sub
          obtain ⟨m, zs, rfl, g3, g4⟩ := h2.lst R.sub
          refine .inr (.inr (.inr ⟨l, m, xs, zs, rfl, rfl, g1, g3, by rw [DpAll.length g2, DpAll.length g4]; exact hz, fun p hp => ?_⟩))
          have sS := same_upd (o := .lst (xs ++ zs)) (R.sub.free hp)
          exact q _ (.ref p) _ sS (R.still hp) (.of (.lst (.inl (.inl upd_same)) (DpAll.same sS (DpAll.append g2 g4))))
    · cases e
  · cases e
end

/-! ### == and in, of data of any depth -/
abbrev shp (d : D) : Bool := SeqAt.shaped d
def eqD : List D → Option D
  | [a, b] => if (noDict a && noDict b && shp a && shp b) = true then some (.bool (PyData.eqv a b)) else none
  | _ => none
def neD : List D → Option D
  | [a, b] => if (noDict a && noDict b && shp a && shp b) = true then some (.bool (!PyData.eqv a b)) else none
  | _ => none
def inD : List D → Option D
  | [a, .list b] => if (noDict a && shp a && shp (.list b)) = true then some (.bool (b.any fun z => PyData.eqv z a)) else none
  | [a, .tuple b] => if (noDict a && shp a && shp (.tuple b)) = true then some (.bool (b.any fun z => PyData.eqv z a)) else none
  | _ => none
def notInD : List D → Option D
  | [a, .list b] => if (noDict a && shp a && shp (.list b)) = true then some (.bool (!b.any fun z => PyData.eqv z a)) else none
  | [a, .tuple b] => if (noDict a && shp a && shp (.tuple b)) = true then some (.bool (!b.any fun z => PyData.eqv z a)) else none
  | _ => none
def rInT (K : Frag') : R2 := fun x y H Q => ∃ d ds, Dp K H x d ∧ Dp K H y (.tuple ds) ∧ SeqAt.shaped d = true ∧ SeqAt.shaped (.tuple ds) = true ∧ Q (.bl (ds.any fun z => PyData.eqv z d)) H
def rNotInT (K : Frag') : R2 := fun x y H Q => ∃ d ds, Dp K H x d ∧ Dp K H y (.tuple ds) ∧ SeqAt.shaped d = true ∧ SeqAt.shaped (.tuple ds) = true ∧ Q (.bl (!ds.any fun z => PyData.eqv z d)) H
theorem op_inT {X : Cx} (hu : X.A.units + 65 < cLine) : OpR X (compareOp .In) (rInT X.K) := by
  intro pins s σ H x y v u Q I rx ry h
  obtain ⟨d, ds, hd, he, sd, se, q⟩ := h
  obtain ⟨as, r1⟩ := Dp.reads I d x v hd rx
  obtain ⟨bs, r2⟩ := Dp.reads I (.tuple ds) y u he ry
  exact SeqAt.in_tuple_reads r2 r1 (SeqAt.canLay_of_shaped se) (SeqAt.canLay_of_shaped sd) (room_in_shaped sd hu) ⟨.bl _, H, I, rfl, q⟩
theorem op_notInT {X : Cx} (hu : X.A.units + 65 < cLine) : OpR X (compareOp .NotIn) (rNotInT X.K) := by
  intro pins s σ H x y v u Q I rx ry h
  obtain ⟨d, ds, hd, he, sd, se, q⟩ := h
  obtain ⟨as, r1⟩ := Dp.reads I d x v hd rx
  obtain ⟨bs, r2⟩ := Dp.reads I (.tuple ds) y u he ry
  exact SeqAt.notIn_tuple_reads r2 r1 (SeqAt.canLay_of_shaped se) (SeqAt.canLay_of_shaped sd) (room_in_shaped sd hu) ⟨.bl _, H, I, rfl, q⟩
abbrev rInA (K : Frag') : R2 := fun x y H Q => rInD K x y H Q ∨ rInT K x y H Q
abbrev rNotInA (K : Frag') : R2 := fun x y H Q => rNotInD K x y H Q ∨ rNotInT K x y H Q
theorem op_inA {X : Cx} (hu : X.A.units + 65 < cLine) : OpR X (compareOp .In) (rInA X.K) := (op_inD hu).or (op_inT hu)
theorem op_notInA {X : Cx} (hu : X.A.units + 65 < cLine) : OpR X (compareOp .NotIn) (rNotInA X.K) := (op_notInD hu).or (op_notInT hu)
section
variable {K : Frag'}
theorem eq_ok : OpOk K (l2 (rEqD K)) eqD := opOk2 (fun S H x y a b d Q s h1 h2 e q => by
    have e : (if (noDict a && noDict b && shp a && shp b) = true then some (PyData.bool (PyData.eqv a b)) else none) = some d := e
    by_cases hc : (noDict a && noDict b && shp a && shp b) = true
    · rw [if_pos hc] at e
      simp only [Bool.and_eq_true] at hc
      cases e
      exact ⟨a, b, h1.dp s hc.1.1.1, h2.dp s hc.1.1.2, hc.1.2, hc.2, q _ (.of (.bl _))⟩
    · rw [if_neg hc] at e
      cases e) fun ds d e => by
  unfold eqD at e
  split at e
  · exact ⟨_, _, rfl⟩
  · cases e
theorem ne_ok : OpOk K (l2 (rNeD K)) neD := opOk2 (fun S H x y a b d Q s h1 h2 e q => by
    have e : (if (noDict a && noDict b && shp a && shp b) = true then some (PyData.bool (!PyData.eqv a b)) else none) = some d := e
    by_cases hc : (noDict a && noDict b && shp a && shp b) = true
    · rw [if_pos hc] at e
      simp only [Bool.and_eq_true] at hc
      cases e
      exact ⟨a, b, h1.dp s hc.1.1.1, h2.dp s hc.1.1.2, hc.1.2, hc.2, q _ (.of (.bl _))⟩
    · rw [if_neg hc] at e
      cases e) fun ds d e => by
  unfold neD at e
  split at e
  · exact ⟨_, _, rfl⟩
  · cases e
theorem in_ok : OpOk K (l2 (rInA K)) inD := opOk2 (fun S H x y a b d Q s h1 h2 e q => by
    unfold inD at e
    split at e
    · rename_i a' b' z
      cases z
      split at e
      · rename_i hc
        simp only [Bool.and_eq_true] at hc
        cases e
        exact .inl ⟨_, _, h1.dp s hc.1.1, h2.dp s rfl, hc.1.2, hc.2, q _ (.of (.bl _))⟩
      · cases e
    · rename_i a' b' z
      cases z
      split at e
      · rename_i hc
        simp only [Bool.and_eq_true] at hc
        cases e
        exact .inr ⟨_, _, h1.dp s hc.1.1, h2.dp s rfl, hc.1.2, hc.2, q _ (.of (.bl _))⟩
      · cases e
    · cases e) fun ds d e => by
  unfold inD at e
  split at e
  · exact ⟨_, _, rfl⟩
  · exact ⟨_, _, rfl⟩
  · cases e
theorem notIn_ok : OpOk K (l2 (rNotInA K)) notInD := opOk2 (fun S H x y a b d Q s h1 h2 e q => by
    unfold notInD at e
    split at e
    · rename_i a' b' z
      cases z
      split at e
      · rename_i hc
        simp only [Bool.and_eq_true] at hc
        cases e
        exact .inl ⟨_, _, h1.dp s hc.1.1, h2.dp s rfl, hc.1.2, hc.2, q _ (.of (.bl _))⟩
      · cases e
    · rename_i a' b' z
      cases z
      split at e
      · rename_i hc
        simp only [Bool.and_eq_true] at hc
        cases e
        exact .inr ⟨_, _, h1.dp s hc.1.1, h2.dp s rfl, hc.1.2, hc.2, q _ (.of (.bl _))⟩
      · cases e
    · cases e) fun ds d e => by
  unfold notInD at e
  split at e
  · exact ⟨_, _, rfl⟩
  · exact ⟨_, _, rfl⟩
  · cases e
end

/-! ### items -/
def ixD : List D → Option D
  | [.list ds, .int i] => atI ds i
  | [.tuple ds, .int i] => atI ds i
  | [.str z, .int i] => if z.length ≤ sizeLine then (atI z.cps.toList i).map fun c => .str ⟨#[c]⟩ else none
  | _ => none
theorem atI_dp {K : Frag'} {S : Hp} {xs : List V} {ds : List D} (r : DpAll K S xs ds) {i : Int} {d : D} (h : atI ds i = some d) : ∃ v, atI xs i = some v ∧ Dp K S v d := by
  unfold atI at h ⊢
  rw [DpAll.length r]
  obtain ⟨j, h1, h2⟩ := Option.bind_eq_some_iff.mp h
  obtain ⟨v, h3, h4⟩ := DpAll.get r h2
  exact ⟨v, by rw [h1]; exact h3, h4⟩
section
variable {K : Frag'}
theorem ix_ok : OpOk K (l2 (rIx K)) ixD := opOk_flat fun S H vs ds d Q s al e q => by
  unfold ixD at e
  split at e
  · rename_i ds i
    cases al with
    | cons h1 t =>
      cases t with
      | cons h2 t =>
        cases t
        obtain ⟨a, xs, rfl, g1, g2⟩ := h1.lst s
        obtain ⟨v, g3, g4⟩ := atI_dp g2 e
        exact .inl ⟨a, xs, i, v, rfl, h2.int, g1, g3, q v (.of g4)⟩
  · rename_i ds i
    cases al with
    | cons h1 t =>
      cases t with
      | cons h2 t =>
        cases t
        obtain ⟨a, xs, rfl, g1, g2⟩ := h1.tup
        obtain ⟨v, g3, g4⟩ := atI_dp g2 e
        exact .inr (.inl ⟨a, xs, i, v, rfl, h2.int, seqT_same s g1, g3, q v (.of g4)⟩)
  · rename_i z i
    split at e
    · rename_i hz
      obtain ⟨c, e1, e2⟩ := Option.map_eq_some_iff.mp e
      subst e2
      cases al with
      | cons h1 t =>
        cases t with
        | cons h2 t =>
          cases t
          exact .inr (.inr ⟨z, i, c, h1.str, h2.int, hz, e1, q _ (.of (.str _))⟩)
    · cases e
  · cases e
end

/-! ### slices -/
def cutD (ds : List D) (lo hi : Option Int) : List D := (ds.drop (HT.sIx ds.length 0 lo)).take (HT.sIx ds.length ds.length hi - HT.sIx ds.length 0 lo)
def partsD : Bool → Bool → List D → Option (Option Int × Option Int)
  | true, true, [.int i, .int j] => some (some i, some j)
  | true, false, [.int i] => some (some i, none)
  | false, true, [.int j] => some (none, some j)
  | false, false, [] => some (none, none)
  | _, _, _ => none
def slD (b1 b2 : Bool) : List D → Option D
  | .list ds :: r => (partsD b1 b2 r).map fun p => .list (cutD ds p.1 p.2)
  | .tuple ds :: r => (partsD b1 b2 r).map fun p => .tuple (cutD ds p.1 p.2)
  | .str z :: r => if z.length ≤ sizeLine then (partsD b1 b2 r).map fun p => .str (cutS z p.1 p.2) else none
  | _ => none
def rSlD (K : Frag') : V → Option Int → Option Int → Hp → VK → Prop := fun x lo hi H Q => rSlL K x lo hi H Q ∨ rSlA K x lo hi H Q ∨ rSlS x lo hi H Q
theorem sl_D {X : Cx} : SlR X (rSlD X.K) := sl_list.or (sl_tupA.or sl_str)
/-- the reading by the list of values -/
def rSl (r : V → Option Int → Option Int → Hp → VK → Prop) (b1 b2 : Bool) : RV := fun vs H Q => match b1, b2, vs with
  | true, true, [x, .int i, .int j] => r x (some i) (some j) H Q
  | true, false, [x, .int i] => r x (some i) none H Q
  | false, true, [x, .int j] => r x none (some j) H Q
  | false, false, [x] => r x none none H Q
  | _, _, _ => False
section
variable {K : Frag'}
theorem cut_dp {S : Hp} {xs : List V} {ds : List D} (r : DpAll K S xs ds) (lo hi : Option Int) : DpAll K S (cutV xs lo hi) (cutD ds lo hi) := by
  unfold cutV cutD
  rw [DpAll.length r]
  exact DpAll.take _ (DpAll.drop _ r)
theorem parts_ok {b1 b2 : Bool} {S H : Hp} {vs : List V} {ds : List D} {lo hi : Option Int} (al : AtAll K S H vs ds) (e : partsD b1 b2 ds = some (lo, hi)) (x : V) (r : V → Option Int → Option Int → Hp → VK → Prop) {H' : Hp} {Q : VK} (h : r x lo hi H' Q) : rSl r b1 b2 (x :: vs) H' Q := by
  unfold partsD at e
  split at e
  · cases e
    cases al with
    | cons h1 t =>
      cases t with
      | cons h2 t =>
        cases t
        rw [h1.int, h2.int]
        exact h
  · cases e
    cases al with
    | cons h1 t =>
      cases t
      rw [h1.int]
      exact h
  · cases e
    cases al with
    | cons h1 t =>
      cases t
      rw [h1.int]
      exact h
  · cases e
    cases al
    exact h
  · cases e
theorem cutV_all {xs : List V} {lo hi : Option Int} (h : HT.sIx xs.length 0 lo = 0 ∧ HT.sIx xs.length xs.length hi = xs.length) : cutV xs lo hi = xs := by
  unfold cutV
  rw [h.1, h.2]
  simp
theorem cutD_all {xs : List D} {lo hi : Option Int} (h : HT.sIx xs.length 0 lo = 0 ∧ HT.sIx xs.length xs.length hi = xs.length) : cutD xs lo hi = xs := by
  unfold cutD
  rw [h.1, h.2]
  simp
theorem sl_ok {b1 b2 : Bool} : OpOk K (rSl (rSlD K) b1 b2) (slD b1 b2) := fun C S σ H ρ hid vs ds d Q R al e q => by
  unfold slD at e
  split at e
  · rename_i ds r
    obtain ⟨⟨lo, hi⟩, e1, e2⟩ := Option.map_eq_some_iff.mp e
    subst e2
    cases al with
    | cons h1 t =>
      obtain ⟨a, xs, rfl, g1, g2⟩ := h1.lst R.sub
      refine parts_ok t e1 _ _ (.inl ⟨a, xs, rfl, g1, fun p hp => ?_⟩)
      have sS := same_upd (o := .lst (cutV xs lo hi)) (R.sub.free hp)
      exact q _ (.ref p) _ sS (R.still hp) (.of (.lst (.inl (.inl upd_same)) (DpAll.same sS (cut_dp g2 lo hi))))
  · rename_i ds r
    obtain ⟨⟨lo, hi⟩, e1, e2⟩ := Option.map_eq_some_iff.mp e
    subst e2
    cases al with
    | cons h1 t =>
      obtain ⟨a, xs, rfl, g1, g2⟩ := h1.tup
      refine parts_ok t e1 _ _ (.inr (.inl ⟨a, xs, rfl, seqT_same R.sub g1, fun hw => ?_, fun _ p hp => ?_⟩))
      · have z : HT.sIx ds.length 0 lo = 0 ∧ HT.sIx ds.length ds.length hi = ds.length := by
          rw [DpAll.length g2] at hw
          exact hw
        exact q S _ H (Same.refl S) R (.of (by
          show Dp K S _ (.tuple (cutD ds lo hi))
          rw [cutD_all z]
          exact .tup g1 g2))
      · have sS := same_upd (o := .tup (cutV xs lo hi)) (R.sub.free hp)
        exact q _ (.ref p) _ sS (R.still hp) (.of (.tup (.inl (.inl upd_same)) (DpAll.same sS (cut_dp g2 lo hi))))
  · rename_i z r
    split at e
    · rename_i hz
      obtain ⟨⟨lo, hi⟩, e1, e2⟩ := Option.map_eq_some_iff.mp e
      subst e2
      cases al with
      | cons h1 t =>
        rw [h1.str]
        exact parts_ok t e1 _ _ (.inr (.inr ⟨z, rfl, hz, q S _ H (Same.refl S) R (.of (.str _))⟩))
    · cases e
  · cases e
end
/-- the parts of a slice -/
inductive PPs (X : Cx) (C : Ct) : Option Expr → Option Opd → Prop where
  | none : PPs X C none none
  | some {e : Expr} {o : Opd} : PO' X C e o → PPs X C (some e) (some o)
def ppL : Option Opd → List Opd
  | some o => [o]
  | none => []
section
variable {X : Cx} {C : Ct} {e : Expr} {pos p2 : Pos}
theorem pp_none : PPs X C none none := .none
theorem pp_some {e : Expr} {o : Opd} (h : PO' X C e o) : PPs X C (some e) (some o) := .some h
def ppT (K : Frag') (C : Ct) : Option Opd → TO
  | some o => tPart (rdO K C o)
  | none => tNoPart
theorem PPs.po {lo : Option Expr} {o : Option Opd} (h : PPs X C lo o) : PO X lo (ppT X.K C o) := by
  cases h with
  | none => exact po_none
  | some h => exact po_some h
theorem rdE_mono {K : Frag'} {m : ME} {σ : L2.St} {H : Hp} {Q Q' : VK} (h : rdE K C m σ H Q) (i : ∀ v H, Q v H → Q' v H) : rdE K C m σ H Q' :=
  let ⟨S, ρ, hid, R, d, ρ', e, q⟩ := h
  ⟨S, ρ, hid, R, d, ρ', e, fun S' v H' s R' r => i _ _ (q S' v H' s R' r)⟩
theorem rdO_mono {K : Frag'} {o : Opd} {σ : L2.St} {H : Hp} {Q Q' : VK} (h : rdO K C o σ H Q) (i : ∀ v H, Q v H → Q' v H) : rdO K C o σ H Q' := by
  cases o with
  | ex m => exact rdE_mono h i
  | nm j => exact let ⟨v, e, q⟩ := h; ⟨v, e, i _ _ q⟩
theorem rSl_11 {r : V → Option Int → Option Int → Hp → VK → Prop} {x y z : V} {H : Hp} {Q : VK} (h : rSl r true true [x, y, z] H Q) : ∃ i, y = .int i ∧ ∃ j, z = .int j ∧ r x (some i) (some j) H Q := by
  cases y <;> first | exact False.elim h | skip
  cases z <;> first | exact False.elim h | exact ⟨_, rfl, _, rfl, h⟩
theorem rSl_10 {r : V → Option Int → Option Int → Hp → VK → Prop} {x y : V} {H : Hp} {Q : VK} (h : rSl r true false [x, y] H Q) : ∃ i, y = .int i ∧ r x (some i) none H Q := by
  cases y <;> first | exact False.elim h | exact ⟨_, rfl, h⟩
theorem rSl_01 {r : V → Option Int → Option Int → Hp → VK → Prop} {x y : V} {H : Hp} {Q : VK} (h : rSl r false true [x, y] H Q) : ∃ i, y = .int i ∧ r x none (some i) H Q := by
  cases y <;> first | exact False.elim h | exact ⟨_, rfl, h⟩
def PreSl (X : Cx) (K : Frag') (o : TE) (o1 o2 : TO) : TE := tSl (rSlD K) o o1 o2
/-- both parts: the first is an int before the second is asked -/
def intO : Opd → Env' → Bool
  | .ex m, ρ => match m ρ with
    | some (.int _, _) => true
    | _ => false
  | .nm i, ρ => match look ρ i with
    | some (.int _) => true
    | _ => false
theorem e_sl {lo hi : Option Expr} {o : Opd} {o1 o2 : Option Opd} (h : PO' X C e o) (h1 : PPs X C lo o1) (h2 : PPs X C hi o2) (hb : o1.isSome = true → o2.isSome = true → ∃ m, o1 = some (.ex m) ∧ (∀ ρ d ρ', m ρ = some (d, ρ') → ∃ i, d = .int i)) : PE X (.Subscript e (.Slice lo hi none p2) pos) (rdE X.K C (mOp (slD o1.isSome o2.isSome) (o :: (ppL o1 ++ ppL o2)))) :=
  PE.imp (pe_slice sl_D h h1.po h2.po) fun σ H Q q => by
    have z := mOp_st (sl_ok (b1 := o1.isSome) (b2 := o2.isSome)) q
    cases o1 with
    | none =>
      cases o2 with
      | none => exact z
      | some o2 => exact rdO_mono z fun x H1 z1 => rdO_mono z1 fun y H2 z2 => rSl_01 z2
    | some o1 =>
      cases o2 with
      | none => exact rdO_mono z fun x H1 z1 => rdO_mono z1 fun y H2 z2 => rSl_10 z2
      | some o2 =>
        obtain ⟨m, e, hm⟩ := hb rfl rfl
        cases e
        refine rdO_mono z fun x H1 z1 => ?_
        obtain ⟨S, ρ, hid, R, d, ρ', e, q⟩ := z1
        obtain ⟨i, rfl⟩ := hm ρ d ρ' e
        refine ⟨S, ρ, hid, R, _, ρ', e, fun S' v H' s R' r => ?_⟩
        cases r
        refine ⟨i, rfl, ?_⟩
        refine rdO_mono (q S' (.int i) H' s R' (.int i)) fun y H2 z2 => ?_
        obtain ⟨i', e1, j, e2, q⟩ := rSl_11 z2
        cases e1
        exact ⟨j, e2, q⟩
end
end VS

set_option Elab.async false
set_option linter.all false
set_option maxRecDepth 100000
/-! VsI: len, tuple, list, isinstance, all, any, sum, is; append, extend, insert, pop; stores by place; += . -/
namespace VS
open PySem PySem.Spec PyProof.Rows L2

/-! ### an int, by its kind -/
def mInt (m : ME) : ME := fun ρ => (m ρ).bind fun p => match p.1 with
  | .int i => some (.int i, p.2)
  | _ => none
theorem mInt_some {m : ME} {ρ ρ' : Env'} {d : D} (h : mInt m ρ = some (d, ρ')) : ∃ i, d = .int i ∧ m ρ = some (.int i, ρ') := by
  obtain ⟨⟨d0, ρ0⟩, h1, h2⟩ := Option.bind_eq_some_iff.mp h
  cases d0 <;> cases h2
  exact ⟨_, rfl, h1⟩
section
variable {X : Cx} {C : Ct} {e : Expr} {pos p p2 : Pos}
theorem e_mint {m : ME} (h : PE X e (rdE X.K C m)) : PE X e (rdE X.K C (mInt m)) := PE.imp h fun σ H Q q => by
  obtain ⟨S, ρ, hid, R, d, ρ', e, q⟩ := q
  obtain ⟨i, rfl, h⟩ := mInt_some e
  exact ⟨S, ρ, hid, R, _, ρ', h, q⟩
theorem e_sl0 {o : Opd} (h : PO' X C e o) : PE X (.Subscript e (.Slice none none none p2) pos) (rdE X.K C (mOp (slD false false) [o])) := e_sl (o1 := none) (o2 := none) h pp_none pp_none nofun
theorem e_sl1 {a : Expr} {o o1 : Opd} (h : PO' X C e o) (h1 : PO' X C a o1) : PE X (.Subscript e (.Slice (some a) none none p2) pos) (rdE X.K C (mOp (slD true false) [o, o1])) := e_sl (o1 := some o1) (o2 := none) h (pp_some h1) pp_none nofun
theorem e_sl2 {a : Expr} {o o1 : Opd} (h : PO' X C e o) (h1 : PO' X C a o1) : PE X (.Subscript e (.Slice none (some a) none p2) pos) (rdE X.K C (mOp (slD false true) [o, o1])) := e_sl (o1 := none) (o2 := some o1) h pp_none (pp_some h1) nofun
theorem e_sl3 {a b : Expr} {o o2 : Opd} {m : ME} (h : PO' X C e o) (h1 : PE X a (rdE X.K C m)) (h2 : PO' X C b o2) : PE X (.Subscript e (.Slice (some a) (some b) none p2) pos) (rdE X.K C (mOp (slD true true) [o, .ex (mInt m), o2])) :=
  e_sl (o1 := some (.ex (mInt m))) (o2 := some o2) h (pp_some (o_ex (e_mint h1))) (pp_some h2) fun _ _ => ⟨_, rfl, fun ρ d ρ' e => let ⟨i, e1, _⟩ := mInt_some e; ⟨i, e1⟩⟩
end

section
variable {K : Frag'}
/-! ### len -/
def lenD : List D → Option D
  | [.list ds] => some (.int ds.length)
  | [.tuple ds] => some (.int ds.length)
  | [.str x] => if x.length ≤ sizeLine then some (.int x.length) else none
  | _ => none
abbrev rLenD (K : Frag') : RV := fun xs H Q => (∃ p ys, xs = [.ref p] ∧ (SqL K H p ys ∨ SqT K H p ys) ∧ Q (.int ys.length) H) ∨ (∃ x n, xs = [x] ∧ LenV K x H n ∧ Q (.int n) H)
theorem call_lenV {X : Cx} : CallR X (.builtin "len") (rLenD X.K) := call_len_seq.or call_len
theorem len_ok : OpOk K (rLenD K) lenD := opOk_flat fun S H vs ds d Q s al e q => by
  unfold lenD at e
  split at e
  · rename_i ds
    cases e
    cases al with
    | cons h t =>
      cases t
      obtain ⟨a, xs, rfl, g1, g2⟩ := h.lst s
      exact .inl ⟨a, xs, rfl, .inl g1, q _ (.of (by rw [DpAll.length g2]; exact .int _))⟩
  · rename_i ds
    cases e
    cases al with
    | cons h t =>
      cases t
      obtain ⟨a, xs, rfl, g1, g2⟩ := h.tup
      exact .inl ⟨a, xs, rfl, .inr (seqT_same s g1), q _ (.of (by rw [DpAll.length g2]; exact .int _))⟩
  · rename_i x
    split at e
    · rename_i hz
      cases e
      cases al with
      | cons h t =>
        cases t
        exact .inr ⟨.str x, x.length, by rw [h.str], ⟨hz, rfl⟩, q _ (.of (.int _))⟩
    · cases e
  · cases e
/-! ### tuple(xs), list(xs) -/
def tupleD : List D → Option D
  | [.list ds] => some (.tuple ds)
  | [.tuple ds] => some (.tuple ds)
  | _ => none
def listD : List D → Option D
  | [.list ds] => some (.list ds)
  | [.tuple ds] => some (.list ds)
  | _ => none
theorem tuple_ok : OpOk K (fun xs H Q => ∃ p ys, xs = [.ref p] ∧ ((SqL K H p ys ∧ ∀ l, H l = none → Q (.ref l) (upd H l (.tup ys))) ∨ (SqT K H p ys ∧ Q (.ref p) H))) tupleD := fun C S σ H ρ hid vs ds d Q R al e q => by
  unfold tupleD at e
  split at e
  · rename_i ds
    cases e
    cases al with
    | cons h t =>
      cases t
      obtain ⟨a, xs, rfl, g1, g2⟩ := h.lst R.sub
      refine ⟨a, xs, rfl, .inl ⟨g1, fun p hp => ?_⟩⟩
      have sS := same_upd (o := .tup xs) (R.sub.free hp)
      exact q _ (.ref p) _ sS (R.still hp) (.of (.tup (.inl (.inl upd_same)) (DpAll.same sS g2)))
  · rename_i ds
    cases e
    cases al with
    | cons h t =>
      cases t
      obtain ⟨a, xs, rfl, g1, g2⟩ := h.tup
      exact ⟨a, xs, rfl, .inr ⟨seqT_same R.sub g1, q S _ H (Same.refl S) R (.of (.tup g1 g2))⟩⟩
  · cases e
theorem list_fr : OpFr K (fun xs H Q => ∃ p ys, xs = [.ref p] ∧ (SqL K H p ys ∨ SqT K H p ys) ∧ ∀ l, H l = none → Q (.ref l) (upd H l (.lst ys))) listD := fun C S σ H ρ hid vs ds d Q R al e q => by
  unfold listD at e
  split at e
  · rename_i ds
    cases e
    cases al with
    | cons h t =>
      cases t
      obtain ⟨a, xs, rfl, g1, g2⟩ := h.lst R.sub
      exact ⟨a, xs, rfl, .inl g1, fun p hp => q S p _ (Same.refl S) (R.fresh (o := .lst xs) (d := .list ds) hp g2)⟩
  · rename_i ds
    cases e
    cases al with
    | cons h t =>
      cases t
      obtain ⟨a, xs, rfl, g1, g2⟩ := h.tup
      exact ⟨a, xs, rfl, .inr (seqT_same R.sub g1), fun p hp => q S p _ (Same.refl S) (R.fresh (o := .lst xs) (d := .list ds) hp g2)⟩
  · cases e
/-! ### all, any, sum -/
def boolsD : List D → Option (List Bool)
  | [] => some []
  | .bool b :: r => (boolsD r).map (b :: ·)
  | _ => none
def intsD : List D → Option (List Int)
  | [] => some []
  | .int b :: r => (intsD r).map (b :: ·)
  | _ => none
theorem bools_ok {S : Hp} : ∀ {xs : List V} {ds : List D} {bs : List Bool}, DpAll K S xs ds → boolsD ds = some bs → xs = bs.map V.bl
  | _, _, _, .nil, h => by
    cases h
    rfl
  | _, _, bs, .cons h r, e => by
    cases h with
    | bl b =>
      unfold boolsD at e
      obtain ⟨cs, e1, e2⟩ := Option.map_eq_some_iff.mp e
      subst e2
      rw [List.map_cons, bools_ok r e1]
    | _ => cases e
theorem ints_ok {S : Hp} : ∀ {xs : List V} {ds : List D} {bs : List Int}, DpAll K S xs ds → intsD ds = some bs → xs = bs.map V.int
  | _, _, _, .nil, h => by
    cases h
    rfl
  | _, _, bs, .cons h r, e => by
    cases h with
    | int b =>
      unfold intsD at e
      obtain ⟨cs, e1, e2⟩ := Option.map_eq_some_iff.mp e
      subst e2
      rw [List.map_cons, ints_ok r e1]
    | _ => cases e
def allD : List D → Option D
  | [.list ds] => (boolsD ds).map fun bs => .bool (bs.all id)
  | _ => none
def anyD : List D → Option D
  | [.list ds] => (boolsD ds).map fun bs => .bool (bs.any id)
  | _ => none
def sumD : List D → Option D
  | [.list ds] => (intsD ds).map fun bs => .int bs.sum
  | _ => none
theorem all_ok : OpOk K (rAll K) allD := opOk_flat fun S H vs ds d Q s al e q => by
  unfold allD at e
  split at e
  · rename_i ds
    obtain ⟨bs, e1, e2⟩ := Option.map_eq_some_iff.mp e
    subst e2
    cases al with
    | cons h t =>
      cases t
      obtain ⟨a, xs, rfl, g1, g2⟩ := h.lst s
      rw [bools_ok g2 e1] at g1
      exact ⟨a, bs, rfl, g1, q _ (.of (.bl _))⟩
  · cases e
theorem any_ok : OpOk K (rAny K) anyD := opOk_flat fun S H vs ds d Q s al e q => by
  unfold anyD at e
  split at e
  · rename_i ds
    obtain ⟨bs, e1, e2⟩ := Option.map_eq_some_iff.mp e
    subst e2
    cases al with
    | cons h t =>
      cases t
      obtain ⟨a, xs, rfl, g1, g2⟩ := h.lst s
      rw [bools_ok g2 e1] at g1
      exact ⟨a, bs, rfl, g1, q _ (.of (.bl _))⟩
  · cases e
theorem sum_ok : OpOk K (rSum K) sumD := opOk_flat fun S H vs ds d Q s al e q => by
  unfold sumD at e
  split at e
  · rename_i ds
    obtain ⟨bs, e1, e2⟩ := Option.map_eq_some_iff.mp e
    subst e2
    cases al with
    | cons h t =>
      cases t
      obtain ⟨a, xs, rfl, g1, g2⟩ := h.lst s
      rw [ints_ok g2 e1] at g1
      exact ⟨a, bs, rfl, g1, q _ (.of (.int _))⟩
  · cases e
/-! ### is, of bools and of None -/
def isB : List D → Option D
  | [.bool a, .bool b] => some (.bool (decide (a = b)))
  | _ => none
def isNotB : List D → Option D
  | [.bool a, .bool b] => some (.bool (!decide (a = b)))
  | _ => none
def isNo : D → Bool
  | .none => true
  | _ => false
def isN : List D → Option D
  | [d, .none] => some (.bool (isNo d))
  | _ => none
def isNotN : List D → Option D
  | [d, .none] => some (.bool (!isNo d))
  | _ => none
theorem isB_ok : OpOk K (l2 (fun x y H Q => ∃ a b, x = V.bl a ∧ y = V.bl b ∧ Q (V.bl (decide (a = b))) H)) isB := opOk_flat fun S H vs ds d Q s al e q => by
  unfold isB at e
  split at e
  · rename_i a b
    cases e
    cases al with
    | cons h1 t =>
      cases t with
      | cons h2 t =>
        cases t
        exact ⟨a, b, h1.bool, h2.bool, q _ (.of (.bl _))⟩
  · cases e
theorem isNotB_ok : OpOk K (l2 (fun x y H Q => ∃ a b, x = V.bl a ∧ y = V.bl b ∧ Q (V.bl (!decide (a = b))) H)) isNotB := opOk_flat fun S H vs ds d Q s al e q => by
  unfold isNotB at e
  split at e
  · rename_i a b
    cases e
    cases al with
    | cons h1 t =>
      cases t with
      | cons h2 t =>
        cases t
        exact ⟨a, b, h1.bool, h2.bool, q _ (.of (.bl _))⟩
  · cases e
theorem At.isNo {S H : Hp} {v : V} {d : D} (h : At K S H v d) : decide (v = .non) = isNo d := by
  rcases h with h | ⟨a, rfl, _, o, _, h⟩
  · cases d with
    | dict kvs =>
      obtain ⟨a, o, rfl, _⟩ := h
      rfl
    | _ => cases h <;> rfl
  · cases d <;> first | rfl | (cases o <;> exact False.elim h)
theorem isN_ok : OpOk K (l2 (fun x y H Q => y = .non ∧ Q (V.bl (decide (x = .non))) H)) isN := opOk_flat fun S H vs ds d Q s al e q => by
  unfold isN at e
  split at e
  · rename_i a
    cases e
    cases al with
    | cons h1 t =>
      cases t with
      | cons h2 t =>
        cases t
        exact ⟨h2.none, q _ (.of (by rw [h1.isNo]; exact .bl _))⟩
  · cases e
theorem isNotN_ok : OpOk K (l2 (fun x y H Q => y = .non ∧ Q (V.bl (!decide (x = .non))) H)) isNotN := opOk_flat fun S H vs ds d Q s al e q => by
  unfold isNotN at e
  split at e
  · rename_i a
    cases e
    cases al with
    | cons h1 t =>
      cases t with
      | cons h2 t =>
        cases t
        exact ⟨h2.none, q _ (.of (by rw [h1.isNo]; exact .bl _))⟩
  · cases e
end

/-! ### isinstance(x, T), T a built-in class -/
def tyD : D → String
  | .none => "NoneType"
  | .bool _ => "bool"
  | .int _ => "int"
  | .str _ => "str"
  | .list _ => "list"
  | .tuple _ => "tuple"
  | .dict _ => "dict"
def isiD (T : String) : List D → Option D
  | [d] => (kitB (tyD d) T).map .bool
  | _ => none
theorem sqL_ty {K : Frag'} {H : Hp} {a : Addr} {xs : List V} (h : SqL K H a xs) : TyX K H (.ref a) (.type "list") := by
  rcases h with (h | ⟨o, h⟩) | ⟨o, _, _, h1, h2, _⟩
  · exact .base (.lst h)
  · exact .base (.frz h)
  · exact .kList h1 h2
theorem sqT_ty {K : Frag'} {H : Hp} {a : Addr} {xs : List V} (h : SqT K H a xs) : TyX K H (.ref a) (.type "tuple") := by
  rcases h with (h | ⟨o, h⟩) | ⟨o, _, _, h1, h2, _⟩
  · exact .base (.tup h)
  · exact .fTuple h
  · exact .kTuple h1 h2
theorem dct_ty {K : Frag'} {S H : Hp} {a : Addr} {o : HO} {kvs : List (D × D)} (h : H a = some o) (d : DictO K S o kvs) : TyX K H (.ref a) (.type "dict") := by
  cases o with
  | dK ps => exact .base (.dK h)
  | dT ps => exact .base (.dT h)
  | _ => exact False.elim d
theorem At.ty {K : Frag'} {S H : Hp} {v : V} {d : D} (s : Same S H) (h : At K S H v d) : TyX K H v (.type (tyD d)) := by
  rcases h with h | ⟨a, rfl, _, o, ho, h⟩
  · cases d with
    | dict kvs =>
      obtain ⟨a, o, rfl, e1, e2⟩ := h
      exact dct_ty (s _ _ e1) e2
    | list ds =>
      cases h with
      | lst h r => exact sqL_ty (s.seq h)
    | tuple ds =>
      cases h with
      | tup h r => exact sqT_ty (seqT_same s h)
    | none => cases h; exact .base .non
    | bool b => cases h; exact .base (.bl _)
    | int b => cases h; exact .base (.int _)
    | str b => cases h; exact .base (.str _)
  · cases d with
    | dict kvs => exact dct_ty ho h.dict
    | list ds =>
      cases o with
      | lst xs => exact .base (.lst ho)
      | _ => exact False.elim h
    | _ => cases o <;> exact False.elim h
section
variable {X : Cx} {C : Ct} {e : Expr} {p q pos : Pos}
theorem e_isi {T : String} {x : Str} {o : Opd} (h : PO' X C e o) (hg : Gl X "isinstance") (hm : X.mg "isinstance" = none) (hgT : Gl X x) (hmT : X.mg x = none) (hT : bootBuiltins x = some (.type T)) (hn : x ≠ "__name__" := by decide) (hd : (x == ("__debug__" : Str)) = false := by decide)
    (hs : starEach [e, .Name x q] X.env = (false, eval e X.env) :: starEach [.Name x q] X.env := by rfl) (hpl : (backTo pos (starEach [.Name x q] X.env)).any (·.1) = false := by rfl) (hs2 : starEach [Expr.Name x q] X.env = (false, eval (Expr.Name x q) X.env) :: starEach [] X.env := by rfl) : PE X (.Call (.Name "isinstance" p) [e, .Name x q] [] pos) (rdE X.K C (mOp (isiD T) [o])) :=
  PE.imp (pe_callB call_isi hg hm (by decide +kernel) (pa_cons h (pa_cons (pe_bltn (v := .ty T) hgT hmT hT rfl hn hd) pa_nil hs2) hs) (by decide) (by decide) hs hpl) fun σ H Q z => by
    obtain ⟨S, ρ, hid, R, d, ρ', e, z⟩ := z
    obtain ⟨⟨ds, ρ1⟩, h1, e⟩ := Option.bind_eq_some_iff.mp e
    obtain ⟨d1, h2, e⟩ := Option.bind_eq_some_iff.mp e
    cases e
    have t := tOs_ok (Q := fun vs H' => match vs with | [v] => rIsi X.K [v, .ty T] H' Q | _ => False) R h1 fun S' vs H' s R' al => by
      cases al with
      | nil => cases h2
      | cons a t =>
        cases t with
        | cons _ _ => cases h2
        | nil =>
          obtain ⟨b, k1, k2⟩ := Option.map_eq_some_iff.mp h2
          subst k2
          exact ⟨_, _, _, _, b, rfl, .ty T, a.ty R'.sub, kit_ty k1, z S' _ H' s R' (.of (.bl _))⟩
    exact t
end

/-! ### methods of lists: their arguments stand still -/
def MtOkS (K : Frag') (r : V → List V → Hp → VK → Prop) (f : D → List D → Option (D × D)) : Prop := ∀ (S : Hp) (H : Hp) (a : Addr) (o : HO) (d : D) (vs : List V) (ds : List D) (res d' : D) (Q : VK), Same S H → H a = some o → S a = none → OwO K S o d → stD K S vs ds → f d ds = some (res, d') →
  (∀ v o', OwO K S o' d' → Rp K S v res → Q v (upd H a o')) → r (.ref a) vs H Q
def mMutS (i : Nat) (f : D → List D → Option (D × D)) (ms : List ME) : ME := fun ρ => (evm ms ρ).bind fun q => match q.2[i]? with
  | some (some (.ow d)) => (f d q.1).bind fun z => some (z.1, q.2.set i (some (.ow z.2)))
  | _ => none
theorem mMutS_some {i : Nat} {f : D → List D → Option (D × D)} {ms : List ME} {ρ ρ' : Env'} {d : D} (h : mMutS i f ms ρ = some (d, ρ')) : ∃ ds ρ1 d0 d1, evm ms ρ = some (ds, ρ1) ∧ ρ1[i]? = some (some (.ow d0)) ∧ f d0 ds = some (d, d1) ∧ ρ' = ρ1.set i (some (.ow d1)) := by
  obtain ⟨⟨ds, ρ1⟩, h1, e⟩ := Option.bind_eq_some_iff.mp h
  split at e
  · rename_i d0 h2
    obtain ⟨⟨z1, z2⟩, h3, e⟩ := Option.bind_eq_some_iff.mp e
    cases e
    exact ⟨ds, ρ1, d0, z2, h1, h2, h3, rfl⟩
  · cases e
theorem mMutS_ok {K : Frag'} {C : Ct} {r : V → List V → Hp → VK → Prop} {f : D → List D → Option (D × D)} (hf : MtOkS K r f) {i : Nat} {ms : List ME} {σ : L2.St} {H : Hp} {Q : VK} (q : rdE K C (mMutS i f ms) σ H Q) (v0 : V) (hv : σ[i]? = some (some v0)) :
    tMs K C ms σ H fun vs H' => r v0 vs H' Q := by
  obtain ⟨S, ρ, hid, R, d, ρ', e, q⟩ := q
  obtain ⟨ds, ρ1, d0, d1, h1, h2, h3, rfl⟩ := mMutS_some e
  refine tMs_ok R h1 fun S' vs H' s R' al => ?_
  obtain ⟨a, o, g1, g2, g3, g4, g5⟩ := R'.write h2
  rw [hv] at g1
  cases g1
  exact hf S' H' a o d0 vs ds d d1 Q R'.sub g2 g3 g4 al h3 fun v o' ow rp => q S' v _ s (g5 o' d1 ow) rp
def mMethS (T : String) (i : Nat) (f : D → List D → Option (D × D)) (ms : List ME) : ME := fun ρ => if kindAt T i ρ = true then mMutS i f ms ρ else none
section
variable {X : Cx} {C : Ct} {o e : Expr} {es : List Expr} {name : Str} {apos cpos : Pos} {id T : String} {r : V → List V → Hp → VK → Prop} {f : D → List D → Option (D × D)} {i : Nat} {ms : List ME}
theorem e_methS (pa : PlainAttrs T) (slot : Slot T name id) (hty : typeOf (.builtin id) = pure (.type "method_descriptor")) (hm : MtR X id r) (hf : MtOkS X.K r f) (ho : PE X o (tVar i)) (ha : PMs X C (e :: es) ms)
    (hbase : attributeBase o name X.env (eval o X.env) = eval o X.env := by rfl)
    (hfew : ((backTo cpos (starEach (e :: es) X.env)).all (fun x => !x.1) && (backToKw cpos (keywordEach [] X.env)).all (fun x => x.1.isSome)
      && decide ((e :: es).length + ([] : List Keyword).length + (if ([] : List Keyword).isEmpty then 0 else 1) < 30)) = true := by rfl)
    (hline : (apos.endLine == cpos.line) = true := by rfl) (hs : starEach (e :: es) X.env = (false, eval e X.env) :: starEach es X.env := by rfl) (hplain : (backTo cpos (starEach es X.env)).any (·.1) = false := by rfl) :
    PE X (.Call (.Attribute o name apos) (e :: es) [] cpos) (rdE X.K C (mMethS T i f ms)) := PE.imp (pe_bm pa slot hty hm ho ha.pa hbase hfew hline hs hplain) fun σ H Q q => by
  obtain ⟨S, ρ, hid, R, d, ρ', e, q⟩ := q
  unfold mMethS at e
  split at e
  · rename_i hk
    obtain ⟨a, h1, h2⟩ := kindAt_ok R hk
    exact ⟨.ref a, h1, h2, mMutS_ok hf ⟨S, ρ, hid, R, d, ρ', e, q⟩ _ h1⟩
  · cases e
end
section
variable {K : Frag'}
def appendD : D → List D → Option (D × D)
  | .list ds, [d] => if noDict d = true ∧ ds.length < sizeLine then some (.none, .list (ds ++ [d])) else none
  | _, _ => none
theorem append_ok : MtOkS K rAppend appendD := fun S H a o d vs ds res d' Q s ho hS ow al e q => by
  unfold appendD at e
  split at e
  · rename_i es b
    split at e
    · rename_i hc
      cases e
      cases al with
      | cons h t =>
        cases t
        cases o with
        | lst xs =>
          have ow : DpAll K S xs es := ow
          exact ⟨a, xs, _, rfl, rfl, ho, by rw [DpAll.length ow]; exact hc.2, q .non (.lst (xs ++ [_])) (DpAll.append ow (DpAll.one (h.dp hc.1))) (.of .non)⟩
        | _ => exact False.elim ow
    · cases e
  · cases e
/-- insert at a place from 0 on -/
def insertD : D → List D → Option (D × D)
  | .list ds, [.int i, d] => if (noDict d = true ∧ ds.length < sizeLine) ∧ 0 ≤ i ∧ i < 2 ^ 63 then some (.none, .list (ds.take i.toNat ++ [d] ++ ds.drop i.toNat)) else none
  | _, _ => none
theorem insert_ok : MtOkS K (fun x vs H Q => ∃ (l : Addr) (xs : List V) (i : Int) (y : V), x = .ref l ∧ vs = [.int i, y] ∧ H l = some (.lst xs) ∧ xs.length < sizeLine ∧ 0 ≤ i ∧ i < 2 ^ 63 ∧
    Q .non (upd H l (.lst (xs.take i.toNat ++ [y] ++ xs.drop i.toNat)))) insertD := fun S H a o d vs ds res d' Q s ho hS ow al e q => by
  unfold insertD at e
  split at e
  · rename_i es i b
    split at e
    · rename_i hc
      cases e
      cases al with
      | cons h0 t =>
        cases t with
        | cons h t =>
          cases t
          cases o with
          | lst xs =>
            have ow : DpAll K S xs es := ow
            cases h0
            exact ⟨a, xs, i, _, rfl, rfl, ho, by rw [DpAll.length ow]; exact hc.1.2, hc.2.1, hc.2.2, q .non (.lst (xs.take i.toNat ++ [_] ++ xs.drop i.toNat)) (DpAll.append (DpAll.append (DpAll.take _ ow) (DpAll.one (h.dp hc.1.1))) (DpAll.drop _ ow)) (.of .non)⟩
          | _ => exact False.elim ow
    · cases e
  · cases e
def popAtD : D → List D → Option (D × D)
  | .list ds, [.int i] => if -(2 ^ 63) ≤ i ∧ i < 2 ^ 63 then (ixN ds.length i).bind fun j => (ds[j]?).bind fun d => some (d, .list (ds.eraseIdx j)) else none
  | _, _ => none
theorem popAt_ok : MtOkS K rPopAt popAtD := fun S H a o d vs ds res d' Q s ho hS ow al e q => by
  unfold popAtD at e
  split at e
  · rename_i es i
    split at e
    · rename_i hc
      obtain ⟨j, e1, e⟩ := Option.bind_eq_some_iff.mp e
      obtain ⟨d0, e2, e⟩ := Option.bind_eq_some_iff.mp e
      cases e
      cases al with
      | cons h0 t =>
        cases t
        cases h0
        cases o with
        | lst xs =>
          have ow : DpAll K S xs es := ow
          obtain ⟨v, g1, g2⟩ := DpAll.get ow e2
          exact ⟨a, xs, i, j, v, rfl, rfl, ho, hc.1, hc.2, by rw [DpAll.length ow]; exact (ixN_seq e1).1, g1, q v (.lst (xs.eraseIdx j)) (DpAll.eraseIdx _ ow) (.of g2)⟩
        | _ => exact False.elim ow
    · cases e
  · cases e
/-- pop() of the last -/
def popD : D → List D → Option (D × D)
  | .list ds, [] => (ds[ds.length - 1]?).bind fun d => some (d, .list ds.dropLast)
  | _, _ => none
theorem dropLast_dp {S : Hp} : ∀ {vs : List V} {ds : List D}, DpAll K S vs ds → DpAll K S vs.dropLast ds.dropLast
  | _, _, .nil => .nil
  | _, _, .cons h .nil => .nil
  | _, _, .cons h (.cons g r) => by
    rw [List.dropLast_cons₂, List.dropLast_cons₂]
    exact .cons h (dropLast_dp (.cons g r))
theorem pop_ok : MtOk K rPop popD := fun S H a o d vs ds res d' Q s ho hS ow al e q => by
  unfold popD at e
  split at e
  · rename_i es
    obtain ⟨d0, e2, e⟩ := Option.bind_eq_some_iff.mp e
    cases e
    cases al
    cases o with
    | lst xs =>
      have ow : DpAll K S xs es := ow
      rw [← DpAll.length ow] at e2
      obtain ⟨v, g1, g2⟩ := DpAll.get ow e2
      exact ⟨a, xs, v, rfl, rfl, ho, g1, q v (.lst xs.dropLast) (dropLast_dp ow) (.of g2)⟩
    | _ => exact False.elim ow
  · cases e
theorem list_extendW (l : Addr) (items : Array Value) (n : Nat) (b : Addr) (items2 : Array Value) (n2 : Nat) (dd2 : Option Addr) (sl2 : Array (Option Value)) (hc0 : ¬(!items.isEmpty && Builtin.List.listTooLong (items.size + items2.size)) = true) (hc1 : items.size ≤ sizeLine) (hs2 : items.size + items2.size ≤ sizeLine + 1) :
    Meets (Builtin.«list.extend» ⟨[.ref l, .ref b], []⟩) (fun _ R s => s.heap.get? l = some { cls := .type "list", dict := none, data := .seq items n, slots := #[] } ∧ s.heap.get? b = some { cls := .type "list", dict := dd2, data := .seq items2 n2, slots := sl2 } ∧ R (.ok (.ret Value.none)) { s with heap := s.heap.update l (Obj.mapSeq fun x => x ++ items2), toks := s.toks }) :=
  .of_wp fun prog w A R s h => by
    obtain ⟨hp, g, d, tk, os⟩ := s; obtain ⟨hl, hb, h⟩ := h; have f1 := AutoSeq1.idx_int; have f2 := AutoSeq1.sub_tuple_tuple; have f3 := AutoSeq1.sub_list_list; have f4 := AutoSeq1.sub_tuple_list; have f5 := AutoSeq1.sub_list_tuple;
    have hz' : (items ++ items2).size ≤ sizeLine + 1 := by rw [Array.size_append]; exact hs2
    wp_walk using (wpAny_updateSeq hl rfl (hz := hc1) (_hz' := hz')), wpAny_loadPart' hl, wpAny_loadPart' hb; exact ⟨_, rfl, h⟩
def rExtendW (K : Frag') : V → List V → Hp → VK → Prop := fun x vs H Q => ∃ l b xs zs, x = .ref l ∧ vs = [.ref b] ∧ H l = some (.lst xs) ∧ SqL K H b zs ∧ xs.length + zs.length ≤ sizeLine ∧ Q .non (upd H l (.lst (xs ++ zs)))
theorem mt_extendW {X : Cx} : MtR X "list.extend" (rExtendW X.K) := by
  intro pins s σ H x vs v us Q I rx rv h
  obtain ⟨l, b, xs, zs, rfl, rfl, hH, hB, hz, q⟩ := h
  cases rx
  obtain ⟨u, rfl, ru⟩ := rv.one
  cases ru
  obtain ⟨z, its, n, r, hl, e⟩ := I.lstM hH
  obtain ⟨its2, r2, ⟨⟨cls2, dd2, data2, sl2⟩, n2, ho2, hc2, hd2, hs2⟩, z2⟩ := I.list hB
  simp only at hc2 hs2
  subst hc2 hs2
  have hl2 := r2.length
  have hsz : its.toArray.size + its2.toArray.size ≤ sizeLine := by rw [List.size_toArray, List.size_toArray]; omega
  have hlong : ¬ (!its.toArray.isEmpty && Builtin.List.listTooLong (its.toArray.size + its2.toArray.size)) = true := by
    rw [notLongL hsz, Bool.and_false]
    exact Bool.false_ne_true
  refine call_meets F.slot_list_extend ⟨_, e, rfl⟩ F.entry_list_extend (F.args_list_extend_2 _ _)
    (list_extendW l its.toArray n b its2.toArray n2 dd2 sl2 hlong (by rw [List.size_toArray]; omega) (by omega)) ⟨e, ho2, ?_⟩
  refine ⟨.non, _, I.lset (its' := its ++ its2) hH e (by simp) (r.append r2) ?_, rfl, q⟩
  rw [List.length_append]
  omega
def extendD : D → List D → Option (D × D)
  | .list ds, [.list es] => if ds.length + es.length ≤ sizeLine then some (.none, .list (ds ++ es)) else none
  | _, _ => none
theorem extend_ok : MtOk K (rExtendW K) extendD := fun S H a o d vs ds res d' Q s ho hS ow al e q => by
  unfold extendD at e
  split at e
  · rename_i es fs
    split at e
    · rename_i hc
      cases e
      cases al with
      | cons h t =>
        cases t
        cases o with
        | lst xs =>
          have ow : DpAll K S xs es := ow
          obtain ⟨b, zs, rfl, g1, g2⟩ := h.lst s
          exact ⟨a, b, xs, zs, rfl, rfl, ho, g1, by rw [DpAll.length ow, DpAll.length g2]; exact hc, q .non (.lst (xs ++ zs)) (DpAll.append ow g2) (.of .non)⟩
        | _ => exact False.elim ow
    · cases e
  · cases e
/-- xs.index(y): the first place of an equal one -/
def firstEq (d : D) : List D → Option Nat
  | [] => none
  | z :: zs => if PyData.eqv z d = true then some 0 else (firstEq d zs).map (· + 1)
theorem firstEq_some {d : D} : ∀ {ds : List D} {j : Nat}, firstEq d ds = some j → ∃ z, ds[j]? = some z ∧ PyData.eqv z d = true ∧ ∀ (m : Nat) (z' : PyData), m < j → ds[m]? = some z' → PyData.eqv z' d = false
  | [], j, h => by cases h
  | z :: zs, j, h => by
    unfold firstEq at h
    split at h
    · rename_i hz
      cases h
      exact ⟨z, rfl, hz, fun m z' hm _ => absurd hm (Nat.not_lt_zero _)⟩
    · rename_i hz
      obtain ⟨k, h1, h2⟩ := Option.map_eq_some_iff.mp h
      subst h2
      obtain ⟨y, g1, g2, g3⟩ := firstEq_some h1
      refine ⟨y, by simpa using g1, g2, fun m z' hm hz' => ?_⟩
      cases m with
      | zero =>
        cases hz'
        simpa using hz
      | succ m => exact g3 m z' (by omega) (by simpa using hz')
def indexD : List D → Option D
  | [.list ds, d] => if (noDict d && shp d && shp (.list ds)) = true then (firstEq d ds).map fun j => .int (j : Nat) else none
  | _ => none
theorem index_ok : OpOk K (lm (rIndexD K)) indexD := opOk_flat fun S H vs ds d Q s al e q => by
  unfold indexD at e
  split at e
  · rename_i es b
    split at e
    · rename_i hc
      simp only [Bool.and_eq_true] at hc
      obtain ⟨j, e1, e2⟩ := Option.map_eq_some_iff.mp e
      subst e2
      cases al with
      | cons h t =>
        cases t with
        | cons h2 t =>
          cases t
          obtain ⟨z, g1, g2, g3⟩ := firstEq_some e1
          have hl := h.dp s rfl
          cases hl with
          | lst k1 k2 => exact ⟨_, _, b, es, j, z, rfl, rfl, .lst k1 k2, h2.dp s hc.1.1, hc.2, hc.1.2, g1, g2, g3, q _ (.of (.int _))⟩
    · cases e
  · cases e
end
/-- the kind of a list -/
theorem isLst_ty {K : Frag'} (S H : Hp) (v : V) (d : D) (s : Same S H) (h : At K S H v d) (n : isLst d = true) : tyV K "list" v H := by
  cases d <;> cases n
  obtain ⟨a, xs, rfl, g1, _⟩ := h.lst s
  exact .inl ⟨rfl, xs, g1⟩

/-! ### stores by a place in a list that a slot owns; += -/
def setD (d : D) (ix v : D) : Option D := match d, ix with
  | .list ds, .int k => if noDict v = true then (ixN ds.length k).map fun j => .list (ds.set j v) else none
  | _, _ => none
theorem setD_some {d k v d' : D} (h : setD d k v = some d') : ∃ ds j j', d = .list ds ∧ k = .int j ∧ noDict v = true ∧ ixN ds.length j = some j' ∧ d' = .list (ds.set j' v) := by
  unfold setD at h
  split at h
  · split at h
    · rename_i hn
      obtain ⟨j', k1, k2⟩ := Option.map_eq_some_iff.mp h
      exact ⟨_, _, j', rfl, rfl, hn, k1, k2.symm⟩
    · cases h
  · cases h
def mStore (i : Nat) (mi mv : ME) : MS := fun ρ => (mv ρ).bind fun v => (look v.2 i).bind fun _ => (mi v.2).bind fun k => match k.2[i]? with
  | some (some (.ow d)) => (setD d k.1 v.1).bind fun d' => some (.nx (k.2.set i (some (.ow d'))))
  | _ => none
section
variable {X : Cx} {C : Ct} {o ie e : Expr} {pos tpos : Pos} {i : Nat}
theorem s_store {mi mv : ME} (ho : PE X o (tVar i)) (hi : PE X ie (rdE X.K C mi)) (hv : PE X e (rdE X.K C mv))
    (ha : ∀ v, assign (.Subscript o ie tpos) X.env v = (do
      let ov ← holding [v] (eval o X.env)
      let iv ← holding [v, ov] (eval ie X.env)
      standAt tpos
      holding [v, ov, iv] (setItem ov iv v)
      release [v, ov, iv] []) := by intro _; rfl)
    (hs : swapsWithSole [.Subscript o ie tpos] e pos.line X.env = pure false := by rfl) (hw : swappedStores [.Subscript o ie tpos] e X.env = pure none := by rfl)
    (h1 : (assignEach [.Subscript o ie tpos] X.env).map (·.2) = [assign (.Subscript o ie tpos) X.env] := by rfl) : PS X (.Assign [.Subscript o ie tpos] e pos) (rdS X.K C (mStore i mi mv)) := PS.imp (ps_asg hv (pg_sub ho hi set_list ha) hs hw h1) fun Dn σ H q => by
  obtain ⟨S, ρ, hid, R, out, e, q⟩ := q
  obtain ⟨⟨v, ρ1⟩, h1, e⟩ := Option.bind_eq_some_iff.mp e
  obtain ⟨d0, h0, e⟩ := Option.bind_eq_some_iff.mp e
  obtain ⟨⟨k, ρ2⟩, h2, e⟩ := Option.bind_eq_some_iff.mp e
  split at e
  · rename_i d hd
    obtain ⟨d', h3, e⟩ := Option.bind_eq_some_iff.mp e
    cases e
    refine ⟨S, ρ, hid, R, v, ρ1, h1, fun S1 x H1 s1 R1 r1 => ?_⟩
    obtain ⟨v0, g0, _⟩ := R1.look h0
    refine ⟨v0, g0, S1, ρ1, hid, R1, k, ρ2, h2, fun S2 y H2 s2 R2 r2 => ?_⟩
    obtain ⟨a, o, g1, g2, g3, g4, g5⟩ := R2.write hd
    rw [g0] at g1
    cases g1
    have h3 : setD d k v = some d' := h3
    obtain ⟨ds, j, j', rfl, rfl, hn, k1, rfl⟩ := setD_some h3
    cases r2
    cases o with
    | lst xs =>
      have g4 : DpAll X.K S2 xs ds := g4
      exact ⟨a, xs, _, j', rfl, rfl, g2, by rw [DpAll.length g4]; exact k1, q S2 _ _ (s1.trans s2) (g5 (.lst (xs.set j' x)) (.list (ds.set j' v)) (DpAll.set ((r1.same s2).dp hn) _ g4))⟩
    | _ => exact False.elim g4
  · cases e
/-- name += e, an int -/
def augD (f : Int → Int → Int) : D → D → Option D
  | .int a, .int b => some (.int (f a b))
  | _, _ => none
theorem augD_some {f : Int → Int → Int} {a b d : D} (h : augD f a b = some d) : ∃ i j, a = .int i ∧ b = .int j ∧ d = .int (f i j) := by
  unfold augD at h
  split at h
  · cases h
    exact ⟨_, _, rfl, rfl, rfl⟩
  · cases h
def mAug (i : Nat) (f : Int → Int → Int) (m : ME) : MS := fun ρ => (mN i ρ).bind fun x => (m ρ).bind fun y => (augD f x.1 y.1).bind fun d => some (.nx (y.2.set i (some (.st d))))
theorem s_aug {x : Str} {op : Operator} {f : Int → Int → Int} {m : ME} {pos' : Pos} (hN : X.N.Nodup) (hi : X.N[i]? = some x) (hx : Loc X.env.scope x) (hio : i ∉ C.ioS) (h : PE X e (rdE X.K C m)) (hp : PIp X op (ipI f)) (hf : X.fn x = true ∨ X.env.scope.names.lookup x = some .local := by first | exact .inl rfl | exact .inr rfl | assumption) :
    PS X (.AugAssign (.Name x pos') op e pos) (rdS X.K C (mAug i f m)) := PS.imp (ps_aug hN hi hx h hp hf) fun Dn σ H q => by
  obtain ⟨S, ρ, hid, R, out, e, q⟩ := q
  obtain ⟨⟨d1, ρ1⟩, h1, e⟩ := Option.bind_eq_some_iff.mp e
  obtain ⟨⟨d2, ρ2⟩, h2, e⟩ := Option.bind_eq_some_iff.mp e
  obtain ⟨d3, h3, e⟩ := Option.bind_eq_some_iff.mp e
  cases e
  obtain ⟨e1, rfl⟩ := mN_some h1
  obtain ⟨i1, j1, rfl, rfl, rfl⟩ := augD_some h3
  obtain ⟨G, R'⟩ := id R
  obtain ⟨v, g1, g2⟩ := R'.slot i _ e1
  cases g2
  refine ⟨_, g1, S, _, hid, R, _, ρ2, h2, fun S1 y H1 s1 R1 r1 => ?_⟩
  cases r1
  exact ⟨_, _, rfl, rfl, q S1 _ H1 s1 (R1.setSt (.of (.int _)) hio)⟩
end
end VS

set_option Elab.async false
set_option linter.all false
namespace VS
open PySem PySem.Spec PyProof.Rows L2
/-- more turns than any loop takes -/
def FUEL : Nat := 2 ^ 60
theorem nio {C : Ct} {ios : List Nat} {i : Nat} (h : C.ioS = ios) (n : i ∉ ios) : i ∉ C.ioS := by rw [h]; exact n
theorem nioA {C : Ct} {ios : List Nat} {as : List Arg} (h : C.ioS = ios) (n : ∀ j ∈ stJ as, j ∉ ios) : ∀ j ∈ stJ as, j ∉ C.ioS := by rw [h]; exact n
theorem nioL {C : Ct} {ios : List Nat} {vs : List Nat} (h : C.ioS = ios) (n : ∀ v ∈ vs, v ∉ ios) : ∀ v ∈ vs, v ∉ C.ioS := by rw [h]; exact n
theorem un65 {k : Nat} {A : Around} (hr : Room k A) : A.units + 65 < cLine := by
  have := hr.un
  omega
theorem dp_ints {K : Frag'} {H : Hp} : ∀ ns : List Int, DpAll K H (ns.map V.int) (ns.map PyData.int)
  | [] => .nil
  | n :: ns => .cons (.int n) (dp_ints ns)
/-- the law's promise, from what its plain function gives -/
theorem end_sp {F : List D → Option (D × List D)} (h : ∀ ns : List Int, ns.length ≤ 63 → F [.list (ns.map .int)] = some (.bool true, [])) (K : Frag') (H : Hp) (a : Addr) (ns : List Int) (hl : ns.length ≤ 63) (hs : SqL K H a (ns.map V.int)) :
    spF K 1 [] false F [.ref a] H (fun v _ => v = .bl true) (fun _ _ _ => False) := by
  refine ⟨H, [.list (ns.map .int)], .bool true, [], [], Same.refl H, rfl, rfl, rfl, ⟨.nil, fun p hp => nomatch hp⟩, fun i d _ hd => ?_, h ns hl, fun S' v H' _ hv => ?_⟩
  · cases i with
    | zero =>
      cases hd
      exact ⟨.ref a, rfl, .of (.lst hs (dp_ints ns))⟩
    | succ i => cases hd
  · rw [if_neg Bool.false_ne_true] at hv
    cases hv
    rfl
end VS

set_option Elab.async false
set_option linter.all false
set_option maxRecDepth 100000
/-! VsR: sorted of lists of alike values. -/
namespace VS
open PySem PySem.Spec PyProof.Rows L2

def rSortV (K : Frag') : List V → Hp → VK → Prop := fun vs H Q => ∃ (a : Addr) (bs : List (V × D)), vs = [V.ref a] ∧ SqL K H a (bs.map (·.1)) ∧ (∀ b ∈ bs, Dp K H b.1 b.2) ∧
  PySem.W.AllAlike (bs.map (·.2)) ∧ PySem.W.Sortable (bs.map (·.2)) ∧ (∀ b ∈ bs, b.2.depth ≤ 60) ∧
  ∀ p, H p = none → Q (.ref p) (upd H p (.lst ((bs.mergeSort (PySem.W.dataLe false (·.2))).map (·.1))))
theorem each_of {R : Value → V × D → Prop} : ∀ {us : List Value} {bs : List (V × D)}, Vals (bs.map (·.1)) us → (∀ u, ∀ b ∈ bs, RelV b.1 u → R u b) → PySem.W.EachIs R us bs
  | [], [], _, _ => .nil
  | u :: us, [], r, _ => by cases r
  | [], b :: bs, r, _ => by cases r
  | u :: us, b :: bs, r, h => by
    cases r with
    | cons r1 r2 => exact .cons (h u b List.mem_cons_self r1) (each_of r2 fun u b hb => h u b (List.mem_cons_of_mem _ hb))
theorem vals_of {us : List Value} {bs : List (V × D)} (h : PySem.W.EachIs (fun u (b : V × D) => RelV b.1 u) us bs) : Vals (bs.map (·.1)) us := by
  induction h with
  | nil => exact .nil
  | cons h _ ih => exact .cons h ih
theorem cr_sortV {X : Cx} (hu : X.A.units + 65 < cLine) : CallR X (.builtin "sorted") (rSortV X.K) := by
  intro pins s σ H vs us Q I r h
  obtain ⟨a, bs, rfl, hs, hd, hal, hk, hdp, q⟩ := h
  obtain ⟨its, rv, hl, hz⟩ := I.list hs
  obtain ⟨u, rfl, ru⟩ := vals1 r
  obtain rfl : u = Value.ref a := ru
  rw [List.length_map] at hz
  refine PySem.W.sorted_data (R := fun u (b : V × D) => RelV b.1 u) (enc := (·.2)) (bs := bs) hl.isList (each_of rv fun u b _ h => h) (each_of rv fun u b hb h => Dp.reads I b.2 b.1 u (hd b hb) h) hal hk hz (fun b hb => ?_) fun out ho eo => ?_
  · have := hdp b hb
    omega
  · obtain ⟨n, hn⟩ := sortedAll_at s.heap its (List.toArray out)
    have hp : s.heap.objs.size ≤ s.heap.objs.size + 1 := Nat.le_succ _
    refine ⟨.ref (s.heap.objs.size + 1), upd H (s.heap.objs.size + 1) (.lst ((bs.mergeSort (PySem.W.dataLe false (·.2))).map (·.1))), I.laid (t' := s.toks) (fun b o e => sortedAll_old e) hp ⟨?_, out, n, vals_of eo, hn⟩, rfl, q _ (I.hok.fresh hp)⟩
    rw [List.length_map, List.length_mergeSort]
    exact hz
open Classical in
noncomputable def sortD : List D → Option D
  | [.list ds] => if PySem.W.AllAlike ds ∧ PySem.W.Sortable ds ∧ ∀ d ∈ ds, d.depth ≤ 60 then some (.list (ds.mergeSort (PySem.W.dataLe false id))) else none
  | _ => none
theorem dpAll_zip {K : Frag'} {S : Hp} : ∀ {xs : List V} {ds : List D}, DpAll K S xs ds → ∃ bs : List (V × D), bs.map (·.1) = xs ∧ bs.map (·.2) = ds ∧ ∀ b ∈ bs, Dp K S b.1 b.2
  | _, _, .nil => ⟨[], rfl, rfl, nofun⟩
  | _, _, .cons (v := v) (d := d) h r => by
    obtain ⟨bs, e1, e2, e3⟩ := dpAll_zip r
    refine ⟨(v, d) :: bs, by rw [List.map_cons, e1], by rw [List.map_cons, e2], fun b hb => ?_⟩
    rcases List.mem_cons.mp hb with rfl | hb
    · exact h
    · exact e3 b hb
theorem dpAll_of {K : Frag'} {S : Hp} : ∀ {bs : List (V × D)}, (∀ b ∈ bs, Dp K S b.1 b.2) → DpAll K S (bs.map (·.1)) (bs.map (·.2))
  | [], _ => .nil
  | b :: bs, h => .cons (h b List.mem_cons_self) (dpAll_of fun c hc => h c (List.mem_cons_of_mem _ hc))
theorem sort_fr {K : Frag'} : OpFr K (rSortV K) sortD := fun C S σ H ρ hid vs ds d Q R al e q => by
  unfold sortD at e
  split at e
  · rename_i ds
    split at e
    · rename_i hc
      cases e
      obtain ⟨c1, c2, c3⟩ := hc
      cases al with
      | cons h t =>
        cases t
        obtain ⟨a, xs, rfl, g1, g2⟩ := h.lst R.sub
        obtain ⟨bs, rfl, rfl, e3⟩ := dpAll_zip g2
        refine ⟨a, bs, rfl, g1, fun b hb => Dp.same R.sub (e3 b hb), c1, c2, fun b hb => c3 _ (List.mem_map.mpr ⟨b, hb, rfl⟩), fun p hp => q S p _ (Same.refl S) ?_⟩
        have hm : (bs.mergeSort (PySem.W.dataLe false (·.2))).map (·.2) = (bs.map (·.2)).mergeSort (PySem.W.dataLe false id) := PySem.W.sort_maps (fun b : V × D => b.2) fun _ _ _ _ => rfl
        rw [← hm]
        exact R.fresh (o := .lst _) (d := .list _) hp (dpAll_of fun b hb => e3 b (List.mem_mergeSort.mp hb))
    · cases e
  · cases e
end VS

set_option Elab.async false
set_option linter.all false
set_option maxRecDepth 100000
/-! VsS: a op b op c. -/
namespace VS
open PySem PySem.Spec PyProof.Rows L2
def mChain (f g : List D → Option D) (a b c : ME) : ME := fun ρ => (a ρ).bind fun x => (b x.2).bind fun y => (f [x.1, y.1]).bind fun d => match d with
  | .bool true => (c y.2).bind fun z => (g [y.1, z.1]).bind fun d2 => some (d2, z.2)
  | .bool false => some (.bool false, y.2)
  | _ => none
section
variable {X : Cx} {C : Ct} {a b c : Expr} {pos : Pos}
theorem chain_ok {K : Frag'} {r r' : R2} {f g : List D → Option D} (hf : OpOk K (l2 r) f) (hg : OpOk K (l2 r') g) {ma mb mc : ME} {σ : L2.St} {H : Hp} {Q : VK} (q : rdE K C (mChain f g ma mb mc) σ H Q) :
    tChain r r' (rdE K C ma) (rdE K C mb) (rdE K C mc) σ H Q := by
  obtain ⟨S, ρ, hid, R, d, ρ', e, q⟩ := q
  obtain ⟨⟨x, ρ1⟩, h1, e⟩ := Option.bind_eq_some_iff.mp e
  obtain ⟨⟨y, ρ2⟩, h2, e⟩ := Option.bind_eq_some_iff.mp e
  obtain ⟨b, h3, e⟩ := Option.bind_eq_some_iff.mp e
  refine ⟨S, ρ, hid, R, x, ρ1, h1, fun S1 vx H1 s1 R1 r1 => ⟨S1, ρ1, hid, R1, y, ρ2, h2, fun S2 vy H2 s2 R2 r2 => ?_⟩⟩
  refine hf C S2 σ H2 ρ2 hid [vx, vy] [x, y] b _ R2 (.cons (.inl (r1.same s2)) (.cons (.inl r2) .nil)) h3 fun S3 v H3 s3 R3 r3 => ?_
  cases b with
  | bool k =>
    cases r3
    refine ⟨k, rfl, ?_⟩
    cases k with
    | true =>
      obtain ⟨⟨z, ρ3⟩, h4, e⟩ := Option.bind_eq_some_iff.mp e
      obtain ⟨d2, h5, e⟩ := Option.bind_eq_some_iff.mp e
      cases e
      refine ⟨S3, ρ2, hid, R3, z, ρ3, h4, fun S4 vz H4 s4 R4 r4 => ?_⟩
      exact hg C S4 σ H4 ρ3 hid [vy, vz] [y, z] d _ R4 (.cons (.inl (r2.same (s3.trans s4))) (.cons (.inl r4) .nil)) h5 fun S5 v5 H5 s5 R5 r5 => q S5 v5 H5 (s1.trans (s2.trans (s3.trans (s4.trans s5)))) R5 r5
    | false =>
      cases e
      exact q S3 (.bl false) H3 (s1.trans (s2.trans s3)) R3 (.of (.bl false))
  | _ => cases e
theorem e_chain {op op' : CmpOp} {r r' : R2} {f g : List D → Option D} {ma mb mc : ME} (ho : OpR X (compareOp op) r) (hf : OpOk X.K (l2 r) f) (ho' : OpR X (compareOp op') r') (hg : OpOk X.K (l2 r') g)
    (ha : PE X a (rdE X.K C ma)) (hb : PE X b (rdE X.K C mb)) (hc : PE X c (rdE X.K C mc)) (hm : lastMarks [op, op'] [b, c] = false := by with_unfolding_all rfl) :
    PE X (.Compare a [op, op'] [b, c] pos) (rdE X.K C (mChain f g ma mb mc)) := PE.imp (pe_chain ho ho' ha hb hc hm) fun _ _ _ q => chain_ok hf hg q
theorem t_chain {op op' : CmpOp} {r r' : R2} {f g : List D → Option D} {ma mb mc : ME} (ho : OpR X (compareOp op) r) (hf : OpOk X.K (l2 r) f) (ho' : OpR X (compareOp op') r') (hg : OpOk X.K (l2 r') g)
    (ha : PE X a (rdE X.K C ma)) (hb : PE X b (rdE X.K C mb)) (hc : PE X c (rdE X.K C mc)) (hm : lastMarks [op, op'] [b, c] = false := by with_unfolding_all rfl) :
    PT X (.Compare a [op, op'] [b, c] pos) (rdT X.K C (mTest (mChain f g ma mb mc))) := PT.imp (pt_chain ho ho' ha hb hc hm) fun σ H Q q => by
  obtain ⟨S, ρ, hid, R, k, ρ', e, q⟩ := q
  refine chain_ok hf hg ⟨S, ρ, hid, R, .bool k, ρ', mTest_some e, fun S' v H' s R' r => ?_⟩
  cases r
  exact ⟨k, rfl, q S' H' s R'⟩
end

/-! ### list and tuple of a range -/
def mRg1 (mk : List D → D) (m : ME) : ME := fun ρ => (m ρ).bind fun p => match p.1 with
  | .int n => if 0 ≤ n ∧ n ≤ 16777216 then some (mk (rngD 0 n.toNat), p.2) else none
  | _ => none
theorem mRg1_some {mk : List D → D} {m : ME} {ρ ρ' : Env'} {d : D} (h : mRg1 mk m ρ = some (d, ρ')) : ∃ n : Int, m ρ = some (.int n, ρ') ∧ 0 ≤ n ∧ n ≤ 16777216 ∧ d = mk (rngD 0 n.toNat) := by
  obtain ⟨⟨d0, ρ0⟩, h1, h⟩ := Option.bind_eq_some_iff.mp h
  cases d0 with
  | int n =>
    have h : (if 0 ≤ n ∧ n ≤ 16777216 then some (mk (rngD 0 n.toNat), ρ0) else none) = some (d, ρ') := h
    by_cases c : 0 ≤ n ∧ n ≤ 16777216
    · rw [if_pos c] at h
      cases h
      exact ⟨n, h1, c.1, c.2, rfl⟩
    · rw [if_neg c] at h
      cases h
  | _ => cases h
theorem dp_rg {K : Frag'} {S : Hp} {n : Int} : DpAll K S (rgV 0 n) (rngD 0 n.toNat) := by
  unfold rgV rngD
  rw [Int.sub_zero]
  generalize List.range n.toNat = l
  induction l with
  | nil => exact .nil
  | cons x l ih => exact .cons (.int _) ih
section
variable {X : Cx} {C : Ct} {a : Expr} {p p2 pos pos2 : Pos}
theorem f_listRg1 {m : ME} (hc : X.calm = true) (hg : Gl X "list") (hm : X.mg "list" = none) (hg2 : Gl X "range") (hm2 : X.mg "range" = none) (ha : PE X a (rdE X.K C m))
    (na : starEach [.Call (.Name "range" p2) [a] [] pos2] X.env = (false, eval (.Call (.Name "range" p2) [a] [] pos2) X.env) :: starEach [] X.env := by rfl) (na2 : starEach [a] X.env = (false, eval a X.env) :: starEach [] X.env := by rfl) :
    PE X (.Call (.Name "list" p) [.Call (.Name "range" p2) [a] [] pos2] [] pos) (rdF X.K C (mRg1 .list m)) := PE.imp (pe_listRg hc hg hm (prg_1 hg2 hm2 ha na2) na) fun σ H Q q => by
  obtain ⟨S, ρ, hid, R, d, ρ', e, q⟩ := q
  obtain ⟨n, h1, h2, h3, rfl⟩ := mRg1_some e
  refine ⟨S, ρ, hid, R, _, ρ', h1, fun S' v H' s R' r => ?_⟩
  cases r
  exact ⟨n, rfl, RgOk.of_le (by omega) h3 (by omega) h2, fun p hp => q S' p _ s (R'.fresh (o := .lst _) (d := .list _) hp dp_rg)⟩
theorem e_tupRg1 {m : ME} (hc : X.calm = true) (hg : Gl X "tuple") (hm : X.mg "tuple" = none) (hg2 : Gl X "range") (hm2 : X.mg "range" = none) (ha : PE X a (rdE X.K C m))
    (na : starEach [.Call (.Name "range" p2) [a] [] pos2] X.env = (false, eval (.Call (.Name "range" p2) [a] [] pos2) X.env) :: starEach [] X.env := by rfl) (na2 : starEach [a] X.env = (false, eval a X.env) :: starEach [] X.env := by rfl) :
    PE X (.Call (.Name "tuple" p) [.Call (.Name "range" p2) [a] [] pos2] [] pos) (rdE X.K C (mRg1 .tuple m)) := PE.imp (pe_tupRg hc hg hm (prg_1 hg2 hm2 ha na2) na) fun σ H Q q => by
  obtain ⟨S, ρ, hid, R, d, ρ', e, q⟩ := q
  obtain ⟨n, h1, h2, h3, rfl⟩ := mRg1_some e
  refine ⟨S, ρ, hid, R, _, ρ', h1, fun S' v H' s R' r => ?_⟩
  cases r
  refine ⟨n, rfl, RgOk.of_le (by omega) h3 (by omega) h2, fun p hp => ?_⟩
  have sS := same_upd (o := .tup (rgV 0 n)) (R'.sub.free hp)
  exact q _ (.ref p) _ (s.trans sS) (R'.still hp) (.of (.tup (.inl (.inl upd_same)) (DpAll.same sS dp_rg)))
end
/-! ### str of an int -/
def strD : List D → Option D
  | [.int i] => if i.natAbs.log2 < 1920 then some (.str (toString i)) else none
  | _ => none
theorem str_ok {K : Frag'} : OpOk K (fun xs H Q => ∃ i, xs = [V.int i] ∧ i.natAbs.log2 < 1920 ∧ Q (V.str (toString i)) H) strD := opOk_flat fun S H vs ds d Q s al e q => by
  unfold strD at e
  split at e
  · rename_i i
    split at e
    · rename_i hc
      cases e
      cases al with
      | cons h t =>
        cases t
        exact ⟨i, by rw [h.int], hc, q _ (.of (.str _))⟩
    · cases e
  · cases e

/-! ### two clauses -/
theorem f_lc2 {X : Cx} {C : Ct} {pos : Pos} {elt tg iter tg1 iter1 : Expr} {ifs ifs1 : List Expr} {scope : Scope} {own : List (Str × Nat)} {own1 : List Nat} {t t1 : Tgt} {mi mi1 : MI} {tt tt1 : MT} {me : ME} (hc : X.calm = true) (hN : X.N.Nodup) (hi : PI X tg iter (rdI X.K C mi))
    (ok : BlkOk X.N X.env.scope scope own) (ht : ∀ i ∈ tgtI t, i ∈ own.map (·.2)) (ht1 : ∀ i ∈ tgtI t1, i ∈ own1) (h11 : ∀ i ∈ own1, i ∈ own.map (·.2)) (hio : ∀ v ∈ own.map (·.2), v ∉ C.ioS)
    (hg : ∀ (s : Shared) (H : Hp) (Ca : Addr) (cl : List (Str × Addr)) (fp : List Addr), PG (X.blk s H scope (compEnvC scope cl Ca X.env) fp) tg (rdG X.K C t)) (htt : ∀ (s : Shared) (H : Hp) (Ca : Addr) (cl : List (Str × Addr)) (fp : List Addr), PTs (X.blk s H scope (compEnvC scope cl Ca X.env) fp) ifs (rdT X.K C tt))
    (he : ∀ (s : Shared) (H : Hp) (Ca : Addr) (cl : List (Str × Addr)) (fp : List Addr), PE (X.blk s H scope (compEnvC scope cl Ca X.env) fp) elt (rdE X.K C me)) (hi1 : ∀ (s : Shared) (H : Hp) (Ca : Addr) (cl : List (Str × Addr)) (fp : List Addr), PI (X.blk s H scope (compEnvC scope cl Ca X.env) fp) tg1 iter1 (rdI X.K C mi1))
    (hg1 : ∀ (s : Shared) (H : Hp) (Ca : Addr) (cl : List (Str × Addr)) (fp : List Addr), PG (X.blk s H scope (compEnvC scope cl Ca X.env) fp) tg1 (rdG X.K C t1)) (htt1 : ∀ (s : Shared) (H : Hp) (Ca : Addr) (cl : List (Str × Addr)) (fp : List Addr), PTs (X.blk s H scope (compEnvC scope cl Ca X.env) fp) ifs1 (rdT X.K C tt1))
    (hs : ∀ x, foldedSetIterable iter X.env x = pure x := by intro _; rfl) (hs1 : ∀ env x, foldedSetIterable iter1 env x = pure x := by intro _ _; rfl) :
    PE X (.ListComp elt [⟨tg, iter, ifs, 0⟩, ⟨tg1, iter1, ifs1, 0⟩] scope pos) (rdF X.K C (mComp2 (own.map (·.2)) t mi tt own1 t1 mi1 tt1 me)) :=
  PE.imp (pe_lc2 hc hN hi ok h11 hg htt hi1 hg1 htt1 he hs hs1) fun σ H Q q => lc2_ok ht ht1 h11 hio q
end VS

set_option Elab.async false
set_option linter.all false
set_option maxRecDepth 100000
/-! VsT: dicts whose keys are ints and texts, by name. -/
namespace VS
open PySem PySem.Spec PyProof.Rows L2

def keyD : D → Option Key
  | .int i => some (.inl i)
  | .str x => some (.inr x)
  | _ => none
theorem keyD_some {d : D} {k : Key} (h : keyD d = some k) : d = kD k := by
  cases d <;> cases h <;> rfl
theorem keyD_kD {k : Key} : keyD (kD k) = some k := by cases k <;> rfl
def dgetD (kvs : List (D × D)) (k : Key) : Option D := (kvs.find? fun p => decide (keyD p.1 = some k)).map (·.2)
def dputD (kvs : List (D × D)) (k : Key) (v : D) : List (D × D) :=
  if (kvs.any fun p => decide (keyD p.1 = some k)) = true then kvs.map (fun p => if keyD p.1 = some k then (p.1, v) else p) else kvs ++ [(kD k, v)]
abbrev DK (K : Frag') (S : Hp) : List (Key × V) → List (D × D) → Prop := Paired fun (p : Key × V) (q : D × D) => kD p.1 = q.1 ∧ Dp K S p.2 q.2
theorem At.dct {K : Frag'} {S H : Hp} {v : V} {kvs : List (D × D)} (h : At K S H v (.dict kvs)) (s : Same S H) : ∃ a ps, v = .ref a ∧ H a = some (.dK ps) ∧ DK K S ps kvs := by
  rcases h with ⟨a, o, e1, e2, e3⟩ | ⟨a, e1, _, o, e2, e3⟩
  · cases o with
    | dK ps => exact ⟨a, ps, e1, s _ _ e2, e3⟩
    | _ => exact False.elim e3
  · cases o with
    | dK ps => exact ⟨a, ps, e1, e2, e3⟩
    | lst xs => cases e3
    | _ => exact False.elim e3
theorem dget_some {K : Frag'} {S : Hp} {k : Key} {d : D} : ∀ {ps : List (Key × V)} {kvs : List (D × D)}, DK K S ps kvs → dgetD kvs k = some d → ∃ v, valV ps k = some v ∧ Dp K S v d
  | _, _, .nil, h => by cases h
  | _, _, .cons (a := p) (b := q) (l₁ := ps) (l₂ := kvs) h r, e => by
    obtain ⟨h1, h2⟩ := h
    by_cases c : p.1 = k
    · have c2 : keyD q.1 = some k := by rw [← h1, c, keyD_kD]
      have : dgetD (q :: kvs) k = some q.2 := by unfold dgetD; rw [List.find?_cons_of_pos (by simpa using c2)]; rfl
      rw [this] at e
      cases e
      exact ⟨p.2, valV_pos c, h2⟩
    · have c2 : ¬ keyD q.1 = some k := by
        rw [← h1, keyD_kD]
        exact fun z => c (Option.some.inj z)
      have : dgetD (q :: kvs) k = dgetD kvs k := by unfold dgetD; rw [List.find?_cons_of_neg (by simpa using c2)]
      rw [this] at e
      rw [valV_neg c]
      exact dget_some r e
theorem dget_none {K : Frag'} {S : Hp} {k : Key} : ∀ {ps : List (Key × V)} {kvs : List (D × D)}, DK K S ps kvs → dgetD kvs k = none → valV ps k = none
  | _, _, .nil, h => rfl
  | _, _, .cons (a := p) (b := q) (l₁ := ps) (l₂ := kvs) h r, e => by
    obtain ⟨h1, h2⟩ := h
    by_cases c : p.1 = k
    · have c2 : keyD q.1 = some k := by rw [← h1, c, keyD_kD]
      have : dgetD (q :: kvs) k = some q.2 := by unfold dgetD; rw [List.find?_cons_of_pos (by simpa using c2)]; rfl
      rw [this] at e
      cases e
    · have c2 : ¬ keyD q.1 = some k := by
        rw [← h1, keyD_kD]
        exact fun z => c (Option.some.inj z)
      have : dgetD (q :: kvs) k = dgetD kvs k := by unfold dgetD; rw [List.find?_cons_of_neg (by simpa using c2)]
      rw [this] at e
      rw [valV_neg c]
      exact dget_none r e

/-! ### d[k], d.get(k, x), {} -/
def mGet (i : Nat) (m : ME) : ME := fun ρ => (look ρ i).bind fun _ => (m ρ).bind fun p => match look p.2 i with
  | some (.dict kvs) => (keyD p.1).bind fun k => (dgetD kvs k).bind fun d => some (d, p.2)
  | _ => none
theorem mGet_some {i : Nat} {m : ME} {ρ ρ' : Env'} {d : D} (h : mGet i m ρ = some (d, ρ')) : ∃ d0 k kvs, look ρ i = some d0 ∧ m ρ = some (kD k, ρ') ∧ look ρ' i = some (.dict kvs) ∧ dgetD kvs k = some d := by
  obtain ⟨d0, h0, h⟩ := Option.bind_eq_some_iff.mp h
  obtain ⟨⟨d1, ρ1⟩, h1, h⟩ := Option.bind_eq_some_iff.mp h
  split at h
  · rename_i kvs e
    obtain ⟨k, h2, h⟩ := Option.bind_eq_some_iff.mp h
    obtain ⟨d2, h3, h⟩ := Option.bind_eq_some_iff.mp h
    cases h
    have hk : d1 = kD k := keyD_some h2
    subst hk
    exact ⟨d0, k, kvs, h0, h1, e, h3⟩
  · cases h
theorem kD_kV {K : Frag'} {S : Hp} {v : V} {k : Key} (h : Rp K S v (kD k)) : v = kV k := by
  cases k with
  | inl i => cases h; rfl
  | inr x => cases h; rfl
section
variable {X : Cx} {C : Ct} {o e f : Expr} {pos apos cpos : Pos}
theorem e_dget {i : Nat} {m : ME} (hu : X.A.units + 65 < cLine) (ho : PE X o (tVar i)) (he : PE X e (rdE X.K C m)) (hs : NoSl e) : PE X (.Subscript o e pos) (rdE X.K C (mGet i m)) := PE.imp (pe_dget (by omega) ho he hs) fun σ H Q q => by
  obtain ⟨S, ρ, hid, R, d, ρ', e, q⟩ := q
  obtain ⟨d0, k, kvs, h0, h1, h2, h3⟩ := mGet_some e
  obtain ⟨v0, g0, _⟩ := R.look h0
  refine ⟨v0, g0, S, ρ, hid, R, kD k, ρ', h1, fun S' y H' s R' r => ?_⟩
  obtain ⟨v1, g1, at1⟩ := R'.look h2
  rw [g0] at g1
  cases g1
  obtain ⟨a, ps, rfl, hH, dk⟩ := at1.dct R'.sub
  obtain ⟨v, e1, e2⟩ := dget_some dk h3
  rw [kD_kV r]
  exact ⟨a, v, rfl, .inl ⟨ps, k, .of hH, rfl, e1.symm⟩, q S' v H' s R' (.of e2)⟩
def mGet2 (i : Nat) (m n : ME) : ME := fun ρ => match look ρ i with
  | some (.dict _) => (m ρ).bind fun p => (n p.2).bind fun r => match look r.2 i with
    | some (.dict kvs) => (keyD p.1).bind fun k => if noDict r.1 = true then some ((dgetD kvs k).getD r.1, r.2) else none
    | _ => none
  | _ => none
theorem e_dget2 {i : Nat} {m n : ME} (hu : X.A.units + 65 < cLine) (ho : PE X o (tVar i)) (he : PE X e (rdE X.K C m)) (hf : PE X f (rdE X.K C n)) (hm : M2 X o "get" apos e f cpos) :
    PE X (.Call (.Attribute o "get" apos) [e, f] [] cpos) (rdE X.K C (mGet2 i m n)) := PE.imp (pe_dget2 (by omega) ho he hf hm) fun σ H Q q => by
  obtain ⟨S, ρ, hid, R, d, ρ', e, q⟩ := q
  unfold mGet2 at e
  split at e
  · rename_i kv0 h0
    obtain ⟨⟨dk, ρ1⟩, h1, e⟩ := Option.bind_eq_some_iff.mp e
    obtain ⟨⟨dx, ρ2⟩, h2, e⟩ := Option.bind_eq_some_iff.mp e
    split at e
    · rename_i kvs h3
      obtain ⟨k, h4, e⟩ := Option.bind_eq_some_iff.mp e
      split at e
      · rename_i hn
        cases e
        have h3 : look ρ2 i = some (.dict kvs) := h3
        have hn : noDict dx = true := hn
        have hk : dk = kD k := keyD_some h4
        subst hk
        obtain ⟨v0, g0, at0⟩ := R.look h0
        obtain ⟨a, ps0, rfl, hH0, _⟩ := at0.dct R.sub
        refine ⟨.ref a, g0, a, rfl, .inl ⟨ps0, .of hH0⟩, S, ρ, hid, R, kD k, ρ1, h1, fun S1 y H1 s1 R1 r1 => ⟨S1, ρ1, hid, R1, dx, ρ2, h2, fun S2 z H2 s2 R2 r2 => ?_⟩⟩
        obtain ⟨v1, g1, at1⟩ := R2.look h3
        rw [g0] at g1
        cases g1
        obtain ⟨a', ps, ea, hH, dk⟩ := at1.dct R2.sub
        cases ea
        rw [kD_kV r1]
        refine ⟨valV ps k, .inl ⟨ps, k, .of hH, rfl, rfl⟩, q S2 _ H2 (s1.trans s2) R2 ?_⟩
        cases hd : dgetD kvs k with
        | none =>
          rw [dget_none dk hd]
          exact r2
        | some d3 =>
          obtain ⟨v, e1, e2⟩ := dget_some dk hd
          rw [e1]
          exact .of e2
      · cases e
    · cases e
  · cases e
def mDict0 : ME := fun ρ => some (.dict [], ρ)
theorem f_dict0 : PE X (.Dict [] [] pos) (rdF X.K C mDict0) := PE.imp pe_dnewK fun σ H Q q => by
  obtain ⟨S, ρ, hid, R, d, ρ', e, q⟩ := q
  cases e
  exact fun p hp => q S p _ (Same.refl S) (R.fresh (o := .dK []) (d := .dict []) hp .nil)
end

/-! ### d[k] = v -/
theorem dk_any {K : Frag'} {S : Hp} {k : Key} : ∀ {ps : List (Key × V)} {kvs : List (D × D)}, DK K S ps kvs → (ps.any fun p => decide (p.1 = k)) = (kvs.any fun p => decide (keyD p.1 = some k))
  | _, _, .nil => rfl
  | _, _, .cons (a := p) (b := q) h r => by
    rw [List.any_cons, List.any_cons, dk_any r, ← h.1, keyD_kD]
    congr 1
    exact decide_eq_decide.mpr ⟨fun z => by rw [z], fun z => Option.some.inj z⟩
theorem dk_map {K : Frag'} {S : Hp} {k : Key} {v : V} {d : D} (hv : Dp K S v d) : ∀ {ps : List (Key × V)} {kvs : List (D × D)}, DK K S ps kvs → DK K S (ps.map fun p => if p.1 = k then (p.1, v) else p) (kvs.map fun p => if keyD p.1 = some k then (p.1, d) else p)
  | _, _, .nil => .nil
  | _, _, .cons (a := p) (b := q) h r => by
    refine .cons ?_ (dk_map hv r)
    dsimp only
    by_cases c : p.1 = k
    · have c2 : keyD q.1 = some k := by rw [← h.1, c, keyD_kD]
      rw [if_pos c, if_pos c2]
      exact ⟨h.1, hv⟩
    · have c2 : ¬ keyD q.1 = some k := by
        rw [← h.1, keyD_kD]
        exact fun z => c (Option.some.inj z)
      rw [if_neg c, if_neg c2]
      exact h
theorem dk_app {K : Frag'} {S : Hp} {k : Key} {v : V} {d : D} (hv : Dp K S v d) : ∀ {ps : List (Key × V)} {kvs : List (D × D)}, DK K S ps kvs → DK K S (ps ++ [(k, v)]) (kvs ++ [(kD k, d)])
  | _, _, .nil => .cons ⟨rfl, hv⟩ .nil
  | _, _, .cons h r => .cons h (dk_app hv r)
theorem dk_put {K : Frag'} {S : Hp} {k : Key} {v : V} {d : D} {ps : List (Key × V)} {kvs : List (D × D)} (h : DK K S ps kvs) (hv : Dp K S v d) : DK K S (putK ps k v) (dputD kvs k d) := by
  unfold putK dputD
  rw [dk_any h]
  split
  · exact dk_map hv h
  · exact dk_app hv h
theorem dk_len {K : Frag'} {S : Hp} : ∀ {ps : List (Key × V)} {kvs : List (D × D)}, DK K S ps kvs → ps.length = kvs.length
  | _, _, .nil => rfl
  | _, _, .cons _ r => congrArg (· + 1) (dk_len r)
def mPut (i : Nat) (mi mv : ME) : MS := fun ρ => (mv ρ).bind fun v => (look v.2 i).bind fun _ => (mi v.2).bind fun k => match k.2[i]? with
  | some (some (.ow (.dict kvs))) => (keyD k.1).bind fun kk => if noDict v.1 = true ∧ kvs.length < sizeLine then some (.nx (k.2.set i (some (.ow (.dict (dputD kvs kk v.1)))))) else none
  | _ => none
section
variable {X : Cx} {C : Ct} {o ie e : Expr} {pos tpos : Pos}
theorem s_put {i : Nat} {mi mv : ME} (hu : X.A.units + 65 < cLine) (ho : PE X o (tVar i)) (hi : PE X ie (rdE X.K C mi)) (hv : PE X e (rdE X.K C mv)) (hs : swapsWith e (some (.Subscript o ie tpos)) pos.line X.env = pure false := by rfl) :
    PS X (.Assign [.Subscript o ie tpos] e pos) (rdS X.K C (mPut i mi mv)) := PS.imp (ps_dput (by omega) ho hi hv hs) fun Dn σ H q => by
  obtain ⟨S, ρ, hid, R, out, e, q⟩ := q
  obtain ⟨⟨v, ρ1⟩, h1, e⟩ := Option.bind_eq_some_iff.mp e
  obtain ⟨d0, h0, e⟩ := Option.bind_eq_some_iff.mp e
  obtain ⟨⟨dk, ρ2⟩, h2, e⟩ := Option.bind_eq_some_iff.mp e
  split at e
  · rename_i kvs hd
    obtain ⟨k, h3, e⟩ := Option.bind_eq_some_iff.mp e
    split at e
    · rename_i hc
      cases e
      have hk : dk = kD k := keyD_some h3
      subst hk
      refine ⟨S, ρ, hid, R, v, ρ1, h1, fun S1 x H1 s1 R1 r1 => ?_⟩
      obtain ⟨v0, g0, _⟩ := R1.look h0
      refine ⟨v0, g0, S1, ρ1, hid, R1, kD k, ρ2, h2, fun S2 y H2 s2 R2 r2 => ?_⟩
      obtain ⟨a, o, g1, g2, g3, g4, g5⟩ := R2.write hd
      rw [g0] at g1
      cases g1
      cases o with
      | dK ps =>
        have g4 : DK X.K S2 ps kvs := g4
        rw [kD_kV r2]
        exact ⟨a, _, rfl, .inl ⟨ps, k, g2, rfl, by rw [dk_len g4]; exact hc.2, rfl⟩, q S2 _ _ (s1.trans s2) (g5 (.dK (putK ps k x)) (.dict (dputD kvs k v)) (dk_put g4 ((r1.same s2).dp hc.1)))⟩
      | lst xs => cases g4
      | _ => exact False.elim g4
    · cases e
  · cases e
end

/-! ### {k: v for ..} -/
section
variable {K : Frag'} {C : Ct} {S : Hp} {σ : L2.St} {H : Hp} {ρ : Env'} {hid : Hid}
theorem RR.growK {p : Addr} {ds : List (D × D)} {k : Key} {v : V} {d : D} (R : RR K C S σ H ρ ((p, .dict ds) :: hid)) (r : Dp K S v d) : ∃ ps, H p = some (.dK ps) ∧ ps.length = ds.length ∧ RR K C S σ (upd H p (.dK (putK ps k v))) ρ ((p, .dict (dputD ds k d)) :: hid) := by
  obtain ⟨G, R⟩ := R
  obtain ⟨g1, h0, o, ho, ow⟩ := R.hd (p, .dict ds) List.mem_cons_self
  have g1 : G p = some none := g1
  have h0 : C.H0 p = none := h0
  have ho : H p = some o := ho
  have hS := (R.gs p _ g1).1
  cases o with
  | dK xs =>
    have ow : DK K S xs ds := ow
    have nd := List.nodup_cons.mp R.nd
    refine ⟨xs, ho, dk_len ow, G, same_updR R.sub hS, fun a l z => ⟨(R.gs a l z).1, ?_, (R.gs a l z).2.2⟩, fun i sv h => ?_, fun q hq => ?_, List.nodup_cons.mpr nd, R.old, fun a x e hm => ?_, R.ios, fun a hm => ?_, R.iog, R.len⟩
    · by_cases e : a = p
      · rw [e, upd_same]
        exact nofun
      · rw [upd_ne e]
        exact (R.gs a l z).2.1
    · have s := R.slot i sv h
      cases sv with
      | st d => exact s
      | ow d =>
        obtain ⟨a, h1, h2, h3⟩ := s
        have ne : a ≠ p := fun e => by
          rw [e, g1] at h2
          cases h2
        exact ⟨a, h1, h2, h3.keep (upd_ne ne)⟩
    · rcases List.mem_cons.mp hq with e | hq
      · subst e
        exact ⟨g1, h0, _, upd_same, dk_put ow r⟩
      · obtain ⟨h1, h2, h3⟩ := R.hd q (List.mem_cons_of_mem _ hq)
        have ne : q.1 ≠ p := fun e => nd.1 (List.mem_map.mpr ⟨q, hq, e⟩)
        exact ⟨h1, h2, h3.keep (upd_ne ne)⟩
    · have ne : a ≠ p := fun z => by
        rw [z, h0] at e
        cases e
      rw [upd_ne ne]
      exact R.frm a x e hm
    · by_cases e : a = p
      · rw [e, upd_same]
        exact nofun
      · rw [upd_ne e]
        exact R.ioh a hm
  | lst xs => cases ow
  | _ => exact False.elim ow
def compD (own : List Nat) (t : Tgt) (tt : MT) (mk mv : ME) : List D → List (D × D) → Env' → Option (List (D × D) × Env')
  | [], acc, ρ => some (acc, ρ)
  | d :: ds, acc, ρ => (setT t d (wipeE ρ own)).bind fun ρ1 => (tt ρ1).bind fun p => if p.1 = true then
      (mk p.2).bind fun y => (mv y.2).bind fun z => (keyD y.1).bind fun k => if noDict z.1 = true ∧ acc.length < sizeLine then compD own t tt mk mv ds (dputD acc k z.1) z.2 else none
    else compD own t tt mk mv ds acc p.2
def mCompD (own : List Nat) (t : Tgt) (mi : MI) (tt : MT) (mk mv : ME) : ME := fun ρ => (mi ρ).bind fun p => if stSlots p.2 own = true then (compD own t tt mk mv p.1 [] p.2).bind fun z => some (.dict z.1, restE p.2 z.2 own) else none
theorem dc_ok {own : List Nat} {t : Tgt} {mi : MI} {tt : MT} {mk mv : ME} (ht : ∀ i ∈ tgtI t, i ∈ own) (hio : ∀ v ∈ own, v ∉ C.ioS) {σ : L2.St} {H : Hp} {Q : VK} (q : rdF K C (mCompD own t mi tt mk mv) σ H Q) :
    tDc (rdI K C mi) (rdG K C t) (rdT K C tt) (rdE K C mk) (rdE K C mv) own σ H Q := by
  obtain ⟨S, ρ, hid, R, d, ρ', e, q⟩ := q
  obtain ⟨⟨items, ρ1⟩, h1, e⟩ := Option.bind_eq_some_iff.mp e
  have e : (if stSlots ρ1 own = true then (compD own t tt mk mv items [] ρ1).bind fun z => some (PyData.dict z.1, restE ρ1 z.2 own) else none) = some (d, ρ') := e
  by_cases hc : stSlots ρ1 own = true
  · rw [if_pos hc] at e
    obtain ⟨⟨ys, ρe⟩, h2, e⟩ := Option.bind_eq_some_iff.mp e
    cases e
    refine ⟨S, ρ, hid, R, items, ρ1, h1, fun S0 H0 J s0 R0 D0 Dn hD => ?_⟩
    refine ⟨fun i m H1 => m = items.length - i ∧ i ≤ items.length ∧ ∃ S1 ρ2 acc, Same S0 S1 ∧ RR K C S1 (L2.wipe σ own) H1 (wipeE ρ2 own) ((Dn, .dict acc) :: hid) ∧ compD own t tt mk mv (items.drop i) acc ρ2 = some (ys, ρe),
      ⟨items.length, by simp, Nat.zero_le _, S0, ρ1, [], Same.refl _, (R0.wipe hio).fresh (d := .dict []) (o := .dK []) hD .nil, h2⟩, ?_⟩
    rintro i m H1 ⟨rfl, hi, S1, ρ2, acc, s1, R1, e1⟩
    by_cases hlt : i < items.length
    · refine .inr ⟨D0.go i S1 _ H1 _ _ s1 R1 hlt, fun H' => ∃ S2 ρ3 acc, Same S0 S2 ∧ RR K C S2 (L2.wipe σ own) H' (wipeE ρ3 own) ((Dn, .dict acc) :: hid) ∧ compD own t tt mk mv (items.drop (i + 1)) acc ρ3 = some (ys, ρe),
        fun H' z => ⟨items.length - (i + 1), by omega, rfl, hlt, z⟩, fun x H' y => ?_⟩
      obtain ⟨S2, s2, R2, r2⟩ := D0.yld i S1 _ H1 _ _ x H' items[i] s1 R1 (List.getElem?_eq_getElem hlt) y
      rw [List.drop_eq_getElem_cons hlt] at e1
      unfold compD at e1
      obtain ⟨ρ3, g1, g2⟩ := Option.bind_eq_some_iff.mp e1
      obtain ⟨⟨b, ρ4⟩, g3, g4⟩ := Option.bind_eq_some_iff.mp g2
      refine ⟨S2, wipeE ρ2 own, _, items[i], ρ3, R2, r2, g1, fun σ3 R3 k3 => ⟨?_, S2, ρ3, _, R3, b, ρ4, g3, fun S4 H4 s4 R4 => ?_⟩⟩
      · have e := wipe_eq (σ := L2.wipe σ own) (σ' := σ3) (vs := own) (by rw [← R3.len, setT_len g1, R2.len]) fun j hj => k3 j fun z => hj (ht j z)
        rw [e]
        exact wipe_eq (by rw [wipe_length]) fun j hj => wipe_out hj
      · have w3 : ∀ {S5 : Hp} {ρ5 : Env'} {H5 : Hp} {hid5 : Hid}, RR K C S5 σ3 H5 ρ5 hid5 → RR K C S5 (L2.wipe σ own) H5 (wipeE ρ5 own) hid5 := fun {S5 ρ5 H5 hid5} R5 => by
          have z := R5.wipe hio
          have e := wipe_eq (σ := L2.wipe σ own) (σ' := σ3) (vs := own) (by rw [← R3.len, setT_len g1, R2.len]) fun j hj => k3 j fun z => hj (ht j z)
          rw [e, wipe_eq (σ := σ) (σ' := L2.wipe σ own) (by rw [wipe_length]) fun j hj => wipe_out hj] at z
          exact z
        cases b with
        | false => exact ⟨S4, ρ4, acc, (s1.trans s2).trans s4, w3 R4, g4⟩
        | true =>
          refine iteT ?_
          have g4 : ((mk ρ4).bind fun y => (mv y.2).bind fun z => (keyD y.1).bind fun k => if noDict z.1 = true ∧ acc.length < sizeLine then compD own t tt mk mv (items.drop (i + 1)) (dputD acc k z.1) z.2 else none) = some (ys, ρe) := g4
          obtain ⟨⟨y5, ρ5⟩, k1, k2⟩ := Option.bind_eq_some_iff.mp g4
          obtain ⟨⟨z6, ρ6⟩, k3', k2⟩ := Option.bind_eq_some_iff.mp k2
          obtain ⟨kk, k4, k5⟩ := Option.bind_eq_some_iff.mp k2
          clear k2
          have hk : y5 = kD kk := keyD_some k4
          subst hk
          by_cases hn : noDict z6 = true ∧ acc.length < sizeLine
          · have k2 : (if noDict z6 = true ∧ acc.length < sizeLine then compD own t tt mk mv (items.drop (i + 1)) (dputD acc kk z6) ρ6 else none) = some (ys, ρe) := k5
            rw [if_pos hn] at k2
            refine ⟨S4, ρ4, _, R4, kD kk, ρ5, k1, fun S5 v5 H5 s5 R5 r5 => ⟨S5, ρ5, _, R5, z6, ρ6, k3', fun S6 v6 H6 s6 R6 r6 => ?_⟩⟩
            obtain ⟨ps, hx, lx, R7⟩ := R6.growK (k := kk) (r6.dp hn.1)
            exact ⟨ps, kk, kD_kV r5, hx, by rw [lx]; exact hn.2, S6, ρ6, _, (((s1.trans s2).trans s4).trans s5).trans s6, w3 R7, k2⟩
          · have k2 : (if noDict z6 = true ∧ acc.length < sizeLine then compD own t tt mk mv (items.drop (i + 1)) (dputD acc kk z6) ρ6 else none) = some (ys, ρe) := k5
            rw [if_neg hn] at k2
            cases k2
    · have ei : i = items.length := by omega
      subst ei
      rw [List.drop_length] at e1
      cases e1
      refine .inl ⟨D0.stop _ S1 _ H1 _ _ s1 R1 (Nat.le_refl _), q S1 Dn H1 (s0.trans s1) ?_⟩
      exact R0.back hc s1 R1
  · rw [if_neg hc] at e
    cases e
end
theorem f_dc {X : Cx} {C : Ct} {pos : Pos} {kx vx tg iter : Expr} {ifs : List Expr} {scope : Scope} {own : List (Str × Nat)} {t : Tgt} {mi : MI} {tt : MT} {mk mv : ME} (hc : X.calm = true) (hN : X.N.Nodup) (hi : PI X tg iter (rdI X.K C mi))
    (ok : BlkOk X.N X.env.scope scope own) (ht : ∀ i ∈ tgtI t, i ∈ own.map (·.2)) (hio : ∀ v ∈ own.map (·.2), v ∉ C.ioS)
    (hg : ∀ (s : Shared) (H : Hp) (Ca : Addr) (cl : List (Str × Addr)) (fp : List Addr), PG (X.blk s H scope (compEnvC scope cl Ca X.env) fp) tg (rdG X.K C t)) (htt : ∀ (s : Shared) (H : Hp) (Ca : Addr) (cl : List (Str × Addr)) (fp : List Addr), PTs (X.blk s H scope (compEnvC scope cl Ca X.env) fp) ifs (rdT X.K C tt))
    (hk : ∀ (s : Shared) (H : Hp) (Ca : Addr) (cl : List (Str × Addr)) (fp : List Addr), PE (X.blk s H scope (compEnvC scope cl Ca X.env) fp) kx (rdE X.K C mk)) (he : ∀ (s : Shared) (H : Hp) (Ca : Addr) (cl : List (Str × Addr)) (fp : List Addr), PE (X.blk s H scope (compEnvC scope cl Ca X.env) fp) vx (rdE X.K C mv)) (hs : ∀ x, foldedSetIterable iter X.env x = pure x := by intro _; rfl) :
    PE X (.DictComp kx vx [⟨tg, iter, ifs, 0⟩] scope pos) (rdF X.K C (mCompD (own.map (·.2)) t mi tt mk mv)) := PE.imp (pe_dc hc hN hi ok hg htt hk he hs) fun σ H Q q => dc_ok ht hio q
end VS

set_option Elab.async false
set_option linter.all false
set_option maxRecDepth 100000
/-! VsU: sets made of lists of ints, their number, and sorted. -/
namespace VS
open PySem PySem.Spec PyProof.Rows L2
/-- a set that has just been made -/
abbrev set0 (w : World) : Obj := { cls := .type "set", dict := none, data := .set #[] 0 (.fresh 0 0 (!w.params.followText "set-order")) }
section
variable {P : Program} {w : World} {A : Around} {E : Value → Shared → Prop} {s : Shared}
set_option maxHeartbeats 3200000 in
theorem set_ofList {a : Addr} {vs : Array Value} (ks : List Int) {Q : Value → Shared → Prop} (h0 : A.handled = none) (la : s.heap.IsList a vs) (ia : IntsAre vs.toList ks) (room : ks.length + 1 < scanBound)
    (fin : ∀ (g : Heap) (tk c : Nat), SetR w g s.heap.objs.size (fun j => decide (j ∈ ks)) c → c ≤ ks.length → (∀ b o, s.heap.get? b = some o → g.get? b = some o) → Q (.ref s.heap.objs.size) { s with heap := g, toks := tk }) :
    wpAny (model P w) A (call (.type "set") [.ref a]) Q E s := by
  have sz : vs.size = ks.length := by
    have z := IntsAre.length ia
    rwa [Array.length_toList] at z
  obtain ⟨mc, mt, mro⟩ := F.called_set.mro
  have mk := F.called_set.made
  have sb := F.called_set.sub
  refine wpAny_call (codeAny_of_tree ?_)
  show wpAny _ _ (callAny (.type "set") _) _ _ _
  refine wpAny_pure ⟨Code.quiet_builtin _ (by decide +kernel), codeAny_builtin F.entry_type_call ?_⟩
  rw [Around.under_plain (weight_type_call_type "set" [.ref a] []) rfl]
  have n1 := F.called_set.notType
  have n2 := F.called_set.canCreate
  have n3 := F.typeCall_set_1 (.ref a)
  repeat (any_goals (first | assumption | wp_step))
  refine codeAny_mono (code_set_led1 (.ref a) (E := E) (Q₁ := fun obj s₁ => obj = .ref s.heap.objs.size ∧ s₁ = { s with heap := s.heap.push (set0 w) }) ⟨rfl, rfl⟩) fun r s₁ hr => ?_
  cases r with
  | error e => exact hr
  | ok fl =>
    cases fl with
    | ret obj =>
      obtain ⟨rfl, rfl⟩ := hr
      have at0 : (s.heap.push (set0 w)).get? s.heap.objs.size = some (set0 w) := Heap.get?_push_size _ rfl
      have ty0 : Shared.TypeIs { s with heap := s.heap.push (set0 w) } (.ref s.heap.objs.size) "set" := ⟨_, at0, rfl⟩
      have lk := F.called_set.init.lookup
      have bd := F.called_set.init.bind (.ref s.heap.objs.size)
      repeat (any_goals (first | assumption | wp_step))
      refine codeAny_mono (codeAny_call_builtin (R := wants (fun r s₂ => r = .none ∧ ∃ g tk c, s₂ = { s with heap := g, toks := tk } ∧ SetR w g s.heap.objs.size (fun j => decide (j ∈ ks)) c ∧ c ≤ ks.length ∧
          (∀ b o, s.heap.get? b = some o → g.get? b = some o)) E) F.called_set.init.plain F.entry_set_init (check_set_init_1 ty0 ?_)) fun r₂ s₂ hr₂ => ?_
      · obtain ⟨lo, hlo, lcl, ln, ldt⟩ := la
        obtain ⟨qc, qd, qv, qs⟩ := lo
        simp only at lcl ldt
        subst lcl
        subst ldt
        have hl2 : (s.heap.push (set0 w)).get? a = some { cls := .type "list", dict := qd, data := .seq vs ln, slots := qs } := Heap.get?_push_of_some _ hlo
        have m1 := F.sub_list_set
        have m2 := F.sub_list_frozenset
        have m3 : (Value.type "list" == Value.type "dict") = false := by decide
        have la2 : (s.heap.push (set0 w)).IsList a vs := ⟨_, hl2, rfl, ln, rfl⟩
        unfold Builtin.«set.__init__» noKeywords Builtin.Frozenset.updateFrom
        generalize hit : pyIter = pit
        wp_walk
        subst hit
        refine wpAny_pyIter_list la2 ?_
        refine wpAny_bind (wpAny_runValue ?_)
        have alt : a < s.heap.objs.size := Heap.lt_size hlo
        have h3 : A.in1.in1.in1.handled = none := by simp [h0]
        have ne : a ≠ (s.heap.push (set0 w)).objs.size := by
          rw [Heap.size_push]
          exact Nat.ne_of_lt (Nat.lt_succ_of_lt alt)
        have nf : s.heap.objs.size ∉ [(s.heap.push (set0 w)).objs.size, a] := by
          rw [Heap.size_push]
          simp only [List.mem_cons, List.not_mem_nil, or_false, not_or]
          exact ⟨Nat.ne_of_lt (Nat.lt_succ_self _), Nat.ne_of_gt alt⟩
        have vl : ∀ (i : Nat) (v : Value), vs[i]? = some v → ∃ k t, ks[i]? = some k ∧ v = .int k t := fun i v hv => by
          have hi : i < ks.length := by rw [← sz]; exact (Array.getElem?_eq_some_iff.mp hv).1
          obtain ⟨t, e⟩ := PyProof.Rows.IntsAre.int_at ia i v (by rw [Array.getElem?_toList]; exact hv)
          refine ⟨ks[i], t, List.getElem?_eq_getElem hi, ?_⟩
          rw [e, List.getD_eq_getElem?_getD, List.getElem?_eq_getElem hi] <;> rfl
        refine set_update_ints ((Walks.list h3 _ a ne vs).toS) s.heap.objs.size nf ks sz room vl (vs.size - 0) 0 _ (by omega) (Nat.zero_le _) ⟨⟨_, Heap.get?_push_size _ rfl, rfl, rfl⟩, la2.push _⟩ ?start ?fin
        case start => exact ⟨0, Nat.le_refl 0, setR_new_at (Heap.get?_push_of_some _ at0)⟩
        case fin =>
          intro s' c hm hc hS
          obtain ⟨g, g2, d', tk', os'⟩ := s'
          obtain rfl : g2 = s.gens := hm.gens
          obtain rfl : d' = s.drawn := hm.drawn
          obtain rfl : os' = s.os := hm.os
          show wpAny _ _ _ _ _ _
          refine wpAny_pure ?_
          show wpAny _ _ (ret Value.none) _ _ _
          rw [sz] at hc
          refine wpAny_pure ⟨rfl, g, tk', c, rfl, hS, hc, fun b o e => ?_⟩
          have b0 : b < s.heap.objs.size := Heap.lt_size e
          refine hm.heap b o ?_ (Heap.get?_push_of_some _ (Heap.get?_push_of_some _ e))
          rw [Heap.size_push]
          simp only [List.mem_cons, List.not_mem_nil, or_false, not_or]
          exact ⟨Nat.ne_of_lt b0, Nat.ne_of_lt (Nat.lt_succ_of_lt b0)⟩
      · cases r₂ with
        | error e => exact hr₂
        | ok fl₂ =>
          cases fl₂ with
          | ret r =>
            obtain ⟨rfl, g, tk, c, rfl, z1, z2, z3⟩ := hr₂
            repeat (any_goals (first | assumption | wp_step))
            exact fin _ _ _ z1 z2 z3
          | _ => exact hr₂.elim
    | _ => exact hr.elim
end
end VS

set_option Elab.async false
set_option linter.all false
set_option maxRecDepth 100000
/-! VsV: sorted(set(xs)) and len(set(xs)) of lists of ints. -/
namespace VS
open PySem PySem.Spec PyProof.Rows L2
def tSortSet (K : Frag') (ta : TE) : TE := fun σ H Q => ta σ H fun x H1 => ∃ (a : Addr) (ks : List Int), x = V.ref a ∧ SqL K H1 a (ks.map V.int) ∧ ks.length < 64 ∧
  ∀ (out : List Int) (p : Addr), out.Pairwise (· < ·) → (∀ k, k ∈ out ↔ k ∈ ks) → H1 p = none → Q (.ref p) (upd H1 p (.lst (out.map V.int)))
section
variable {X : Cx} {e : Expr} {ta : TE} {p p2 pos pos2 : Pos}
theorem pe_sortSet (hc : X.calm = true) (hg : Gl X "sorted") (hm : X.mg "sorted" = none) (hg2 : Gl X "set") (hm2 : X.mg "set" = none) (he : PE X e ta)
    (na : starEach [e] X.env = (false, eval e X.env) :: starEach [] X.env := by rfl) : PE X (.Call (.Name "sorted" p) [.Call (.Name "set" p2) [e] [] pos2] [] pos) (tSortSet X.K ta) := by
  refine ⟨fun pins s σ H Q I h => ?_⟩
  refine Call_ (ld_blt I hg hm boot_sorted (PyProof.Rows.callWith_builtin1 (PyProof.Rows.args_cons ?_ rfl) rfl rfl))
  refine Call_ (ld_blt I hg2 hm2 PyProof.Rows.boot_set (PyProof.Rows.callWith_type1 (PyProof.Rows.args_cons (thn (he.run pins s σ H _ I h) fun v s1 ⟨x, H1, I1, r1, q1⟩ => PyProof.Rows.args_nil ?_) na) na rfl))
  obtain ⟨a, ks, rfl, hs, h64, q⟩ := q1
  cases r1
  obtain ⟨its, rv, pl, hz⟩ := I1.list hs
  refine set_ofList ks (I1.ok.hd hc) pl.isList (by simpa using rv.ints) (by unfold scanBound; omega) fun g tk c R hcn kp => ?_
  refine PyProof.Rows.args_nil ?_
  have I2 : Inv X pins σ H1 { s1 with heap := g, toks := tk } := I1.kept kp
  refine sorted_set (s := { s1 with heap := g, toks := tk }) R (I1.ok.hd hc) (by omega) fun s' t out n ks2 k2 gg oo ht hout hi hp hmem hl => ?_
  have hlen : (ks2.map V.int).length ≤ sizeLine := by rw [List.length_map, hl, sizeLine_eq]; omega
  generalize { s1 with heap := g, toks := tk } = s2 at I2 k2 gg oo ht
  have hn : H1 t = none := I2.hok.fresh ht
  have J : Inv X pins σ (upd H1 t (.lst (ks2.map V.int))) { s2 with heap := s'.heap, gens := s'.gens, drawn := s'.drawn, toks := s'.toks } :=
    I2.call (ch := []) (Un.laid k2 ht hn) (I2.hok.laid k2 ht ⟨hlen, out.toList, n, vals_of_ints hi, hout⟩) (by rw [gg]; exact I2.bare) (fun _ z => nomatch z)
  have e : s' = { s2 with heap := s'.heap, gens := s'.gens, drawn := s'.drawn, toks := s'.toks } := by
    cases s'
    cases s2
    cases oo
    rfl
  rw [e]
  exact ⟨.ref t, _, J, rfl, q ks2 t hp (fun k => by rw [hmem k, decide_eq_true_eq]) hn⟩
end

/-! ### the ints in order, each once -/
def uins (k : Int) : List Int → List Int
  | [] => [k]
  | x :: xs => if k < x then k :: x :: xs else if k = x then x :: xs else x :: uins k xs
def usort (ks : List Int) : List Int := ks.foldr uins []
theorem uins_mem {k j : Int} : ∀ {xs : List Int}, j ∈ uins k xs ↔ j = k ∨ j ∈ xs
  | [] => by simp [uins]
  | x :: xs => by
    unfold uins
    split
    · simp
    · split
      · rename_i e
        subst e
        simp
      · rw [List.mem_cons, uins_mem, List.mem_cons]
        constructor
        · rintro (h | h | h)
          · exact .inr (.inl h)
          · exact .inl h
          · exact .inr (.inr h)
        · rintro (h | h | h)
          · exact .inr (.inl h)
          · exact .inl h
          · exact .inr (.inr h)
theorem uins_lt {k : Int} : ∀ {xs : List Int}, xs.Pairwise (· < ·) → (uins k xs).Pairwise (· < ·)
  | [], _ => by simp [uins]
  | x :: xs, h => by
    rw [List.pairwise_cons] at h
    unfold uins
    split
    · rename_i c
      refine List.pairwise_cons.mpr ⟨fun y hy => ?_, List.pairwise_cons.mpr h⟩
      rcases List.mem_cons.mp hy with rfl | hy
      · exact c
      · have := h.1 y hy
        omega
    · split
      · exact List.pairwise_cons.mpr h
      · refine List.pairwise_cons.mpr ⟨fun y hy => ?_, uins_lt h.2⟩
        rcases uins_mem.mp hy with rfl | hy
        · omega
        · exact h.1 y hy
theorem usort_mem {j : Int} : ∀ {ks : List Int}, j ∈ usort ks ↔ j ∈ ks
  | [] => Iff.rfl
  | k :: ks => by
    show j ∈ uins k (usort ks) ↔ _
    rw [uins_mem, usort_mem, List.mem_cons]
theorem usort_lt : ∀ {ks : List Int}, (usort ks).Pairwise (· < ·)
  | [] => .nil
  | k :: ks => uins_lt (usort_lt (ks := ks))
theorem lt_uniq : ∀ {xs ys : List Int}, xs.Pairwise (· < ·) → ys.Pairwise (· < ·) → (∀ k, k ∈ xs ↔ k ∈ ys) → xs = ys
  | [], [], _, _, _ => rfl
  | [], y :: ys, _, _, h => absurd ((h y).mpr List.mem_cons_self) (by simp)
  | x :: xs, [], _, _, h => absurd ((h x).mp List.mem_cons_self) (by simp)
  | x :: xs, y :: ys, hx, hy, h => by
    rw [List.pairwise_cons] at hx hy
    have e : x = y := by
      have h1 := (h x).mp List.mem_cons_self
      have h2 := (h y).mpr List.mem_cons_self
      rcases List.mem_cons.mp h1 with e | h1
      · exact e
      · rcases List.mem_cons.mp h2 with e | h2
        · exact e.symm
        · have a := hy.1 x h1
          have b := hx.1 y h2
          omega
    subst e
    congr 1
    refine lt_uniq hx.2 hy.2 fun k => ?_
    constructor
    · intro hk
      rcases List.mem_cons.mp ((h k).mp (List.mem_cons_of_mem _ hk)) with e | hk2
      · have := hx.1 k hk
        omega
      · exact hk2
    · intro hk
      rcases List.mem_cons.mp ((h k).mpr (List.mem_cons_of_mem _ hk)) with e | hk2
      · have := hy.1 k hk
        omega
      · exact hk2
def mSortSet (m : ME) : ME := fun ρ => (m ρ).bind fun p => match p.1 with
  | .list ds => (intsD ds).bind fun ks => if ks.length < 64 then some (.list ((usort ks).map .int), p.2) else none
  | _ => none
theorem f_sortSet {X : Cx} {C : Ct} {e : Expr} {p p2 pos pos2 : Pos} {m : ME} (hc : X.calm = true) (hg : Gl X "sorted") (hm : X.mg "sorted" = none) (hg2 : Gl X "set") (hm2 : X.mg "set" = none) (he : PE X e (rdE X.K C m))
    (na : starEach [e] X.env = (false, eval e X.env) :: starEach [] X.env := by rfl) : PE X (.Call (.Name "sorted" p) [.Call (.Name "set" p2) [e] [] pos2] [] pos) (rdF X.K C (mSortSet m)) := PE.imp (pe_sortSet hc hg hm hg2 hm2 he na) fun σ H Q q => by
  obtain ⟨S, ρ, hid, R, d, ρ', e, q⟩ := q
  obtain ⟨⟨d1, ρ1⟩, h1, e⟩ := Option.bind_eq_some_iff.mp e
  cases d1 with
  | list ds =>
    obtain ⟨ks, h2, e⟩ := Option.bind_eq_some_iff.mp e
    have e : (if ks.length < 64 then some (PyData.list ((usort ks).map .int), ρ1) else none) = some (d, ρ') := e
    by_cases c : ks.length < 64
    · rw [if_pos c] at e
      cases e
      refine ⟨S, ρ, hid, R, _, _, h1, fun S' v H' s R' r => ?_⟩
      cases r with
      | lst hs hd =>
        have hx := ints_ok hd h2
        subst hx
        refine ⟨_, ks, rfl, R'.sub.seq hs, c, fun out p ho hmem hp => ?_⟩
        rw [lt_uniq ho usort_lt fun k => (hmem k).trans usort_mem.symm]
        exact q S' p _ s (R'.fresh (o := .lst _) (d := .list _) hp (dp_ints _))
    · rw [if_neg c] at e
      cases e
  | _ => cases e
end VS

set_option Elab.async false
set_option linter.all false
set_option maxRecDepth 100000
/-! VsW: tuple(zip(a, b)). -/
namespace VS
open PySem PySem.Spec PyProof.Rows L2
section
variable {prog : Program} {w : World} {A : Around} {E : Value → Shared → Prop} {s : Shared} {z TI TO i1 i2 : Addr} {fp1 fp2 : List Addr} {n1 n2 i : Nat} {P1 P2 : Nat → Value → Prop} {St1 St2 : Nat → Heap → Prop}

/-- one more pair while an earlier one is still known -/
theorem zh_item {T : Addr} {f : Bool} {oT : Obj} {Q : Value → Shared → Prop} (S : ZipSep2 z TI TO i1 i2 fp1 fp2) (D1 : Draws prog w A i1 fp1 n1 P1 St1) (D2 : Draws prog w A i2 fp2 n2 P2 St2)
    (hz : IsZipHeld s.heap z TI TO T f) (hT : s.heap.get? T = some oT) (hTI : IsTupOf2 s.heap TI (.ref i1) (.ref i2)) (st1 : St1 i s.heap) (st2 : St2 i s.heap) (hlt1 : i < n1) (hlt2 : i < n2)
    (hQ : ∀ x1 x2 h' tk, P1 i x1 → P2 i x2 → IsZipHeld h' z TI TO T true → St1 (i + 1) h' → St2 (i + 1) h' → IsTupOf2 h' s.heap.objs.size x1 x2 → h'.objs.size = s.heap.objs.size + 1 →
      (∀ c o, c ≠ z → c ≠ i1 → c ≠ i2 → s.heap.get? c = some o → h'.get? c = some o) → Q (.ref s.heap.objs.size) { s with heap := h', toks := tk }) :
    wpAny (model prog w) A (Builtin.«zip.__next__» ⟨[.ref z], []⟩) (fun fin s' => ∃ v, fin = .done (.ret v) ∧ Q v s') E s := by
  obtain ⟨hp, gg, dd, tk0, os⟩ := s
  show wpAny _ _ (field (.ref z) 2 >>= _) _ _ _
  refine wpAny_bind (wpAny_field hz rfl (x := .bool false) rfl ?_)
  show wpAny _ _ (field (.ref z) 3 >>= _) _ _ _
  refine wpAny_bind (wpAny_field hz rfl (x := .ref TI) rfl ?_)
  refine wpAny_bind (wpAny_seqItems hTI rfl ?_)
  show wpAny _ _ (Builtin.SmallTypes.ownedTupleIsFree (.ref z) >>= _) _ _ _
  refine wpAny_bind (wpAny_tupleHeld_zip hz hT fun ha hza hsa => ?_)
  simp only [Bool.false_eq_true, if_false]
  refine wpAny_bind ?_
  rw [← Array.forIn_toList]
  simp only [List.forIn_cons, List.forIn_nil]
  have sa1 := D1.over st1 hsa S.zf1
  have sa2 := D2.over st2 hsa S.zf2
  refine wpAny_bind (wpAny_bind (wpAny_holding ?_))
  show wpAny _ _ (Builtin.SmallTypes.nextOf (.ref i1) >>= _) _ _ _
  refine wpAny_bind (D1.item i ⟨ha, gg, dd, tk0, os⟩ _ _ hlt1 sa1 fun x1 hb tk1 px1 sb1 hsb => wpAny_pure ?_)
  refine wpAny_pure ?_
  have sb2 := D2.over sa2 hsb S.sep1_2
  refine wpAny_bind (wpAny_bind (wpAny_holding ?_))
  show wpAny _ _ (Builtin.SmallTypes.nextOf (.ref i2) >>= _) _ _ _
  refine wpAny_bind (D2.item i ⟨hb, gg, dd, tk1, os⟩ _ _ hlt2 sb2 fun x2 hc tk2 px2 sc2 hsc => wpAny_pure ?_)
  refine wpAny_pure (wpAny_pure ?_)
  have sc1 := D1.over sb1 hsc S.sep2_1
  show wpAny _ _ (newTuple [x1, x2] >>= _) _ _ _
  refine wpAny_bind (wpAny_newTuple ?_)
  have sz : hc.objs.size = hp.objs.size := by rw [hsc.1, hsb.1, hsa.1]
  have zc : IsZipHeld hc z TI TO T true := hsc.extBut _ _ S.zi2 (hsb.extBut _ _ S.zi1 hza)
  have kc : ∀ c o, c ≠ z → c ≠ i1 → c ≠ i2 → hp.get? c = some o → hc.get? c = some o := fun c o c1 c2 c3 q => hsc.extBut _ _ c3 (hsb.extBut _ _ c2 (hsa.extBut _ _ c1 q))
  refine wpAny_pure ⟨_, rfl, ?_⟩
  have hpair : IsTupOf2 (hc.push { cls := .type "tuple", data := .seq #[x1, x2] }) hc.objs.size x1 x2 := Heap.get?_push_size _ rfl
  have szp : (hc.push { cls := .type "tuple", data := .seq #[x1, x2] }).objs.size = hc.objs.size + 1 := Heap.size_push ..
  show Q (.ref hc.objs.size) _
  rw [sz] at hpair szp ⊢
  exact hQ x1 x2 _ tk2 px1 px2 (Heap.get?_push_of_some _ zc) (D1.frame _ _ _ sc1 fun b _ o q => Heap.get?_push_of_some _ q) (D2.frame _ _ _ sc2 fun b _ o q => Heap.get?_push_of_some _ q) hpair szp
    fun c o c1 c2 c3 q => Heap.get?_push_of_some _ (kc c o c1 c2 c3 q)
theorem zh_end {T : Addr} {f : Bool} {oT : Obj} {Q : Fin → Shared → Prop} (S : ZipSep2 z TI TO i1 i2 fp1 fp2) (D1 : Draws prog w A i1 fp1 n1 P1 St1) (D2 : Draws prog w A i2 fp2 n2 P2 St2)
    (hz : IsZipHeld s.heap z TI TO T f) (hT : s.heap.get? T = some oT) (hTI : IsTupOf2 s.heap TI (.ref i1) (.ref i2)) (st1 : St1 i s.heap) (st2 : St2 i s.heap) (hle1 : i ≤ n1) (hle2 : i ≤ n2) (hend : i = n1 ∨ i = n2)
    (hE : ∀ h' tk e, (∀ c o, c ≠ z → c ≠ i1 → c ≠ i2 → s.heap.get? c = some o → h'.get? c = some o) → (∃ o, h'.get? e = some o ∧ o.cls = .type "StopIteration") → E (.ref e) { s with heap := h', toks := tk }) :
    wpAny (model prog w) A (Builtin.«zip.__next__» ⟨[.ref z], []⟩) Q E s := by
  obtain ⟨hp, gg, dd, tk0, os⟩ := s
  show wpAny _ _ (field (.ref z) 2 >>= _) _ _ _
  refine wpAny_bind (wpAny_field hz rfl (x := .bool false) rfl ?_)
  show wpAny _ _ (field (.ref z) 3 >>= _) _ _ _
  refine wpAny_bind (wpAny_field hz rfl (x := .ref TI) rfl ?_)
  refine wpAny_bind (wpAny_seqItems hTI rfl ?_)
  show wpAny _ _ (Builtin.SmallTypes.ownedTupleIsFree (.ref z) >>= _) _ _ _
  refine wpAny_bind (wpAny_tupleHeld_zip hz hT fun ha hza hsa => ?_)
  simp only [Bool.false_eq_true, if_false]
  refine wpAny_bind ?_
  rw [← Array.forIn_toList]
  simp only [List.forIn_cons, List.forIn_nil]
  have sa1 := D1.over st1 hsa S.zf1
  have sa2 := D2.over st2 hsa S.zf2
  refine wpAny_bind (wpAny_bind (wpAny_holding ?_))
  show wpAny _ _ (Builtin.SmallTypes.nextOf (.ref i1) >>= _) _ _ _
  by_cases h1 : i = n1
  · refine wpAny_bind (D1.done ⟨ha, gg, dd, tk0, os⟩ _ _ (h1 ▸ sa1) fun hb e hsb he => ?_)
    exact hE hb tk0 e (fun c o c1 c2 _ q => hsb _ _ c2 (hsa.extBut _ _ c1 q)) he
  · have h2 : i = n2 := hend.resolve_left h1
    refine wpAny_bind (D1.item i ⟨ha, gg, dd, tk0, os⟩ _ _ (by omega) sa1 fun x1 hb tk1 px1 sb1 hsb => wpAny_pure ?_)
    refine wpAny_pure ?_
    have sb2 := D2.over sa2 hsb S.sep1_2
    refine wpAny_bind (wpAny_bind (wpAny_holding ?_))
    show wpAny _ _ (Builtin.SmallTypes.nextOf (.ref i2) >>= _) _ _ _
    refine wpAny_bind (D2.done ⟨hb, gg, dd, tk1, os⟩ _ _ (h2 ▸ sb2) fun hc e hsc he => ?_)
    exact hE hc tk1 e (fun c o c1 c2 c3 q => hsc _ _ c3 (hsb.extBut _ _ c2 (hsa.extBut _ _ c1 q))) he
theorem zhn_item {T : Addr} {f : Bool} {oT : Obj} {Q : Option Value → Shared → Prop} (S : ZipSep2 z TI TO i1 i2 fp1 fp2) (D1 : Draws prog w A.in1 i1 fp1 n1 P1 St1) (D2 : Draws prog w A.in1 i2 fp2 n2 P2 St2)
    (hz : IsZipHeld s.heap z TI TO T f) (hT : s.heap.get? T = some oT) (hTI : IsTupOf2 s.heap TI (.ref i1) (.ref i2)) (st1 : St1 i s.heap) (st2 : St2 i s.heap) (hlt1 : i < n1) (hlt2 : i < n2)
    (hQ : ∀ x1 x2 h' tk, P1 i x1 → P2 i x2 → IsZipHeld h' z TI TO T true → St1 (i + 1) h' → St2 (i + 1) h' → IsTupOf2 h' s.heap.objs.size x1 x2 → h'.objs.size = s.heap.objs.size + 1 →
      (∀ c o, c ≠ z → c ≠ i1 → c ≠ i2 → s.heap.get? c = some o → h'.get? c = some o) → Q (some (.ref s.heap.objs.size)) { s with heap := h', toks := tk }) :
    wpAny (model prog w) A (pyNext (.ref z)) Q E s := by
  have ty : s.TypeIs (.ref z) "zip" := ⟨_, hz, rfl⟩
  unfold pyNext
  exact wpAny_bind (wpAny_attempt (wpAny_callSpecial?_slot (name := Str.ofString "__next__") ty F.slot_zip_next
    (wpAny_call_entry F.slot_zip_next ty F.entry_zip_next (zh_item S D1 D2 hz hT hTI st1 st2 hlt1 hlt2 fun x1 x2 h' tk c1 c2 c3 c4 c5 c6 c7 c8 => wpAny_pure (hQ x1 x2 h' tk c1 c2 c3 c4 c5 c6 c7 c8)) (F.args_zip_next_1 _))))
theorem zhn_end {T : Addr} {f : Bool} {oT : Obj} {Q : Option Value → Shared → Prop} (S : ZipSep2 z TI TO i1 i2 fp1 fp2) (D1 : Draws prog w A.in1 i1 fp1 n1 P1 St1) (D2 : Draws prog w A.in1 i2 fp2 n2 P2 St2)
    (hz : IsZipHeld s.heap z TI TO T f) (hT : s.heap.get? T = some oT) (hTI : IsTupOf2 s.heap TI (.ref i1) (.ref i2)) (st1 : St1 i s.heap) (st2 : St2 i s.heap) (hle1 : i ≤ n1) (hle2 : i ≤ n2) (hend : i = n1 ∨ i = n2)
    (hQ : ∀ h' tk, (∀ c o, c ≠ z → c ≠ i1 → c ≠ i2 → s.heap.get? c = some o → h'.get? c = some o) → Q none { s with heap := h', toks := tk }) : wpAny (model prog w) A (pyNext (.ref z)) Q E s := by
  have ty : s.TypeIs (.ref z) "zip" := ⟨_, hz, rfl⟩
  unfold pyNext
  refine wpAny_bind (wpAny_attempt (wpAny_callSpecial?_slot (name := Str.ofString "__next__") ty F.slot_zip_next
    (wpAny_call_entry F.slot_zip_next ty F.entry_zip_next (zh_end S D1 D2 hz hT hTI st1 st2 hle1 hle2 hend fun h' tk e hk he => ?_) (F.args_zip_next_1 _))))
  obtain ⟨o, ho, hc⟩ := he
  exact wpAny_bind (wpAny_isInstance (T := "StopIteration") (b := true) ⟨o, ho, hc⟩ isSubtype_stop (wpAny_pure (hQ _ _ hk)))

/-- how a zip stands that is being emptied; what is new lies from n0 on -/
structure ZS (n0 : Nat) (z TI TO i1 i2 : Addr) (St1 St2 : Nat → Heap → Prop) (i : Nat) (h : Heap) : Prop where
  zi : (IsZip h z TI TO .none ∧ (∃ a b, IsTupOf2 h TO a b)) ∨ ∃ T f a b, IsZipHeld h z TI TO T f ∧ IsTupOf2 h T a b ∧ n0 ≤ T
  ti : IsTupOf2 h TI (.ref i1) (.ref i2)
  s1 : St1 i h
  s2 : St2 i h
  sz : n0 ≤ h.objs.size
/-- what has been gathered -/
def Gath (P1 P2 : Nat → Value → Prop) (h : Heap) (n0 : Nat) (acc : Array Value) (i : Nat) : Prop :=
  (acc.size = i ∧ acc.toList.Nodup) ∧ ∀ (j : Nat) (v : Value), acc[j]? = some v → ∃ p x1 x2, v = .ref p ∧ n0 ≤ p ∧ P1 j x1 ∧ P2 j x2 ∧ IsTupOf2 h p x1 x2
theorem Gath.keep {h h' : Heap} {n0 : Nat} {acc : Array Value} (g : Gath P1 P2 h n0 acc i) (k : ∀ (b : Addr) (x y : Value), n0 ≤ b → IsTupOf2 h b x y → IsTupOf2 h' b x y) : Gath P1 P2 h' n0 acc i :=
  ⟨g.1, fun j v e => let ⟨p, x1, x2, h1, h2, h3, h4, h5⟩ := g.2 j v e; ⟨p, x1, x2, h1, h2, h3, h4, k _ _ _ h2 h5⟩⟩
theorem Gath.push {h h0 : Heap} {n0 : Nat} {acc : Array Value} (g : Gath P1 P2 h n0 acc i) {p : Addr} {x1 x2 : Value} (g0 : Gath P1 P2 h0 n0 acc i) (hp : h0.objs.size ≤ p) (h2 : n0 ≤ p) (h3 : P1 i x1) (h4 : P2 i x2) (h5 : IsTupOf2 h p x1 x2) : Gath P1 P2 h n0 (acc.push (.ref p)) (i + 1) := by
  refine ⟨⟨by rw [Array.size_push, g.1.1], ?_⟩, fun j v e => ?_⟩
  · rw [Array.toList_push, List.nodup_append]
    refine ⟨g.1.2, by simp, fun a ha b hb e => ?_⟩
    rw [List.mem_singleton.mp hb] at e
    subst e
    obtain ⟨j, hj⟩ := List.getElem?_of_mem ha
    obtain ⟨p', y1, y2, q1, _, _, _, q5⟩ := g0.2 j _ (by rw [← Array.getElem?_toList]; exact hj)
    cases q1
    exact Nat.lt_irrefl _ (Nat.lt_of_lt_of_le (Heap.lt_size q5) hp)
  rw [Array.getElem?_push] at e
  split at e
  · rename_i c
    rw [g.1.1] at c
    cases e
    subst c
    exact ⟨p, x1, x2, rfl, h2, h3, h4, h5⟩
  · exact g.2 j v e
/-- the places below n0 that are written -/
structure ZL (n0 : Nat) (L z TI TO i1 i2 : Addr) (fp1 fp2 : List Addr) : Prop where
  sep : ZipSep2 z TI TO i1 i2 fp1 fp2
  Lz : L ≠ z
  LTI : L ≠ TI
  LTO : L ≠ TO
  L1 : L ∉ fp1
  L2 : L ∉ fp2
  lt : L < n0 ∧ z < n0 ∧ TO < n0 ∧ i1 < n0 ∧ i2 < n0
abbrev lstO (acc : Array Value) (c : Nat) : Obj := { cls := .type "list", dict := none, data := .seq acc c, slots := #[] }
theorem zip_next {n0 : Nat} {L : Addr} {Q : Option Value → Shared → Prop} (Z : ZL n0 L z TI TO i1 i2 fp1 fp2) (D1 : Draws prog w A.in1 i1 fp1 n1 P1 St1) (D2 : Draws prog w A.in1 i2 fp2 n2 P2 St2)
    (hz : ZS n0 z TI TO i1 i2 St1 St2 i s.heap) (hlt1 : i < n1) (hlt2 : i < n2)
    (hQ : ∀ x1 x2 p h' tk, P1 i x1 → P2 i x2 → p = s.heap.objs.size → IsTupOf2 h' p x1 x2 → ZS n0 z TI TO i1 i2 St1 St2 (i + 1) h' → (∀ c o, c ≠ z → c ≠ TO → c ≠ i1 → c ≠ i2 → s.heap.get? c = some o → h'.get? c = some o) → Q (some (.ref p)) { s with heap := h', toks := tk }) :
    wpAny (model prog w) A (pyNext (.ref z)) Q E s := by
  obtain ⟨b1, b2, b3, b4, b5⟩ := Z.lt
  rcases hz.zi with ⟨q1, a, b, q2⟩ | ⟨T, f, a, b, q1, q2, q3⟩
  · refine wpAny_pyNext_zipD2_item Z.sep D1 D2 q1 hz.ti q2 hz.s1 hz.s2 hlt1 hlt2 fun x1 x2 h' tk c1 c2 c3 c4 c5 c6 c7 c8 c9 => ?_
    refine hQ x1 x2 _ h' tk c1 c2 rfl c7 ⟨.inr ⟨_, false, x1, x2, c3, c7, hz.sz⟩, c9 _ _ Z.sep.TIz Z.sep.TITO Z.sep.TIi1 Z.sep.TIi2 hz.ti, c5, c6, by have := hz.sz; omega⟩ c9
  · have t1 : T ≠ z := Nat.ne_of_gt (Nat.lt_of_lt_of_le b2 q3)
    have t2 : T ≠ i1 := Nat.ne_of_gt (Nat.lt_of_lt_of_le b4 q3)
    have t3 : T ≠ i2 := Nat.ne_of_gt (Nat.lt_of_lt_of_le b5 q3)
    refine zhn_item Z.sep D1 D2 q1 q2 hz.ti hz.s1 hz.s2 hlt1 hlt2 fun x1 x2 h' tk c1 c2 c3 c5 c6 c7 c8 c9 => ?_
    refine hQ x1 x2 _ h' tk c1 c2 rfl c7 ⟨.inr ⟨T, true, a, b, c3, c9 _ _ t1 t2 t3 q2, q3⟩, c9 _ _ Z.sep.TIz Z.sep.TIi1 Z.sep.TIi2 hz.ti, c5, c6, by have := hz.sz; omega⟩ fun c o d1 _ d3 d4 q => c9 c o d1 d3 d4 q
theorem zip_stop {n0 : Nat} {L : Addr} {Q : Option Value → Shared → Prop} (Z : ZL n0 L z TI TO i1 i2 fp1 fp2) (D1 : Draws prog w A.in1 i1 fp1 n1 P1 St1) (D2 : Draws prog w A.in1 i2 fp2 n2 P2 St2)
    (hz : ZS n0 z TI TO i1 i2 St1 St2 i s.heap) (hle1 : i ≤ n1) (hle2 : i ≤ n2) (hend : i = n1 ∨ i = n2)
    (hQ : ∀ h' tk, (∀ c o, c ≠ z → c ≠ TO → c ≠ i1 → c ≠ i2 → s.heap.get? c = some o → h'.get? c = some o) → Q none { s with heap := h', toks := tk }) :
    wpAny (model prog w) A (pyNext (.ref z)) Q E s := by
  rcases hz.zi with ⟨q1, a, b, q2⟩ | ⟨T, f, a, b, q1, q2, q3⟩
  · exact wpAny_pyNext_zipD2_end Z.sep D1 D2 q1 hz.ti q2 hz.s1 hz.s2 hle1 hle2 hend hQ
  · exact zhn_end Z.sep D1 D2 q1 q2 hz.ti hz.s1 hz.s2 hle1 hle2 hend fun h' tk c9 => hQ h' tk fun c o d1 _ d3 d4 q => c9 c o d1 d3 d4 q
theorem zip_loop {n0 : Nat} {L : Addr} {R : Result → Shared → Prop} (Z : ZL n0 L z TI TO i1 i2 fp1 fp2) (D1 : Draws prog w A.in1.in1 i1 fp1 n1 P1 St1) (D2 : Draws prog w A.in1.in1 i2 fp2 n2 P2 St2) (hn : min n1 n2 ≤ sizeLine) (res : Value) :
    ∀ (k i : Nat) (s : Shared) (acc : Array Value) (c : Nat), min n1 n2 - i = k → i ≤ min n1 n2 → ZS n0 z TI TO i1 i2 St1 St2 i s.heap → s.heap.get? L = some (lstO acc c) → Gath P1 P2 s.heap n0 acc i →
    (∀ h' tk acc' c', (∀ b o, b ≠ L → b ≠ z → b ≠ TO → b ≠ i1 → b ≠ i2 → s.heap.get? b = some o → h'.get? b = some o) → h'.get? L = some (lstO acc' c') → Gath P1 P2 h' n0 acc' (min n1 n2) → R (.ok (.ret res)) { s with heap := h', toks := tk }) →
    codeAny (model prog w) A (.builtin "list.extend.loop" ⟨[.ref L, .ref z, res], []⟩) R s := by
  have ⟨b1, b2, b3, b4, b5⟩ := Z.lt
  have Li1 : L ≠ i1 := fun q => Z.L1 (q ▸ Z.sep.mem1)
  have Li2 : L ≠ i2 := fun q => Z.L2 (q ▸ Z.sep.mem2)
  intro k
  induction k with
  | zero =>
    intro i s acc c hk hi hst hL hacc hR
    have e : i = min n1 n2 := by omega
    subst e
    refine codeAny_builtin F.entry_extend_loop ?_
    rw [Around.under_plainId F.plain_extend_loop _]
    show wpAny _ A.in1 (pyNext (.ref z) >>= _) _ _ s
    refine wpAny_bind (zip_stop Z D1 D2 hst (by omega) (by omega) (by omega) fun h' tk kk => ?_)
    refine wpAny_pure (hR h' tk acc c (fun b o d1 d2 d3 d4 d5 q => kk b o d2 d3 d4 d5 q) (kk L _ Z.Lz Z.LTO Li1 Li2 hL) (hacc.keep fun b x y hb q => ?_))
    exact kk b _ (Nat.ne_of_gt (Nat.lt_of_lt_of_le b2 hb)) (Nat.ne_of_gt (Nat.lt_of_lt_of_le b3 hb)) (Nat.ne_of_gt (Nat.lt_of_lt_of_le b4 hb)) (Nat.ne_of_gt (Nat.lt_of_lt_of_le b5 hb)) q
  | succ k ih =>
    intro i s acc c hk hi hst hL hacc hR
    refine codeAny_builtin F.entry_extend_loop ?_
    rw [Around.under_plainId F.plain_extend_loop _]
    show wpAny _ A.in1 (pyNext (.ref z) >>= _) _ _ s
    refine wpAny_bind (zip_next Z D1 D2 hst (by omega) (by omega) fun x1 x2 p h' tk px1 px2 hp hpair hst' kk => ?_)
    have hL' := kk L _ Z.Lz Z.LTO Li1 Li2 hL
    have hp' : n0 ≤ p := by rw [hp]; exact hst.sz
    show wpAny _ A.in1 (updateSeq L (·.push (.ref p)) >>= _) _ _ _
    have oth : ∀ (g : Obj → Obj) (b : Addr) (o : Obj), b ≠ L → h'.get? b = some o → (h'.update L g).get? b = some o := fun g b o hb q => (Heap.get?_update_other _ _ (Ne.symm hb)).trans q
    have new : ∀ (b : Addr), n0 ≤ b → b ≠ L := fun b hb => Nat.ne_of_gt (Nat.lt_of_lt_of_le b1 hb)
    refine wpAny_bind ?_
    refine wpAny_updateSeq hL' rfl (wpAny_pure ⟨plainId_quiet F.plain_extend_loop _, ih (i + 1) _ (acc.push (.ref p)) _ (by omega) (by omega) ?_ (Heap.get?_update_self _ hL' rfl) ?_ fun h2 tk2 acc' c' k2 l2 g2 => ?_⟩)
      (by rw [hacc.1.1]; omega) (by show (acc.push _).size ≤ sizeLine + 1; rw [Array.size_push, hacc.1.1]; omega)
    · refine ⟨?_, oth _ _ _ Z.LTI.symm hst'.ti, D1.frame _ _ _ hst'.s1 fun b hb o q => oth _ _ _ (fun z => Z.L1 (z ▸ hb)) q, D2.frame _ _ _ hst'.s2 fun b hb o q => oth _ _ _ (fun z => Z.L2 (z ▸ hb)) q, ?_⟩
      · rcases hst'.zi with ⟨q1, a, b, q2⟩ | ⟨T, f, a, b, q1, q2, q3⟩
        · exact .inl ⟨oth _ _ _ Z.Lz.symm q1, a, b, oth _ _ _ Z.LTO.symm q2⟩
        · exact .inr ⟨T, f, a, b, oth _ _ _ Z.Lz.symm q1, oth _ _ _ (new T q3) q2, q3⟩
      · have := hst'.sz
        show n0 ≤ (h'.update L _).objs.size
        rw [Heap.size_update]
        exact this
    · exact (hacc.keep fun b x y hb q => oth _ _ _ (new b hb) (kk b _ (Nat.ne_of_gt (Nat.lt_of_lt_of_le b2 hb)) (Nat.ne_of_gt (Nat.lt_of_lt_of_le b3 hb)) (Nat.ne_of_gt (Nat.lt_of_lt_of_le b4 hb)) (Nat.ne_of_gt (Nat.lt_of_lt_of_le b5 hb)) q)).push hacc (Nat.le_of_eq hp.symm) hp' px1 px2 (oth _ _ _ (new p hp') hpair)
    · exact hR h2 tk2 acc' c' (fun b o d1 d2 d3 d4 d5 q => k2 b o d1 d2 d3 d4 d5 (oth _ b o d1 (kk b o d2 d3 d4 d5 q))) l2 g2

theorem zip_no_len : typeLookup (.type "zip") "__len__" = pure none := by rw [typeLookup_type, builtinLookup_eq_fast]; kernel_rfl
theorem zip_no_hint : typeLookup (.type "zip") "__length_hint__" = pure none := by rw [typeLookup_type, builtinLookup_eq_fast]; kernel_rfl
theorem zip_collect {Q : List Value → Shared → Prop} (D1 : Draws prog w A.in1.in1 i1 fp1 n1 P1 St1) (D2 : Draws prog w A.in1.in1 i2 fp2 n2 P2 St2) (S : ZipSep2 z TI TO i1 i2 fp1 fp2)
    (hz : IsZip s.heap z TI TO .none) (hTO : ∃ a b, IsTupOf2 s.heap TO a b) (hTI : IsTupOf2 s.heap TI (.ref i1) (.ref i2)) (st1 : St1 0 s.heap) (st2 : St2 0 s.heap)
    (hf1 : ∀ b ∈ fp1, b < s.heap.objs.size) (hf2 : ∀ b ∈ fp2, b < s.heap.objs.size) (hn : min n1 n2 ≤ sizeLine)
    (hQ : ∀ h' tk acc, (∀ b o, b ≠ z → b ≠ TO → b ≠ i1 → b ≠ i2 → s.heap.get? b = some o → h'.get? b = some o) → Gath P1 P2 h' s.heap.objs.size acc (min n1 n2) → Q acc.toList { s with heap := h', toks := tk }) :
    wpAny (model prog w) A (collect (.ref z)) Q E s := by
  have lz : z < s.heap.objs.size := Heap.lt_size hz
  have lTI : TI < s.heap.objs.size := Heap.lt_size hTI
  have lTO : TO < s.heap.objs.size := let ⟨_, _, q⟩ := hTO; Heap.lt_size q
  have l1 := hf1 i1 S.mem1
  have l2 := hf2 i2 S.mem2
  have Z : ZL (s.heap.objs.size + 1) s.heap.objs.size z TI TO i1 i2 fp1 fp2 :=
    ⟨S, Nat.ne_of_gt lz, Nat.ne_of_gt lTI, Nat.ne_of_gt lTO, fun q => Nat.lt_irrefl _ (hf1 _ q), fun q => Nat.lt_irrefl _ (hf2 _ q), Nat.lt_succ_self _, Nat.lt_succ_of_lt lz, Nat.lt_succ_of_lt lTO, Nat.lt_succ_of_lt l1, Nat.lt_succ_of_lt l2⟩
  have hT : s.TypeIs (.ref z) "zip" := ⟨_, hz, rfl⟩
  have up : ∀ (b : Addr) (o : Obj), s.heap.get? b = some o → (s.heap.push (lstO #[] 0)).get? b = some o := fun b o q => Heap.get?_push_of_some _ q
  have hS1 : (s.heap.push (lstO #[] 0)).get? s.heap.objs.size = some (lstO #[] 0) := Heap.get?_push_size _ rfl
  have z1 : ZS (s.heap.objs.size + 1) z TI TO i1 i2 St1 St2 0 (s.heap.push (lstO #[] 0)) :=
    ⟨.inl ⟨up _ _ hz, let ⟨a, b, q⟩ := hTO; ⟨a, b, up _ _ q⟩⟩, up _ _ hTI, D1.frame _ _ _ st1 fun b _ o q => up b o q, D2.frame _ _ _ st2 fun b _ o q => up b o q, by rw [Heap.size_push]; exact Nat.le_refl _⟩
  unfold collect
  refine wpAny_bind (wpAny_runValue (codeAny_builtin F.entry_proto_collect ?_))
  rw [Around.under_plainId F.plain_proto_collect _]
  show wpAny _ A.in1 (newList [] >>= fun l => again (.builtin "list.__iadd__" ⟨[l, .ref z], []⟩)) _ _ s
  refine wpAny_bind (wpAny_newObj_type ?_)
  refine wpAny_pure ⟨plainId_quiet F.plain_list_iadd _, codeAny_builtin F.entry_list_iadd ?_⟩
  rw [Around.under_plainId F.plain_list_iadd _]
  show wpAny _ A.in1 (Builtin.List.listExtendWith (.ref s.heap.objs.size) (.ref z) (.ref s.heap.objs.size)) _ _ { s with heap := s.heap.push (lstO #[] 0) }
  unfold Builtin.List.listExtendWith
  have hT1 : ({ s with heap := s.heap.push (lstO #[] 0) } : Shared).TypeIs (.ref z) "zip" := ⟨_, up _ _ hz, rfl⟩
  refine wpAny_bind (wpAny_typeOf hT1 ?_)
  have e1 : Builtin.List.listSameRef (.ref s.heap.objs.size) (.ref z) = false := by simp [Builtin.List.listSameRef, Nat.ne_of_gt lz]
  have e2 : (Value.type "zip" == Value.type "list") = false := by decide
  have e3 : (Value.type "zip" == Value.type "tuple") = false := by decide
  simp only [e1, e2, e3, Bool.or_false, Bool.false_eq_true, if_false]
  refine wpAny_bind (wpAny_pyIter_zip (s := { s with heap := s.heap.push (lstO #[] 0) }) (up _ _ hz) ?_)
  refine wpAny_bind (wpAny_holding ?_)
  unfold Builtin.List.listLengthHint
  refine wpAny_bind (wpAny_specialOf hT1 zip_no_len ?_)
  show wpAny _ A.in1 (specialOf (Value.ref z) (Str.ofString "__length_hint__") >>= _) _ _ _
  refine wpAny_bind (wpAny_specialOf hT1 zip_no_hint ?_)
  refine wpAny_pure ?_
  show wpAny _ A.in1 (rule "list.extend.makes-room" >>= fun _ => Builtin.List.listTouch (.ref s.heap.objs.size) >>= fun _ =>
    again (.builtin "list.extend.loop" ⟨[.ref s.heap.objs.size, .ref z, .ref s.heap.objs.size], []⟩)) _ _ _
  refine wpAny_bind (wpAny_rule ?_)
  refine wpAny_bind ?_
  show wpAny _ A.in1 (updateSeq s.heap.objs.size (·.push .none) >>= fun _ => updateSeq s.heap.objs.size (·.pop)) _ _ _
  refine wpAny_bind (wpAny_updateSeq hS1 rfl ?_)
  have hS2 := Heap.get?_update_self (Obj.mapSeq (·.push Value.none)) hS1 rfl
  refine wpAny_updateSeq hS2 rfl ?_
  have hS3 := Heap.get?_update_self (Obj.mapSeq (·.pop)) hS2 rfl
  have oth : ∀ (b : Addr) (o : Obj), b ≠ s.heap.objs.size → (s.heap.push (lstO #[] 0)).get? b = some o →
      (((s.heap.push (lstO #[] 0)).update s.heap.objs.size (Obj.mapSeq (·.push Value.none))).update s.heap.objs.size (Obj.mapSeq (·.pop))).get? b = some o :=
    fun b o hb q => (Heap.get?_update_other _ _ (Ne.symm hb)).trans ((Heap.get?_update_other _ _ (Ne.symm hb)).trans q)
  refine wpAny_pure ⟨plainId_quiet F.plain_extend_loop _, zip_loop Z D1 D2 hn _ _ 0 _ #[] _ rfl (Nat.zero_le _) ?_ hS3 ⟨⟨rfl, by simp⟩, fun j v q => by simp at q⟩ fun h' tk acc' c' kk hS' hacc => ?_⟩
  · refine ⟨?_, oth _ _ (Nat.ne_of_lt lTI) z1.ti, D1.frame _ _ _ z1.s1 fun b hb o q => oth b o (Nat.ne_of_lt (hf1 b hb)) q, D2.frame _ _ _ z1.s2 fun b hb o q => oth b o (Nat.ne_of_lt (hf2 b hb)) q, ?_⟩
    · rcases z1.zi with ⟨q1, a, b, q2⟩ | ⟨T, f, a, b, q1, q2, q3⟩
      · exact .inl ⟨oth _ _ (Nat.ne_of_lt lz) q1, a, b, oth _ _ (Nat.ne_of_lt lTO) q2⟩
      · exact .inr ⟨T, f, a, b, oth _ _ (Nat.ne_of_lt lz) q1, oth _ _ (Nat.ne_of_gt q3) q2, q3⟩
    · show _ ≤ (((s.heap.push (lstO #[] 0)).update s.heap.objs.size (Obj.mapSeq (·.push Value.none))).update s.heap.objs.size (Obj.mapSeq (·.pop))).objs.size
      rw [Heap.size_update, Heap.size_update]
      exact z1.sz
  · show wpAny _ A (load s.heap.objs.size >>= _) _ _ _
    refine wpAny_bind (wpAny_load hS' (wpAny_pure ?_))
    refine hQ h' tk acc' (fun b o d2 d3 d4 d5 q => kk b o (Nat.ne_of_lt (Heap.lt_size q)) d2 d3 d4 d5 (oth b o (Nat.ne_of_lt (Heap.lt_size q)) (up b o q))) ⟨hacc.1, fun j v q => ?_⟩
    obtain ⟨p, x1, x2, g1, g2, g3⟩ := hacc.2 j v q
    exact ⟨p, x1, x2, g1, by omega, g3⟩
theorem zip_tuple_new {Q₁ : Value → Shared → Prop} (D1 : Draws prog w A.in1.in1.in1 i1 fp1 n1 P1 St1) (D2 : Draws prog w A.in1.in1.in1 i2 fp2 n2 P2 St2) (S : ZipSep2 z TI TO i1 i2 fp1 fp2)
    (hz : IsZip s.heap z TI TO .none) (hTO : ∃ a b, IsTupOf2 s.heap TO a b) (hTI : IsTupOf2 s.heap TI (.ref i1) (.ref i2)) (st1 : St1 0 s.heap) (st2 : St2 0 s.heap)
    (hf1 : ∀ b ∈ fp1, b < s.heap.objs.size) (hf2 : ∀ b ∈ fp2, b < s.heap.objs.size) (hn : min n1 n2 ≤ sizeLine)
    (hQ : ∀ h' tk acc, (∀ b o, b ≠ z → b ≠ TO → b ≠ i1 → b ≠ i2 → s.heap.get? b = some o → h'.get? b = some o) → Gath P1 P2 h' s.heap.objs.size acc (min n1 n2) → Q₁ (.ref h'.objs.size) { s with heap := h'.push { cls := .type "tuple", data := .seq acc }, toks := tk }) :
    codeAny (model prog w) A (.call (.builtin "tuple.__new__") ⟨[.type "tuple", .ref z], []⟩) (wants Q₁ E) s := by
  refine codeAny_of_tree ?_
  show wpAny _ A.in1 (do checkBuiltinCall "tuple.__new__" ⟨[.type "tuple", .ref z], []⟩; again (.builtin "tuple.__new__" ⟨[.type "tuple", .ref z], []⟩)) _ _ s
  refine wpAny_bind (wpAny_of_eq (F.newCall_tuple_1 _) (wpAny_pure ⟨plainId_quiet F.plain_tuple_new _, codeAny_builtin F.entry_tuple_new ?_⟩))
  rw [Around.under_plainId F.plain_tuple_new _]
  have hsub := sub_tuple_self
  have hinit := init_tuple_lookup
  have hmh := madeHere_tuple
  have ty : s.TypeIs (.ref z) "zip" := ⟨_, hz, rfl⟩
  wp_walk using wpAny_typeOf ty, zip_collect (A := A.in1) D1 D2 S hz hTO hTI st1 st2 hf1 hf2 hn
  intro h' tk acc hk hacc
  show wpAny _ _ (Builtin.Tuple.tupleExact acc.toList.toArray >>= fun v => ret v) _ _ _
  unfold Builtin.Tuple.tupleExact
  have e : acc.toList.toArray = acc := by simp
  rw [e]
  refine wpAny_bind (wpAny_newObj_type ?_ (by show acc.size ≤ sizeLine; rw [hacc.1.1]; exact hn))
  exact wpAny_pure (hQ h' tk acc hk hacc)
theorem zip_tuple {Q : Value → Shared → Prop} (D1 : Draws prog w A.in1.in1.in1.in1 i1 fp1 n1 P1 St1) (D2 : Draws prog w A.in1.in1.in1.in1 i2 fp2 n2 P2 St2) (S : ZipSep2 z TI TO i1 i2 fp1 fp2)
    (hz : IsZip s.heap z TI TO .none) (hTO : ∃ a b, IsTupOf2 s.heap TO a b) (hTI : IsTupOf2 s.heap TI (.ref i1) (.ref i2)) (st1 : St1 0 s.heap) (st2 : St2 0 s.heap)
    (hf1 : ∀ b ∈ fp1, b < s.heap.objs.size) (hf2 : ∀ b ∈ fp2, b < s.heap.objs.size) (hn : min n1 n2 ≤ sizeLine)
    (hQ : ∀ h' tk acc, (∀ b o, b ≠ z → b ≠ TO → b ≠ i1 → b ≠ i2 → s.heap.get? b = some o → h'.get? b = some o) → Gath P1 P2 h' s.heap.objs.size acc (min n1 n2) → Q (.ref h'.objs.size) { s with heap := h'.push { cls := .type "tuple", data := .seq acc }, toks := tk }) :
    wpAny (model prog w) A (call (.type "tuple") [.ref z]) Q E s := by
  refine callType_codes (Q₁ := fun obj s₁ => s₁.TypeIs obj "tuple" ∧ Q obj s₁) F.called_tuple (F.typeCall_tuple_1 _) F.entry_object_init
    (zip_tuple_new (A := A.in1) D1 D2 S hz hTO hTI st1 st2 hf1 hf2 hn fun h' tk acc hk hacc => ⟨⟨_, Heap.get?_push_size _ rfl, rfl⟩, hQ h' tk acc hk hacc⟩) fun obj s₁ h₁ => ?_
  exact ⟨h₁.1, F.args_object_init_2 obj _, object_init_meets F.called_tuple.init.lookup F.called_tuple.made (by decide) prog w A.in1 _ s₁ ⟨h₁.1, rfl, h₁.2⟩⟩
end
end VS

set_option Elab.async false
set_option linter.all false
set_option maxRecDepth 100000
/-! VsX: several new objects at once; tuple(zip(a, b)) as one rule. -/
namespace VS
open PySem PySem.Spec PyProof.Rows L2
inductive Lays : Hp → List (Addr × HO) → Hp → Prop where
  | nil {H : Hp} : Lays H [] H
  | cons {H H' : Hp} {p : Addr} {o : HO} {l : List (Addr × HO)} : H p = none → Lays (upd H p o) l H' → Lays H ((p, o) :: l) H'
theorem Lays.same : ∀ {l : List (Addr × HO)} {H H' : Hp}, Lays H l H' → Same H H'
  | _, _, _, .nil => Same.refl _
  | _, _, _, .cons h r => (same_upd h).trans r.same
theorem Lays.get : ∀ {l : List (Addr × HO)} {H H' : Hp} {p : Addr} {o : HO}, Lays H l H' → (p, o) ∈ l → H' p = some o
  | _, _, _, _, _, .nil, m => by cases m
  | _, _, _, _, _, .cons h r, m => by
    rcases List.mem_cons.mp m with e | m
    · cases e
      exact r.same _ _ upd_same
    · exact r.get m
theorem lays_mk : ∀ (l : List (Addr × HO)) (H : Hp), (∀ q ∈ l, H q.1 = none) → (l.map (·.1)).Nodup → ∃ H', Lays H l H'
  | [], H, _, _ => ⟨H, .nil⟩
  | (p, o) :: l, H, h, nd => by
    rw [List.map_cons, List.nodup_cons] at nd
    have hp : H p = none := h (p, o) List.mem_cons_self
    obtain ⟨H', r⟩ := lays_mk l (upd H p o) (fun q hq => by
      rw [upd_ne (fun e => nd.1 (by have := List.mem_map_of_mem (f := (·.1)) hq; rwa [show q.1 = p from e] at this))]
      exact h q (List.mem_cons_of_mem _ hq)) nd.2
    exact ⟨H', .cons hp r⟩
theorem RR.lays {K : Frag'} {C : Ct} {σ : L2.St} {ρ : Env'} {hid : Hid} : ∀ {l : List (Addr × HO)} {S H H' : Hp}, RR K C S σ H ρ hid → Lays H l H' → ∃ S', Lays S l S' ∧ RR K C S' σ H' ρ hid
  | _, S, _, _, R, .nil => ⟨S, .nil, R⟩
  | _, S, _, _, R, .cons h r => by
    obtain ⟨S', g, R'⟩ := (R.still h).lays r
    exact ⟨S', .cons (R.sub.free h) g, R'⟩
section
variable {X : Cx} {pins : List (Addr × Obj)} {σ : L2.St} {H H2 : Hp} {s : Shared} {hf : Heap}
theorem lays_aux (l : List (Addr × HO)) : ∀ (H1 : Hp), Un (frs X.stack) [] H H1 s.heap hf → HOk X.prog X.w H1 hf → (∀ q ∈ l, s.heap.objs.size ≤ q.1 ∧ ∀ G : Hp, ObjOk X.prog X.w G hf q.1 q.2) → Lays H1 l H2 → Un (frs X.stack) [] H H2 s.heap hf ∧ HOk X.prog X.w H2 hf := by
  induction l with
  | nil =>
    intro H1 u k _ h
    cases h
    exact ⟨u, k⟩
  | cons z l ih =>
    intro H1 u k hq g
    cases g with
    | cons h r =>
      rename_i p o
      obtain ⟨hp, ho⟩ := hq _ List.mem_cons_self
      refine ih _ ?_ ?_ (fun q m => hq q (List.mem_cons_of_mem _ m)) r
      · exact ⟨u.keep, u.slot, fun b x q n e => by rw [upd_ne (Nat.ne_of_lt (Nat.lt_of_lt_of_le (Heap.lt_size q) hp))]; exact u.free b x q n e, u.there, fun b xs q => by rw [upd_ne (ne_of_none (u.tups b xs q) h)]; exact u.tups b xs q,
          fun b x y q => by rw [upd_ne (ne_of_none (u.frzs b x y q) h)]; exact u.frzs b x y q, fun b ps q => let ⟨m, e⟩ := u.tbls b ps q; ⟨m, by rw [upd_ne (ne_of_none e h)]; exact e⟩⟩
      · intro b x e
        by_cases hb : b = p
        · subst hb
          rw [upd_same] at e
          cases e
          exact ho _
        · rw [upd_ne hb] at e
          exact (k b x e).stay (fun c v _ q => q) (fun c q => by rw [upd_ne (ne_of_none q h)]; exact q) fun c xs q => by rw [upd_ne (ne_of_none q h)]; exact q
theorem lays_inv {t' : Nat} (I : Inv X pins σ H s) (k : ∀ b u, s.heap.get? b = some u → hf.get? b = some u) {l : List (Addr × HO)} (h : Lays H l H2) (hq : ∀ q ∈ l, s.heap.objs.size ≤ q.1 ∧ ∀ G : Hp, ObjOk X.prog X.w G hf q.1 q.2) :
    Inv X pins σ H2 { s with heap := hf, toks := t' } :=
  let ⟨u, o⟩ := lays_aux l H (Un.kept k) (I.hok.kept k) hq h
  I.call (ch := []) u o I.bare fun _ z => nomatch z
end
theorem refs_of : ∀ {l : List Value}, (∀ v ∈ l, ∃ p : Addr, v = .ref p) → ∃ ps : List Addr, l = ps.map Value.ref
  | [], _ => ⟨[], rfl⟩
  | v :: l, h => by
    obtain ⟨p, rfl⟩ := h v List.mem_cons_self
    obtain ⟨ps, rfl⟩ := refs_of fun v hv => h v (List.mem_cons_of_mem _ hv)
    exact ⟨p :: ps, rfl⟩
def zipO (ps : List Addr) (l : List (V × V)) : List (Addr × HO) := (ps.zip l).map fun z => (z.1, HO.tup [z.2.1, z.2.2])
theorem zipO_fst {ps : List Addr} {l : List (V × V)} (h : ps.length = l.length) : (zipO ps l).map (·.1) = ps := by
  unfold zipO
  rw [List.map_map]
  show (ps.zip l).map Prod.fst = ps
  exact List.map_fst_zip (Nat.le_of_eq h)
theorem zipO_mem {ps : List Addr} {l : List (V × V)} {q : Addr × HO} (h : q ∈ zipO ps l) : ∃ (j : Nat) (x y : V), ps[j]? = some q.1 ∧ l[j]? = some (x, y) ∧ q.2 = .tup [x, y] := by
  obtain ⟨⟨p, x, y⟩, hz, rfl⟩ := List.mem_map.mp h
  obtain ⟨j, hj⟩ := List.getElem?_of_mem hz
  rw [List.getElem?_zip_eq_some] at hj
  exact ⟨j, x, y, hj.1, hj.2, rfl⟩
def tTupZip (K : Frag') (ta : TA) : TE := fun σ H Q => ta σ H fun vs H1 => ∃ a b xs ys, vs = [V.ref a, V.ref b] ∧ SqT K H1 a xs ∧ SqT K H1 b ys ∧
  ∀ (ps : List Addr) (q : Addr) (H2 : Hp), ps.length = (xs.zip ys).length → Lays H1 (zipO ps (xs.zip ys) ++ [(q, .tup (ps.map V.ref))]) H2 → Q (.ref q) H2
theorem zsep {n a b : Nat} (la : a < n) (lb : b < n) : ZipSep2 (n + 4) (n + 2) (n + 3) n (n + 1) [n, a] [n + 1, b] := by
  have ne (x y : Nat) (h : x ≠ y) : (x : Addr) ≠ (y : Addr) := h
  constructor <;> first
    | (refine ne _ _ ?_; omega)
    | exact List.mem_cons_self
    | (simp only [List.mem_cons, List.not_mem_nil, or_false, not_or]; refine ⟨ne _ _ ?_, ne _ _ ?_⟩ <;> omega)
theorem pe_tupZip {X : Cx} {a b : Expr} {ta : TA} {p p2 pos pos2 : Pos} (hc : X.calm = true) (hg : Gl X "tuple") (hm : X.mg "tuple" = none) (hg2 : Gl X "zip") (hm2 : X.mg "zip" = none) (ha : PA X [a, b] ta)
    (hs : starEach [a, b] X.env = (false, eval a X.env) :: starEach [b] X.env := by rfl) (hpl : (backTo pos2 (starEach [b] X.env)).any (·.1) = false := by rfl)
    (na : starEach [.Call (.Name "zip" p2) [a, b] [] pos2] X.env = (false, eval (.Call (.Name "zip" p2) [a, b] [] pos2) X.env) :: starEach [] X.env := by rfl) :
    PE X (.Call (.Name "tuple" p) [.Call (.Name "zip" p2) [a, b] [] pos2] [] pos) (tTupZip X.K ta) := by
  refine ⟨fun pins s σ H Q I h => ?_⟩
  refine Call_ (ld_blt I hg hm boot_tuple (PyProof.Rows.callWith_type1 (PyProof.Rows.args_cons ?_ na) na rfl))
  refine Call_ (ld_blt I hg2 hm2 PyProof.Rows.boot_zip (PyProof.Rows.callWith_type1 (thn (ha.run pos2 pins s σ H _ I h) fun us s1 ⟨vs, H1, I1, r1, q1⟩ => ?_) hs hpl))
  obtain ⟨a, b, xs, ys, ex, hqx, hqy, q⟩ := q1
  subst ex
  cases r1 with
  | cons r rr =>
    cases rr with
    | cons r' rr =>
      cases rr
      cases r
      cases r'
      obtain ⟨its, rv, p1, z1⟩ := I1.tuple hqx
      obtain ⟨its2, rv2, p2, z2⟩ := I1.tuple hqy
      obtain ⟨o1, ho1, _⟩ := id p1
      obtain ⟨o2, ho2, _⟩ := id p2
      have la := Heap.lt_size ho1
      have lb := Heap.lt_size ho2
      refine RZ.call_zipT (show s1.heap.IsTuple a its.toArray from p1) (show s1.heap.IsTuple b its2.toArray from p2) fun h' hz hTI hTO h1 h2 hsz hk => PyProof.Rows.args_nil ?_
      have hh : X.A.handled = none := I1.ok.hd hc
      have ta' : h'.IsTuple a its.toArray := (show s1.heap.IsTuple a its.toArray from p1).at fun o e => hk _ o e
      have tb' : h'.IsTuple b its2.toArray := (show s1.heap.IsTuple b its2.toArray from p2).at fun o e => hk _ o e
      have la' : a < h'.objs.size := by rw [hsz]; exact Nat.lt_of_lt_of_le la (Nat.le_add_right _ _)
      have lb' : b < h'.objs.size := by rw [hsz]; exact Nat.lt_of_lt_of_le lb (Nat.le_add_right _ _)
      have S := zsep la lb
      refine zip_tuple (s := { s1 with heap := h' }) (Draws.tuple (by exact hh) s1.heap.objs.size a (fun e => Nat.lt_irrefl _ (e ▸ la)) its.toArray) (Draws.tuple (by exact hh) (s1.heap.objs.size + 1) b (fun e => Nat.lt_irrefl _ (Nat.lt_trans (Nat.lt_succ_self s1.heap.objs.size) (by rw [e] at lb; exact lb))) its2.toArray) S hz ⟨_, _, hTO⟩ hTI ⟨h1, ta'⟩ ⟨h2, tb'⟩ ?_ ?_ ?_ fun hl tk acc kk ga => ?_
      · intro c hc
        rcases List.mem_cons.mp hc with rfl | hc
        · show _ < h'.objs.size
          rw [hsz]
          exact Nat.lt_add_of_pos_right (by decide)
        · rw [List.mem_singleton.mp hc]
          exact la'
      · intro c hc
        rcases List.mem_cons.mp hc with rfl | hc
        · show _ < h'.objs.size
          rw [hsz]
          exact Nat.add_lt_add_left (by decide) s1.heap.objs.size
        · rw [List.mem_singleton.mp hc]
          exact lb'
      · rw [List.size_toArray, List.size_toArray]
        have := rv.length
        omega
      obtain ⟨⟨ga1, ga2⟩, ga3⟩ := ga
      obtain ⟨ps, hps⟩ := refs_of (l := acc.toList) fun v hv => by
        obtain ⟨j, hj⟩ := List.getElem?_of_mem hv
        obtain ⟨p, _, _, e, _⟩ := ga3 j v (by rw [← Array.getElem?_toList]; exact hj)
        exact ⟨p, e⟩
      have hlen : ps.length = (xs.zip ys).length := by
        have e1 : acc.toList.length = ps.length := by rw [hps, List.length_map]
        rw [← e1, Array.length_toList, ga1, List.length_zip, rv.length, rv2.length, List.size_toArray, List.size_toArray]
      have inp : ∀ (j : Nat) (p : Addr), ps[j]? = some p → ∃ x1 x2, h'.objs.size ≤ p ∧ its[j]? = some x1 ∧ its2[j]? = some x2 ∧ IsTupOf2 hl p x1 x2 := fun j p hj => by
        obtain ⟨p', x1, x2, e, g1, g2, g3, g4⟩ := ga3 j (.ref p) (by rw [← Array.getElem?_toList, hps, List.getElem?_map, hj]; rfl)
        cases e
        exact ⟨x1, x2, g1, by simpa using g2, by simpa using g3, g4⟩
      have gr : s1.heap.objs.size ≤ h'.objs.size := by rw [hsz]; exact Nat.le_add_right _ _
      have frz : ∀ p ∈ ps, s1.heap.objs.size ≤ p ∧ p < hl.objs.size := fun p hp => by
        obtain ⟨j, hj⟩ := List.getElem?_of_mem hp
        obtain ⟨x1, x2, g1, _, _, g4⟩ := inp j p hj
        exact ⟨Nat.le_trans gr g1, Heap.lt_size g4⟩
      have keep : ∀ c u, s1.heap.get? c = some u → (hl.push { cls := .type "tuple", data := .seq acc }).get? c = some u := fun c u e => by
        have lc : c < s1.heap.objs.size := Heap.lt_size e
        have nn : ∀ k : Nat, c ≠ s1.heap.objs.size + k := fun k => Nat.ne_of_lt (Nat.lt_of_lt_of_le lc (Nat.le_add_right _ _))
        exact Heap.get?_push_of_some _ (kk c u (nn 4) (nn 3) (nn 0) (nn 1) (hk c u e))
      have gl : s1.heap.objs.size ≤ hl.objs.size := by
        refine Nat.le_of_lt ?_
        have hT2 : hl.get? (s1.heap.objs.size + 2) = some _ := kk (s1.heap.objs.size + 2) _ S.TIz S.TITO S.TIi1 S.TIi2 hTI
        exact Nat.lt_of_le_of_lt (Nat.le_add_right s1.heap.objs.size 2) (Heap.lt_size hT2)
      obtain ⟨H2, L⟩ := lays_mk (zipO ps (xs.zip ys) ++ [(hl.objs.size, .tup (ps.map V.ref))]) H1 (fun z hz => by
        refine I1.hok.fresh ?_
        rcases List.mem_append.mp hz with hz | hz
        · obtain ⟨j, x, y, e1, _, _⟩ := zipO_mem hz
          exact (frz _ (List.mem_of_getElem? e1)).1
        · rw [List.mem_singleton.mp hz]
          exact gl) (by
        rw [List.map_append, zipO_fst hlen, List.nodup_append]
        refine ⟨?_, by simp, fun c hc d hd e => ?_⟩
        · rw [hps] at ga2
          exact (List.pairwise_map.mp ga2).imp fun h e => h (by rw [e])
        · rw [List.mem_singleton.mp hd] at e
          exact absurd (frz c hc).2 (by rw [e]; exact Nat.lt_irrefl _))
      refine ⟨.ref hl.objs.size, H2, ?_, rfl, q ps _ H2 hlen L⟩
      have fin := lays_inv (s := s1) (t' := tk) I1 keep L ?_
      · exact fin
      intro z hz
      rcases List.mem_append.mp hz with hz | hz
      · obtain ⟨j, x, y, e1, e2, e3⟩ := zipO_mem hz
        rw [List.getElem?_zip_eq_some] at e2
        obtain ⟨u1, u2, _, g2, g3, g4⟩ := inp j _ e1
        obtain ⟨w1, hw1, rw1⟩ := rv.get e2.1
        obtain ⟨w2, hw2, rw2⟩ := rv2.get e2.2
        rw [g2] at hw1
        rw [g3] at hw2
        cases hw1
        cases hw2
        refine ⟨(frz _ (List.mem_of_getElem? e1)).1, fun G => ?_⟩
        rw [e3]
        exact ⟨by show 2 ≤ sizeLine; decide, [u1, u2], .cons rw1 (.cons rw2 .nil), ⟨_, Heap.get?_push_of_some _ g4, rfl, _, rfl⟩⟩
      · rw [List.mem_singleton.mp hz]
        refine ⟨gl, fun G => ⟨?_, acc.toList, ?_, ?_⟩⟩
        · rw [List.length_map, hlen, List.length_zip, rv.length]
          omega
        · rw [hps]
          exact vals_refs ps
        · rw [Array.toArray_toList]
          exact IsTup.new _ _
def zipD : List D → Option D
  | [.tuple a, .tuple b] => some (.tuple ((a.zip b).map fun p => .tuple [p.1, p.2]))
  | _ => none
theorem dp_zip {K : Frag'} {S : Hp} : ∀ {xs ys : List V} {u v : List D} (ps : List Addr), ps.length = (xs.zip ys).length → (∀ z ∈ zipO ps (xs.zip ys), S z.1 = some z.2) → DpAll K S xs u → DpAll K S ys v → DpAll K S (ps.map V.ref) ((u.zip v).map fun p => .tuple [p.1, p.2])
  | _, _, _, _, ps, hl, hm, .nil, _ => by
    have : ps = [] := List.eq_nil_of_length_eq_zero (by simpa using hl)
    subst this
    exact .nil
  | _, _, _, _, ps, hl, hm, .cons _ _, .nil => by
    have : ps = [] := List.eq_nil_of_length_eq_zero (by simpa using hl)
    subst this
    exact .nil
  | _, _, _, _, [], hl, hm, .cons hx da, .cons hy db => by simp at hl
  | _, _, _, _, p :: ps, hl, hm, .cons hx da, .cons hy db =>
    .cons (.tup (.inl (.inl (hm (p, .tup [_, _]) (by simp [zipO])))) (.cons hx (.cons hy .nil))) (dp_zip ps (by simpa using hl) (fun z hz => hm z (by simp only [zipO, List.zip_cons_cons, List.map_cons, List.mem_cons]; exact .inr hz)) da db)
theorem e_tupZip {X : Cx} {C : Ct} {a b : Expr} {os : List Opd} {p p2 pos pos2 : Pos} (hc : X.calm = true) (hg : Gl X "tuple") (hm : X.mg "tuple" = none) (hg2 : Gl X "zip") (hm2 : X.mg "zip" = none) (ha : POs X C [a, b] os)
    (hs : starEach [a, b] X.env = (false, eval a X.env) :: starEach [b] X.env := by rfl) (hpl : (backTo pos2 (starEach [b] X.env)).any (·.1) = false := by rfl)
    (na : starEach [.Call (.Name "zip" p2) [a, b] [] pos2] X.env = (false, eval (.Call (.Name "zip" p2) [a, b] [] pos2) X.env) :: starEach [] X.env := by rfl) :
    PE X (.Call (.Name "tuple" p) [.Call (.Name "zip" p2) [a, b] [] pos2] [] pos) (rdE X.K C (mOp zipD os)) := PE.imp (pe_tupZip hc hg hm hg2 hm2 ha.pa hs hpl na) fun σ H Q q => by
  obtain ⟨S, ρ, hid, R, d, ρ', e, q⟩ := q
  obtain ⟨⟨ds, ρ1⟩, h1, e⟩ := Option.bind_eq_some_iff.mp e
  obtain ⟨d1, h2, e⟩ := Option.bind_eq_some_iff.mp e
  cases e
  refine tOs_ok R h1 fun S' vs H' s R' al => ?_
  have h2 : zipD ds = some d := h2
  unfold zipD at h2
  split at h2
  · rename_i u v
    cases h2
    cases al with
    | cons g1 t =>
      cases t with
      | cons g2 t =>
        cases t
        obtain ⟨pa, xs, rfl, sa, da⟩ := g1.tup
        obtain ⟨pb, ys, rfl, sb, db⟩ := g2.tup
        refine ⟨pa, pb, xs, ys, rfl, seqT_same R'.sub sa, seqT_same R'.sub sb, fun ps r H2 hl L => ?_⟩
        obtain ⟨S2, LS, R2⟩ := R'.lays L
        refine q S2 (.ref r) H2 (s.trans LS.same) R2 (.of (.tup (.inl (.inl (LS.get (List.mem_append_right _ List.mem_cons_self)))) ?_))
        exact dp_zip ps hl (fun z hz => LS.get (List.mem_append_left _ hz)) (DpAll.same LS.same da) (DpAll.same LS.same db)
  · cases h2
end VS

set_option Elab.async false
set_option linter.all false
set_option maxRecDepth 100000
/-! VsY: sorted(set(xs)) and len(set(xs)) of ints and of tuples of ints; sorted(dict) of texts. -/
namespace VS
open PySem PySem.Spec PyProof.Rows L2

/-! ### tuples of ints in order, each once -/
def tins (k : List Int) : List (List Int) → List (List Int)
  | [] => [k]
  | x :: xs => if k < x then k :: x :: xs else if k = x then x :: xs else x :: tins k xs
def tsort (ks : List (List Int)) : List (List Int) := ks.foldr tins []
theorem tins_mem {k j : List Int} : ∀ {xs : List (List Int)}, j ∈ tins k xs ↔ j = k ∨ j ∈ xs
  | [] => by simp [tins]
  | x :: xs => by
    unfold tins
    split
    · simp
    · split
      · rename_i e
        subst e
        simp
      · rw [List.mem_cons, tins_mem, List.mem_cons]
        constructor
        · rintro (h | h | h)
          · exact .inr (.inl h)
          · exact .inl h
          · exact .inr (.inr h)
        · rintro (h | h | h)
          · exact .inr (.inl h)
          · exact .inl h
          · exact .inr (.inr h)
theorem lt_tot {x y : List Int} (h : ¬ x < y) (n : x ≠ y) : y < x := by
  rcases Std.le_total (a := x) (b := y) with c | c
  · exact absurd (Std.le_antisymm c (Std.not_lt.mp h)) n
  · exact Std.not_le.mp fun d => n (Std.le_antisymm d c)
theorem tins_lt {k : List Int} : ∀ {xs : List (List Int)}, xs.Pairwise (· < ·) → (tins k xs).Pairwise (· < ·)
  | [], _ => by simp [tins]
  | x :: xs, h => by
    rw [List.pairwise_cons] at h
    unfold tins
    split
    · rename_i c
      refine List.pairwise_cons.mpr ⟨fun y hy => ?_, List.pairwise_cons.mpr h⟩
      rcases List.mem_cons.mp hy with rfl | hy
      · exact c
      · exact Std.lt_trans c (h.1 y hy)
    · split
      · exact List.pairwise_cons.mpr h
      · rename_i c1 c2
        refine List.pairwise_cons.mpr ⟨fun y hy => ?_, tins_lt h.2⟩
        rcases tins_mem.mp hy with rfl | hy
        · exact lt_tot c1 c2
        · exact h.1 y hy
theorem tsort_mem {j : List Int} : ∀ {ks : List (List Int)}, j ∈ tsort ks ↔ j ∈ ks
  | [] => Iff.rfl
  | k :: ks => by
    show j ∈ tins k (tsort ks) ↔ _
    rw [tins_mem, tsort_mem, List.mem_cons]
theorem tsort_lt : ∀ {ks : List (List Int)}, (tsort ks).Pairwise (· < ·)
  | [] => .nil
  | k :: ks => tins_lt (tsort_lt (ks := ks))
theorem slt_uniq {α : Type} {lt : α → α → Prop} (tr : ∀ a b c, lt a b → lt b c → lt a c) (ir : ∀ a, ¬ lt a a) : ∀ {xs ys : List α}, xs.Pairwise lt → ys.Pairwise lt → (∀ k, k ∈ xs ↔ k ∈ ys) → xs = ys
  | [], [], _, _, _ => rfl
  | [], y :: ys, _, _, h => absurd ((h y).mpr List.mem_cons_self) (by simp)
  | x :: xs, [], _, _, h => absurd ((h x).mp List.mem_cons_self) (by simp)
  | x :: xs, y :: ys, hx, hy, h => by
    rw [List.pairwise_cons] at hx hy
    have e : x = y := by
      rcases List.mem_cons.mp ((h x).mp List.mem_cons_self) with e | h1
      · exact e
      · rcases List.mem_cons.mp ((h y).mpr List.mem_cons_self) with e | h2
        · exact e.symm
        · exact absurd (tr _ _ _ (hy.1 x h1) (hx.1 y h2)) (ir _)
    subst e
    congr 1
    refine slt_uniq tr ir hx.2 hy.2 fun k => ?_
    constructor
    · intro hk
      rcases List.mem_cons.mp ((h k).mp (List.mem_cons_of_mem _ hk)) with e | hk2
      · exact absurd (e ▸ hx.1 k hk) (ir _)
      · exact hk2
    · intro hk
      rcases List.mem_cons.mp ((h k).mpr (List.mem_cons_of_mem _ hk)) with e | hk2
      · exact absurd (e ▸ hy.1 k hk) (ir _)
      · exact hk2
theorem tlt_uniq {xs ys : List (List Int)} (hx : xs.Pairwise (· < ·)) (hy : ys.Pairwise (· < ·)) (h : ∀ k, k ∈ xs ↔ k ∈ ys) : xs = ys := slt_uniq (lt := fun x y : List Int => x < y) (fun _ _ _ a b => Std.lt_trans a b) (fun _ => Std.lt_irrefl) hx hy h

/-! ### a list of tuples of ints, sorted in its place -/
abbrev tI (k : List Int) : D := .tuple (k.map .int)
section
variable {P : Program} {w : World} {A : Around} {E : Value → Shared → Prop} {s : Shared}
theorem readsAll_ints {h : Heap} : ∀ {k : List Int} {vs : List Value}, ItemsAre (intKind P w) k vs → PySem.ReadsAll h vs (k.map .int) []
  | _, _, .nil => .nil
  | _, _, .cons h t => by
    obtain ⟨tk, rfl⟩ := Value.isInt_shape h
    exact ReadsAll.cons (as := []) (bs := []) (.int _ _) (readsAll_ints t)
theorem reads_tup {h : Heap} {k : List Int} {b : Addr} (x : IsT P w h k b) : PySem.Reads h (.ref b) (tI k) [] := by
  obtain ⟨o, items, n, ho, hc, hd, hi⟩ := x
  exact .tuple ho hc hd (readsAll_ints hi)
open PySem.W PySem.Calls in
theorem sortsAt_tup {vs : List Value} {ds : List PyData} (e : EachIs (fun v d => ∃ as, PySem.Reads s.heap v d as) vs ds) (hal : AllAlike ds) (hk : PySem.W.Sortable ds ∨ (vs.length < 2 ∧ ∀ d ∈ ds, d = .tuple [])) (hu : ∀ d, d ∈ ds → A.units + d.depth < cLine) : SortsAt P w A s (dataKind s.heap ds) vs := by
  rcases hk with hk | ⟨hl, hn⟩
  · exact SortsAt.data e hal hk hu
  · refine ⟨fun v hv => ?_, tuples' false, ?_, fun h2 => absurd h2 (by omega)⟩
    · obtain ⟨d, hd, as, r⟩ := e.left v hv
      exact ⟨_, dataKind_some hal hd r⟩
    · intro E x y a b Q ha hb hq
      obtain ⟨d, as, hd, ra, rfl⟩ := dataKind_inv ha
      obtain ⟨d', as', hd', rb, rfl⟩ := dataKind_inv hb
      have room := hu d hd
      have e1 := hn d hd
      have e2 := hn d' hd'
      subst e1
      subst e2
      cases ra with
      | @tuple l o xs n _ _ h1 h2 h3 h4 =>
        cases rb with
        | @tuple l' o' xs' n' _ _ k1 k2 k3 k4 =>
          have q1 := h4
          have q2 := k4
          cases q1h : xs.toList with
          | cons u r =>
            rw [q1h] at h4
            cases h4
          | nil =>
            cases q2h : xs'.toList with
            | cons u r =>
              rw [q2h] at k4
              cases k4
            | nil =>
              refine kat_lt h1 h3 k1 k3 (katLex_alike [] [] 0 _ _ _ _ q1 q2 rfl ?_ (fun hb _ x r t ex => absurd ex (by simp)) ?_ hq)
              · have : PyData.depth (.tuple []) = PyData.depthAll [] + 1 := rfl
                omega
              · have z1 : xs.size = 0 := by rw [← Array.length_toList, q1h]; rfl
                have z2 : xs'.size = 0 := by rw [← Array.length_toList, q2h]; rfl
                rw [z1, z2]
                rfl
end
theorem perm_map_inv {α β : Type} {f : α → β} : ∀ {vs : List β} {L : List α}, vs.Perm (L.map f) → ∃ L1 : List α, L1.Perm L ∧ vs = L1.map f
  | [], L, h => by
    have : L = [] := List.map_eq_nil_iff.mp (List.nil_perm.mp h)
    subst this
    exact ⟨[], .refl _, rfl⟩
  | v :: vs, L, h => by
    obtain ⟨x, hx, rfl⟩ := List.mem_map.mp (h.subset List.mem_cons_self)
    obtain ⟨a, b, rfl⟩ := List.append_of_mem hx
    have p : (a ++ x :: b).Perm (x :: (a ++ b)) := List.perm_middle
    obtain ⟨L1, q1, rfl⟩ := perm_map_inv (L := a ++ b) ((List.perm_cons _).mp (h.trans (p.map f)))
    exact ⟨x :: L1, (q1.cons x).trans p.symm, rfl⟩
theorem one_of {α : Type} {c : α} : ∀ {l : List α}, l.Nodup → (∀ x ∈ l, x = c) → l.length ≤ 1
  | [], _, _ => Nat.zero_le _
  | [x], _, _ => Nat.le_refl _
  | x :: y :: l, nd, h => by
    have e1 := h x List.mem_cons_self
    have e2 := h y (List.mem_cons_of_mem _ List.mem_cons_self)
    subst e1
    subst e2
    exact absurd List.mem_cons_self (List.nodup_cons.mp nd).1
theorem alike_tI (a b : List Int) : PySem.W.alike (tI a) (tI b) = true := PySem.W.alike_ints a b
theorem dataLe_tI {a b : List Int} : PySem.W.dataLe false id (tI a) (tI b) = !decide (b < a) := by
  show (!PySem.W.dataLt (tI b) (tI a)) = _
  rw [PySem.W.dataLt_tuple]
  show (!PySem.W.rowLt _ _) = _
  rw [PySem.W.dataLt_ints]
/-- all empty, or none -/
def Even (ks : List (List Int)) : Prop := (∀ k ∈ ks, k ≠ []) ∨ ∀ k ∈ ks, k = []
instance {ks : List (List Int)} : Decidable (Even ks) := inferInstanceAs (Decidable ((∀ k ∈ ks, k ≠ []) ∨ ∀ k ∈ ks, k = []))
section
variable {P : Program} {w : World} {A : Around} {E : Value → Shared → Prop} {s : Shared}
theorem sorted_setD {a : Addr} {L : List (Addr × List Int)} {es : Array (Int × Value)} {ep : Nat} {t : SetTable} {Q : Value → Shared → Prop} (R : SetTR P w s.heap a L es ep t) (hh : A.handled = none) (hu : A.units + 65 < cLine) (hev : Even (L.map (·.2)))
    (hQ : ∀ s' p (out : Array Value) (c : Nat) (L' : List (Addr × List Int)), (∀ b o, s.heap.get? b = some o → s'.heap.get? b = some o) → s'.gens = s.gens → s'.os = s.os → s.heap.objs.size ≤ p →
      s'.heap.get? p = some (seqObj "list" out c) → out.toList = L'.map (fun q => Value.ref q.1) → L'.Perm L → L'.Pairwise (fun q r => q.2 < r.2) → Q (.ref p) s') :
    wpAny (model P w) A (call (.builtin "sorted") [.ref a]) Q E s := by
  obtain ⟨o, ho, hex, hd⟩ := R.ob
  have hsz := R.size
  have hfew := R.few
  refine Calls.call_function_entry kind_sorted plain_sorted entry_sorted (args_sorted1 _) ?_
  unfold Builtin.«sorted»
  refine wpAny_bind (m := checkCount "sorted" 1 1 _) (wpAny_pure ?_)
  refine wpAny_bind (collect_set (A := A.in1) hh ⟨o, ho, hex.1, hd⟩ R.fits (by unfold scanBound; omega) R.tab.ris R.led fun s1 vs kp hz g1 o1 pm => ?_)
  have hes : es.toList.map (·.2) = L.map fun q => Value.ref q.1 := by
    rw [R.rows]
    unfold rowsOf
    rw [List.map_map]
    rfl
  rw [hes] at pm
  obtain ⟨L1, pL, rfl⟩ := perm_map_inv pm
  have hvl : L1.length < 64 := by rw [pL.length_eq]; exact hfew
  have tup : ∀ q ∈ L1, IsT P w s1.heap q.2 q.1 := fun q hq => isT_keep (R.tup q (pL.mem_iff.mp hq)) kp
  have hlen : (L1.map fun q => Value.ref q.1).length = L1.length := List.length_map _
  refine wpAny_bind (wpAny_newList ?_ (by rw [hlen, sizeLine_eq]; omega))
  have hoL : (s1.heap.push (seqObj "list" (L1.map fun q => Value.ref q.1).toArray 0)).get? s1.heap.objs.size = some (seqObj "list" (L1.map fun q => Value.ref q.1).toArray 0) := Heap.get?_push_size _ rfl
  have er : ∀ (g : Heap), (∀ b u, s1.heap.get? b = some u → g.get? b = some u) → ∀ l : List (Addr × List Int), (∀ q ∈ l, q ∈ L1) → PySem.W.EachIs (fun v (b : Addr × List Int) => v = Value.ref b.1 ∧ ∃ as, PySem.Reads g v (tI b.2) as) (l.map fun q => Value.ref q.1) l := fun g kg l hl => by
    induction l with
    | nil => exact .nil
    | cons q l ih => exact .cons ⟨rfl, _, reads_tup (P := P) (w := w) (isT_keep (tup q (hl q List.mem_cons_self)) kg)⟩ (ih fun r hr => hl r (List.mem_cons_of_mem _ hr))
  have ksort : ∀ b u, s1.heap.get? b = some u → (PySem.W.sortingHeap (s1.heap.push (seqObj "list" (L1.map fun q => Value.ref q.1).toArray 0)) s1.heap.objs.size (L1.map fun q => Value.ref q.1)).get? b = some u := fun b u e =>
    PySem.W.sortingHeap_old (Nat.ne_of_lt (Heap.lt_size e)) (Heap.get?_push_of_some _ e)
  have hal : PySem.W.AllAlike (L1.map fun q => tI q.2) := PySem.W.AllAlike.of fun a b => alike_tI a.2 b.2
  have nd1 : (L1.map (·.2)).Nodup := (pL.map (·.2)).nodup_iff.mpr R.nd
  have S : PySem.W.SortsAt P w A.in1.in1 { s1 with heap := PySem.W.sortingHeap (s1.heap.push (seqObj "list" (L1.map fun q => Value.ref q.1).toArray 0)) s1.heap.objs.size (L1.map fun q => Value.ref q.1) } (PySem.W.dataKind (PySem.W.sortingHeap (s1.heap.push (seqObj "list" (L1.map fun q => Value.ref q.1).toArray 0)) s1.heap.objs.size (L1.map fun q => Value.ref q.1)) (L1.map fun q => tI q.2)) (L1.map fun q => Value.ref q.1) := by
    refine sortsAt_tup (s := { s1 with heap := PySem.W.sortingHeap (s1.heap.push (seqObj "list" (L1.map fun q => Value.ref q.1).toArray 0)) s1.heap.objs.size (L1.map fun q => Value.ref q.1) }) (PySem.W.each_map (R := fun v d => ∃ as, PySem.Reads _ v d as) (fun q : Addr × List Int => tI q.2) ((er _ ksort L1 fun q h => h).mono fun _ _ h => h.2)) hal ?_ fun d hd => ?_
    · rcases hev with h | h
      · refine .inl (.inl fun d hd => ?_)
        obtain ⟨q, hq, rfl⟩ := List.mem_map.mp hd
        have := h q.2 (List.mem_map.mpr ⟨q, pL.mem_iff.mp hq, rfl⟩)
        cases hk : q.2 with
        | nil => exact absurd hk this
        | cons x r => exact ⟨.int x, r.map .int, rfl⟩
      · refine .inr ⟨?_, fun d hd => ?_⟩
        · rw [hlen]
          have := one_of nd1 fun x hx => by
            obtain ⟨q, hq, rfl⟩ := List.mem_map.mp hx
            exact h q.2 (List.mem_map.mpr ⟨q, pL.mem_iff.mp hq, rfl⟩)
          rw [List.length_map] at this
          omega
        · obtain ⟨q, hq, rfl⟩ := List.mem_map.mp hd
          rw [h q.2 (List.mem_map.mpr ⟨q, pL.mem_iff.mp hq, rfl⟩)]
          rfl
    · obtain ⟨q, _, rfl⟩ := List.mem_map.mp hd
      have h1 : PyData.depth (tI q.2) = 1 := by
        show PyData.depthAll (q.2.map .int) + 1 = 1
        rw [PySem.W.depth_ints]
      rw [h1]
      have : A.in1.in1.units = A.units + 2 := rfl
      omega
  refine wpAny_bind (wpAny_holding (wpAny_call_entry slot_list_sort ⟨_, hoL, rfl⟩ entry_list_sort (PySem.W.list_sort_vals (s := { s1 with heap := s1.heap.push (seqObj "list" (L1.map fun q => Value.ref q.1).toArray 0) }) hoL S (by rw [hlen, sizeLine_eq]; omega) ⟨_, rfl, ?_⟩) (args_list_sort _)))
  have ev := PySem.W.sortVals_data (h' := PySem.W.sortingHeap (s1.heap.push (seqObj "list" (L1.map fun q => Value.ref q.1).toArray 0)) s1.heap.objs.size (L1.map fun q => Value.ref q.1)) (R := fun v (b : Addr × List Int) => v = Value.ref b.1) (enc := fun q : Addr × List Int => tI q.2) false ((er _ ksort L1 fun q h => h).mono fun _ _ h => h.1) ((er _ ksort L1 fun q h => h).mono fun _ _ h => h.2) hal
  generalize PySem.W.sortVals _ false (L1.map fun q => Value.ref q.1) (L1.map fun q => Value.ref q.1) = out at ev ⊢
  have eo : ∀ {us : List Value} {l : List (Addr × List Int)}, PySem.W.EachIs (fun v (b : Addr × List Int) => v = Value.ref b.1) us l → us = l.map fun q => Value.ref q.1 := fun h => by
    induction h with
    | nil => rfl
    | cons h _ ih => rw [h, ih]; rfl
  have eo := eo ev
  obtain ⟨c, hc⟩ := sortedHeap_at (vs := L1.map fun q => Value.ref q.1) (out := out.toArray) hoL
  have pm2 : (L1.mergeSort (PySem.W.dataLe false fun q => tI q.2)).Perm L1 := List.mergeSort_perm _ _
  have sr : (L1.mergeSort (PySem.W.dataLe false fun q : Addr × List Int => tI q.2)).Pairwise fun q r => PySem.W.dataLe false (fun q : Addr × List Int => tI q.2) q r = true := by
    have le_eq : ∀ q r : Addr × List Int, PySem.W.dataLe false (fun q : Addr × List Int => tI q.2) q r = !decide (r.2 < q.2) := fun q r => dataLe_tI (a := q.2) (b := r.2)
    refine List.pairwise_mergeSort (fun a b c h1 h2 => ?_) (fun a b => ?_) L1
    · rw [le_eq] at h1 h2 ⊢
      simp only [Bool.not_eq_true', decide_eq_false_iff_not] at h1 h2 ⊢
      exact fun h => h2 (Std.lt_of_lt_of_le h (Std.not_lt.mp h1))
    · rw [le_eq, le_eq]
      by_cases h : b.2 < a.2
      · have : ¬ a.2 < b.2 := fun g => Std.lt_irrefl (Std.lt_trans g h)
        simp [this]
      · simp [h]
  have nd2 : ((L1.mergeSort (PySem.W.dataLe false fun q => tI q.2)).map (·.2)).Nodup := (pm2.map (·.2)).nodup_iff.mpr nd1
  refine wpAny_pure ⟨_, rfl, hQ _ s1.heap.objs.size out.toArray c _ (fun b u e => ?_) g1 o1 hz hc eo (pm2.trans pL) ?_⟩
  · have q := kp b u e
    have hlt := Heap.lt_size q
    show (sortedHeap (s1.heap.push _) s1.heap.objs.size _ _).get? b = some u
    rw [sortedHeap_old (Nat.ne_of_lt hlt) (by rw [size_push']; exact Nat.lt_succ_of_lt hlt)]
    exact Heap.get?_push_of_some _ q
  · refine (List.Pairwise.and sr (List.pairwise_map.mp nd2)).imp fun {q r} h => ?_
    obtain ⟨h1, h2⟩ := h
    have h1 : (!decide (r.2 < q.2)) = true := by rw [← dataLe_tI]; exact h1
    simp only [Bool.not_eq_true', decide_eq_false_iff_not] at h1
    exact lt_tot h1 (fun e => h2 e.symm)
end
end VS

set_option Elab.async false
set_option linter.all false
set_option maxRecDepth 100000
/-! VsZ: the rules for sorted(set(xs)), len(set(xs)), sorted(dict). -/
namespace VS
open PySem PySem.Spec PyProof.Rows L2
def aSortI (K : Frag') (x : V) (H1 : Hp) (Q : VK) : Prop := ∃ (a : Addr) (ks : List Int), x = V.ref a ∧ SqL K H1 a (ks.map V.int) ∧ ks.length < 64 ∧
  ∀ (out : List Int) (p : Addr), out.Pairwise (· < ·) → (∀ k, k ∈ out ↔ k ∈ ks) → H1 p = none → Q (.ref p) (upd H1 p (.lst (out.map V.int)))
def aSortT (K : Frag') (x : V) (H1 : Hp) (Q : VK) : Prop := ∃ (a : Addr) (ks : List (Addr × List Int)), x = V.ref a ∧ SqL K H1 a (ks.map fun p => V.ref p.1) ∧ (∀ p ∈ ks, SqT K H1 p.1 (p.2.map V.int)) ∧ ks.length < 64 ∧ Even (ks.map (·.2)) ∧
  ∀ (L : List (Addr × List Int)) (p : Addr), (∀ q ∈ L, q ∈ ks) → (∀ q ∈ ks, q.2 ∈ L.map (·.2)) → (L.map (·.2)).Pairwise (· < ·) → H1 p = none → Q (.ref p) (upd H1 p (.lst (L.map fun q => V.ref q.1)))
def tSortSet2 (K : Frag') (ta : TE) : TE := fun σ H Q => ta σ H fun x H1 => aSortI K x H1 Q ∨ aSortT K x H1 Q
def tLenSet2 (K : Frag') (ta : TE) : TE := fun σ H Q => ta σ H fun x H1 => ∃ (a : Addr) (ks : List Int), x = V.ref a ∧ SqL K H1 a (ks.map V.int) ∧ ks.length < 64 ∧ Q (.int ((usort ks).length : Nat)) H1
section
variable {X : Cx} {e : Expr} {ta : TE} {p p2 pos pos2 : Pos}
theorem sorted_end {pins : List (Addr × Obj)} {σ : L2.St} {H1 : Hp} {s1 s' : Shared} {t : Addr} {xs : List V} {Q : VK} (I : Inv X pins σ H1 s1) (k2 : ∀ b o, s1.heap.get? b = some o → s'.heap.get? b = some o) (gg : s'.gens = s1.gens) (oo : s'.os = s1.os) (ht : s1.heap.objs.size ≤ t)
    (new : ∀ G : Hp, ObjOk X.prog X.w G s'.heap t (.lst xs)) (q : H1 t = none → Q (.ref t) (upd H1 t (.lst xs))) : EP X pins σ Q (.ref t) s' := by
  have hn : H1 t = none := I.hok.fresh ht
  have J : Inv X pins σ (upd H1 t (.lst xs)) { s1 with heap := s'.heap, gens := s'.gens, drawn := s'.drawn, toks := s'.toks } :=
    I.call (ch := []) (Un.laid k2 ht hn) (I.hok.laid k2 ht (new _)) (by rw [gg]; exact I.bare) (fun _ z => nomatch z)
  have e : s' = { s1 with heap := s'.heap, gens := s'.gens, drawn := s'.drawn, toks := s'.toks } := by
    cases s'
    cases s1
    cases oo
    rfl
  rw [e]
  exact ⟨.ref t, _, J, rfl, q hn⟩
theorem pe_sortSet2 (hc : X.calm = true) (hu : X.A.units + 65 < cLine) (hg : Gl X "sorted") (hm : X.mg "sorted" = none) (hg2 : Gl X "set") (hm2 : X.mg "set" = none) (he : PE X e ta)
    (na : starEach [e] X.env = (false, eval e X.env) :: starEach [] X.env := by rfl) : PE X (.Call (.Name "sorted" p) [.Call (.Name "set" p2) [e] [] pos2] [] pos) (tSortSet2 X.K ta) := by
  refine ⟨fun pins s σ H Q I h => ?_⟩
  refine Call_ (ld_blt I hg hm boot_sorted (PyProof.Rows.callWith_builtin1 (PyProof.Rows.args_cons ?_ rfl) rfl rfl))
  refine Call_ (ld_blt I hg2 hm2 PyProof.Rows.boot_set (PyProof.Rows.callWith_type1 (PyProof.Rows.args_cons (thn (he.run pins s σ H _ I h) fun v s1 ⟨x, H1, I1, r1, q1⟩ => PyProof.Rows.args_nil ?_) na) na rfl))
  rcases q1 with ⟨a, ks, rfl, hs, h64, q⟩ | ⟨a, ks, rfl, hs, hk, h64, ev, q⟩
  · cases r1
    obtain ⟨its, rv, pl, hz⟩ := I1.list hs
    refine set_ofList ks (I1.ok.hd hc) pl.isList (by simpa using rv.ints) (by unfold scanBound; omega) fun g tk c R hcn kp => ?_
    refine PyProof.Rows.args_nil ?_
    have I2 : Inv X pins σ H1 { s1 with heap := g, toks := tk } := I1.kept kp
    refine sorted_set (s := { s1 with heap := g, toks := tk }) R (I1.ok.hd hc) (by omega) fun s' t out n ks2 k2 gg oo ht hout hi hp hmem hl => ?_
    refine sorted_end I2 k2 gg oo ht (fun G => ⟨by rw [List.length_map, hl, sizeLine_eq]; omega, out.toList, n, vals_of_ints hi, hout⟩) fun hn => q ks2 t hp (fun k => by rw [hmem k, decide_eq_true_eq]) hn
  · cases r1
    obtain ⟨its, rv, pl, hz⟩ := I1.list hs
    refine call_set_tups (P := X.prog) (w := X.w) ks (I1.ok.hd hc) pl.isList (by simpa using refs_of_vals rv) (fun p hp => I1.isT (hk p hp)) h64 (by omega) fun g tk L es ep t R got kp => ?_
    refine PyProof.Rows.args_nil ?_
    have I2 : Inv X pins σ H1 { s1 with heap := g, toks := tk } := I1.kept kp
    have s1' : ∀ q ∈ L, q ∈ ks := fun q hq => List.mem_of_mem_take (got.sub q hq)
    have s2' : ∀ q ∈ ks, q.2 ∈ L.map (·.2) := fun q hq => got.all q (by rw [List.take_length]; exact hq)
    have ev2 : Even (L.map (·.2)) := by
      have sub : ∀ k ∈ L.map (·.2), k ∈ ks.map (·.2) := fun k hk => by
        obtain ⟨q, hq, rfl⟩ := List.mem_map.mp hk
        exact List.mem_map.mpr ⟨q, s1' q hq, rfl⟩
      rcases ev with h | h
      · exact .inl fun k hk => h k (sub k hk)
      · exact .inr fun k hk => h k (sub k hk)
    refine sorted_setD (s := { s1 with heap := g, toks := tk }) R (I1.ok.hd hc) hu ev2 fun s' t out n L' k2 gg oo ht hout hol pL hp => ?_
    refine sorted_end I2 k2 gg oo ht (fun G => ⟨?_, out.toList, n, ?_, hout⟩) fun hn => q L' t (fun r hr => s1' r (pL.mem_iff.mp hr)) (fun r hr => (pL.map (·.2)).mem_iff.mpr (s2' r hr)) (List.pairwise_map.mpr hp) hn
    · have := pL.length_eq
      have := got.len
      rw [List.length_map, sizeLine_eq]
      omega
    · rw [hol]
      exact vals_of_refs L'
theorem pe_lenSet2 (hc : X.calm = true) (hg : Gl X "len") (hm : X.mg "len" = none) (hg2 : Gl X "set") (hm2 : X.mg "set" = none) (he : PE X e ta)
    (na : starEach [e] X.env = (false, eval e X.env) :: starEach [] X.env := by rfl) : PE X (.Call (.Name "len" p) [.Call (.Name "set" p2) [e] [] pos2] [] pos) (tLenSet2 X.K ta) := by
  refine ⟨fun pins s σ H Q I h => ?_⟩
  refine Call_ (ld_blt I hg hm boot_len (PyProof.Rows.callWith_builtin1 (PyProof.Rows.args_cons ?_ rfl) rfl rfl))
  refine Call_ (ld_blt I hg2 hm2 PyProof.Rows.boot_set (PyProof.Rows.callWith_type1 (PyProof.Rows.args_cons (thn (he.run pins s σ H _ I h) fun v s1 ⟨x, H1, I1, r1, q1⟩ => PyProof.Rows.args_nil ?_) na) na rfl))
  obtain ⟨a, ks, rfl, hs, h64, q⟩ := q1
  cases r1
  obtain ⟨its, rv, pl, hz⟩ := I1.list hs
  refine set_ofList ks (I1.ok.hd hc) pl.isList (by simpa using rv.ints) (by unfold scanBound; omega) fun g tk c R hcn kp => ?_
  refine PyProof.Rows.args_nil ?_
  have I2 : Inv X pins σ H1 { s1 with heap := g, toks := tk } := I1.kept kp
  obtain ⟨o, es, ep, t, ho, hex, hd, gd, nd, hmem, hb, hf, hn, _⟩ := R
  have hsz : es.size = (usort ks).length := by
    have pm : (es.toList.map keyOf).Perm (usort ks) := (List.perm_ext_iff_of_nodup nd (usort_lt.imp fun h e => by omega)).mpr fun k => by
      rw [← hmem k, decide_eq_true_eq, usort_mem]
    have := pm.length_eq
    rw [List.length_map, Array.length_toList] at this
    exact this
  refine call_len_set (s := { s1 with heap := g, toks := tk }) ho hex hd hf (by omega) ⟨.int ((usort ks).length : Nat), H1, I2.tok _, ⟨_, by rw [hsz]⟩, q⟩
end

/-! ### by values -/
def tupsD : List D → Option (List (List Int))
  | [] => some []
  | .tuple a :: r => (intsD a).bind fun k => (tupsD r).map (k :: ·)
  | _ => none
theorem tups_ok {K : Frag'} {S : Hp} : ∀ {xs : List V} {ds : List D} {ks : List (List Int)}, DpAll K S xs ds → tupsD ds = some ks → ∃ bs : List (Addr × List Int), xs = (bs.map fun p => V.ref p.1) ∧ bs.map (·.2) = ks ∧ ∀ p ∈ bs, SqT K S p.1 (p.2.map V.int)
  | _, _, ks, .nil, e => by
    cases e
    exact ⟨[], rfl, rfl, nofun⟩
  | _, _, ks, .cons (d := d) h r, e => by
    cases d with
    | tuple a =>
      obtain ⟨k, h1, e⟩ := Option.bind_eq_some_iff.mp e
      obtain ⟨ks', h2, e⟩ := Option.map_eq_some_iff.mp e
      subst e
      obtain ⟨bs, rfl, e2, e3⟩ := tups_ok r h2
      cases h with
      | tup hs hd =>
        rename_i b ys
        have hx := ints_ok hd h1
        subst hx
        refine ⟨(b, k) :: bs, rfl, by rw [List.map_cons, e2], fun p hp => ?_⟩
        rcases List.mem_cons.mp hp with rfl | hp
        · exact hs
        · exact e3 p hp
    | _ => cases e
def sortSetD (ds : List D) : Option D := match intsD ds with
  | some ks => if ks.length < 64 then some (.list ((usort ks).map .int)) else none
  | none => (tupsD ds).bind fun ks => if ks.length < 64 ∧ Even ks then some (.list ((tsort ks).map tI)) else none
def mSortSet2 (m : ME) : ME := fun ρ => (m ρ).bind fun p => match p.1 with
  | .list ds => (sortSetD ds).bind fun d => some (d, p.2)
  | _ => none
def mLenSet2 (m : ME) : ME := fun ρ => (m ρ).bind fun p => match p.1 with
  | .list ds => (intsD ds).bind fun ks => if ks.length < 64 then some (.int ((usort ks).length : Nat), p.2) else none
  | _ => none
theorem dp_tups {K : Frag'} {S : Hp} : ∀ {L : List (Addr × List Int)}, (∀ p ∈ L, SqT K S p.1 (p.2.map V.int)) → DpAll K S (L.map fun q => V.ref q.1) ((L.map (·.2)).map tI)
  | [], _ => .nil
  | p :: L, h => .cons (.tup (h p List.mem_cons_self) (dp_ints _)) (dp_tups fun q hq => h q (List.mem_cons_of_mem _ hq))
theorem f_sortSet2 {X : Cx} {C : Ct} {e : Expr} {p p2 pos pos2 : Pos} {m : ME} (hc : X.calm = true) (hu : X.A.units + 65 < cLine) (hg : Gl X "sorted") (hm : X.mg "sorted" = none) (hg2 : Gl X "set") (hm2 : X.mg "set" = none) (he : PE X e (rdE X.K C m))
    (na : starEach [e] X.env = (false, eval e X.env) :: starEach [] X.env := by rfl) : PE X (.Call (.Name "sorted" p) [.Call (.Name "set" p2) [e] [] pos2] [] pos) (rdF X.K C (mSortSet2 m)) := PE.imp (pe_sortSet2 hc hu hg hm hg2 hm2 he na) fun σ H Q q => by
  obtain ⟨S, ρ, hid, R, d, ρ', e, q⟩ := q
  obtain ⟨⟨d1, ρ1⟩, h1, e⟩ := Option.bind_eq_some_iff.mp e
  cases d1 with
  | list ds =>
    obtain ⟨d2, h2, e⟩ := Option.bind_eq_some_iff.mp e
    cases e
    refine ⟨S, ρ, hid, R, _, _, h1, fun S' v H' s R' r => ?_⟩
    unfold sortSetD at h2
    cases r with
    | lst hs hd =>
      split at h2
      · rename_i ks hk
        split at h2
        · rename_i c
          cases h2
          have hx := ints_ok hd hk
          subst hx
          refine .inl ⟨_, ks, rfl, R'.sub.seq hs, c, fun out p ho hmem hp => ?_⟩
          rw [lt_uniq ho usort_lt fun k => (hmem k).trans usort_mem.symm]
          exact q S' p _ s (R'.fresh (o := .lst _) (d := .list _) hp (dp_ints _))
        · cases h2
      · obtain ⟨ks, hk, h2⟩ := Option.bind_eq_some_iff.mp h2
        split at h2
        · rename_i c
          cases h2
          obtain ⟨bs, rfl, e2, e3⟩ := tups_ok hd hk
          subst e2
          refine .inr ⟨_, bs, rfl, R'.sub.seq hs, fun p hp => seqT_same R'.sub (e3 p hp), by simpa using c.1, c.2, fun L p sub all hL hp => ?_⟩
          have eL : L.map (·.2) = tsort (bs.map (·.2)) := tlt_uniq hL tsort_lt fun k => by
            rw [tsort_mem]
            constructor
            · intro h
              obtain ⟨r, hr, rfl⟩ := List.mem_map.mp h
              exact List.mem_map.mpr ⟨r, sub r hr, rfl⟩
            · intro h
              obtain ⟨r, hr, rfl⟩ := List.mem_map.mp h
              exact all r hr
          rw [← eL] at q
          exact q S' p _ s (R'.fresh (o := .lst _) (d := .list _) hp (dp_tups fun r hr => e3 r (sub r hr)))
        · cases h2
  | _ => cases e
theorem e_lenSet2 {X : Cx} {C : Ct} {e : Expr} {p p2 pos pos2 : Pos} {m : ME} (hc : X.calm = true) (hg : Gl X "len") (hm : X.mg "len" = none) (hg2 : Gl X "set") (hm2 : X.mg "set" = none) (he : PE X e (rdE X.K C m))
    (na : starEach [e] X.env = (false, eval e X.env) :: starEach [] X.env := by rfl) : PE X (.Call (.Name "len" p) [.Call (.Name "set" p2) [e] [] pos2] [] pos) (rdE X.K C (mLenSet2 m)) := PE.imp (pe_lenSet2 hc hg hm hg2 hm2 he na) fun σ H Q q => by
  obtain ⟨S, ρ, hid, R, d, ρ', e, q⟩ := q
  obtain ⟨⟨d1, ρ1⟩, h1, e⟩ := Option.bind_eq_some_iff.mp e
  cases d1 with
  | list ds =>
    obtain ⟨ks, h2, e⟩ := Option.bind_eq_some_iff.mp e
    have e : (if ks.length < 64 then some (PyData.int ((usort ks).length : Nat), ρ1) else none) = some (d, ρ') := e
    by_cases c : ks.length < 64
    · rw [if_pos c] at e
      cases e
      refine ⟨S, ρ, hid, R, _, _, h1, fun S' v H' s R' r => ?_⟩
      cases r with
      | lst hs hd =>
        have hx := ints_ok hd h2
        subst hx
        exact ⟨_, ks, rfl, R'.sub.seq hs, c, q S' _ H' s R' (.of (.int _))⟩
    · rw [if_neg c] at e
      cases e
  | _ => cases e

/-! ### sorted(d), d a dict whose keys are texts -/
def strKeys : List (D × D) → Option (List Str)
  | [] => some []
  | (.str x, _) :: r => (strKeys r).map (x :: ·)
  | _ => none
def strLe (a b : Str) : Bool := !ltCps b.cps.toList a.cps.toList
def strSort (ks : List Str) : List Str := ks.mergeSort strLe
theorem strLe_iff {a b : Str} : strLe a b = true ↔ a.cps.toList ≤ b.cps.toList := by
  unfold strLe
  rw [ltCps_eq, Bool.not_eq_true', decide_eq_false_iff_not, Std.not_lt]
theorem str_ext {a b : Str} (h : a.cps.toList = b.cps.toList) : a = b := by
  cases a
  cases b
  congr 1
  exact Array.toList_inj.mp h
theorem rising_pw : ∀ {ys : List Str} {x : Str}, risingS x ys = true → (x :: ys).Pairwise fun a b => strLe a b = true
  | [], x, _ => by simp
  | y :: ys, x, h => by
    have h : (!ltCps y.cps.toList x.cps.toList && risingS y ys) = true := h
    rw [Bool.and_eq_true] at h
    have ih := rising_pw h.2
    refine List.pairwise_cons.mpr ⟨fun z hz => ?_, ih⟩
    rcases List.mem_cons.mp hz with rfl | hz
    · exact h.1
    · exact strLe_iff.mpr (Std.le_trans (strLe_iff.mp h.1) (strLe_iff.mp ((List.pairwise_cons.mp ih).1 z hz)))
theorem sorted_pw : ∀ {ys : List Str}, sortedS ys = true → ys.Pairwise fun a b => strLe a b = true
  | [], _ => .nil
  | _ :: _, h => rising_pw h
theorem strSort_pw (ks : List Str) : (strSort ks).Pairwise fun a b => strLe a b = true := by
  refine List.pairwise_mergeSort (fun a b c h1 h2 => ?_) (fun a b => ?_) ks
  · exact strLe_iff.mpr (Std.le_trans (strLe_iff.mp h1) (strLe_iff.mp h2))
  · rcases Std.le_total (a := a.cps.toList) (b := b.cps.toList) with h | h
    · rw [strLe_iff.mpr h]
      rfl
    · rw [strLe_iff.mpr h, Bool.or_true]
theorem strSort_uniq {ys ks : List Str} (p : ys.Perm ks) (h : sortedS ys = true) : ys = strSort ks :=
  List.Perm.eq_of_pairwise (le := fun a b => strLe a b = true) (fun a b _ _ h1 h2 => str_ext (Std.le_antisymm (strLe_iff.mp h1) (strLe_iff.mp h2))) (sorted_pw h) (strSort_pw ks) (p.trans (List.mergeSort_perm _ _).symm)
def sortKD : List D → Option D
  | [.dict kvs] => (strKeys kvs).bind fun ks => if ks.length < 64 then some (.list ((strSort ks).map .str)) else none
  | _ => none
theorem strKeys_ok {K : Frag'} {S : Hp} : ∀ {ps : List (Key × V)} {kvs : List (D × D)} {ks : List Str}, DK K S ps kvs → strKeys kvs = some ks → ps.map (·.1) = ks.map Sum.inr
  | _, _, ks, .nil, e => by
    cases e
    rfl
  | _, _, ks, .cons (a := a) (b := b) h r, e => by
    obtain ⟨k, v⟩ := b
    obtain ⟨h1, h2⟩ := h
    have h1 : kD a.1 = k := h1
    cases k with
    | str x =>
      have e : (strKeys _).map (x :: ·) = some ks := e
      obtain ⟨ks', e1, rfl⟩ := Option.map_eq_some_iff.mp e
      rw [List.map_cons, List.map_cons, strKeys_ok r e1]
      cases ha : a.1 with
      | inl i =>
        rw [ha] at h1
        cases h1
      | inr y =>
        rw [ha] at h1
        cases h1
        rfl
    | _ => cases e
theorem dp_strs {K : Frag'} {S : Hp} : ∀ {ks : List Str}, DpAll K S (ks.map V.str) (ks.map .str)
  | [] => .nil
  | k :: ks => .cons (.str k) dp_strs
theorem sortK_fr {K : Frag'} : OpFr K (fun xs H Q => ∃ (a : Addr) (kvs : List (Key × V)) (ks : List Str), xs = [.ref a] ∧ Rd H a (.dK kvs) ∧ kvs.map (·.1) = ks.map Sum.inr ∧ ks.length < 64 ∧
    ∀ ys p, ys.Perm ks → sortedS ys = true → H p = none → Q (.ref p) (upd H p (.lst (ys.map V.str)))) sortKD := fun C S σ H ρ hid vs ds d Q R al e q => by
  unfold sortKD at e
  split at e
  · rename_i kvs
    obtain ⟨ks, h1, e⟩ := Option.bind_eq_some_iff.mp e
    split at e
    · rename_i c
      cases e
      cases al with
      | cons h t =>
        cases t
        obtain ⟨a, ps, rfl, g1, g2⟩ := h.dct R.sub
        refine ⟨a, ps, ks, rfl, .of g1, strKeys_ok g2 h1, c, fun ys p pm sr hp => ?_⟩
        rw [strSort_uniq pm sr]
        exact q S p _ (Same.refl S) (R.fresh (o := .lst _) (d := .list _) hp dp_strs)
    · cases e
  · cases e
end VS

set_option Elab.async false
set_option linter.all false
set_option maxRecDepth 100000
/-! VsL: xs[::-1] of lists and tuples; tuple * int. -/
namespace VS
open PySem PySem.Spec PyProof.Rows L2
theorem rev_adjust (n : Nat) : Builtin.Slice.sliceAdjust none none (-1) (n : Int) = ((n : Int) - 1, -1) := by
  unfold Builtin.Slice.sliceAdjust
  simp
theorem rev_places (n : Nat) : Builtin.Slice.slicePlaces ((n : Int) - 1) (-1) (-1) = n := by
  unfold Builtin.Slice.slicePlaces
  have h1 : ¬ ((-1 : Int) > 0) := by omega
  simp only [h1, if_false, Int.neg_neg, Int.ediv_one]
  split <;> omega
theorem rev_pick (xs : Array Value) : ((List.range xs.size).filterMap fun (k : Nat) => xs[(((xs.size : Nat) : Int) - 1 + (k : Int) * (-1)).toNat]?) = xs.toList.reverse := by
  have h : ∀ m, m ≤ xs.size → ((List.range m).filterMap fun (k : Nat) => xs[(((xs.size : Nat) : Int) - 1 + (k : Int) * (-1)).toNat]?) = xs.toList.reverse.take m := fun m => by
    induction m with
    | zero => intro _; rfl
    | succ m ih =>
      intro hm
      have e : (((xs.size : Nat) : Int) - 1 + (m : Int) * (-1)).toNat = xs.size - 1 - m := by omega
      have hl : m < xs.toList.reverse.length := by rw [List.length_reverse, Array.length_toList]; omega
      have hx : xs[xs.size - 1 - m]? = some (xs.toList.reverse[m]) := by
        rw [List.getElem_reverse, ← Array.getElem?_toList, List.getElem?_eq_getElem (by rw [Array.length_toList]; omega)]
        simp only [Array.length_toList]
      rw [List.range_succ, List.filterMap_append, ih (by omega), List.filterMap_cons, e, hx, List.filterMap_nil, List.take_succ, List.getElem?_eq_getElem hl]
      rfl
  have := h xs.size (Nat.le_refl _)
  rw [this]
  exact List.take_of_length_le (by rw [List.length_reverse, Array.length_toList]; exact Nat.le_refl _)
section
variable {prog : Program} {w : World} {A : Around} {E : Value → Shared → Prop} {s : Shared}
theorem getItem_tuple_rev {t sl : Addr} {items : Array Value} {vl vu vs : Value} {Q : Value → Shared → Prop} (ht : IsTup s.heap t items) (hs : s.heap.IsSliceOf sl vl vu vs) (pl : IsPart vl none) (pu : IsPart vu none) (ps : IsPart vs (some (-1)))
    (h : Q (.ref s.heap.objs.size) { s with heap := s.heap.push { cls := .type "tuple", data := .seq items.toList.reverse.toArray } }) (hsz : items.size ≤ sizeLine) : wpAny (model prog w) A (getItem (.ref t) (.ref sl)) Q E s := by
  obtain ⟨os, hos, hcs, hds⟩ := id hs
  have ty : s.TypeIs (.ref sl) "slice" := ⟨os, hos, hcs⟩
  unfold getItem
  try with_reducible refine wpAny_holding ?_
  first | refine wpAny_bind (wpAny_pure ?_) | skip
  refine wpAny_bind (wpAny_sequenceKey ht.typeIs (by decide) ?_)
  refine wpAny_bind (wpAny_callSpecial?_slot (name := Str.ofString "__getitem__") ht.typeIs PyProof.Rows.slot_tuple_getitem
    (wpAny_call_entry PyProof.Rows.slot_tuple_getitem ht.typeIs entry_tuple_getitem ?_ (args_tuple_getitem _ _)))
  show wpAny _ _ (Builtin.Tuple.tupleItemsOf (.ref t) >>= _) _ _ s
  refine wpAny_bind (PyProof.Rows.tupleItemsOf_ ht ?_)
  refine wpAny_bind (wpAny_typeOf ty ?_)
  rw [if_pos (by decide)]
  refine wpAny_bind ?_
  unfold Builtin.Slice.sliceApplied Builtin.Slice.sliceFields
  refine wpAny_bind (wpAny_bind (wpAny_field hos hds (x := vl) rfl (wpAny_bind (wpAny_field hos hds (x := vu) rfl (wpAny_bind (wpAny_field hos hds (x := vs) rfl (wpAny_pure ?_)))))))
  refine wpAny_bind (HT.slicePart_ ps ?_)
  show wpAny _ _ (if ((-1 : Int) == 0) = true then _ else _) _ _ s
  rw [if_neg (by decide)]
  refine wpAny_bind (HT.slicePart_ pl (wpAny_bind (HT.slicePart_ pu (wpAny_bind (wpAny_pure ?_)))))
  show wpAny _ _ (match Builtin.Slice.sliceAdjust none none (-1) (items.size : Int) with | (lo, hi) => pure (lo, (-1 : Int), Builtin.Slice.slicePlaces lo hi (-1))) _ _ s
  rw [rev_adjust]
  show wpAny _ _ (pure (((items.size : Nat) : Int) - 1, (-1 : Int), Builtin.Slice.slicePlaces (((items.size : Nat) : Int) - 1) (-1) (-1))) _ _ s
  rw [rev_places]
  refine wpAny_pure ?_
  show wpAny _ _ (if (((items.size : Nat) : Int) - 1 == 0 && (-1 : Int) == 1 && items.size == items.size) = true then _ else _) _ _ s
  rw [if_neg (by simp), rev_pick]
  have hk : sizeOk (.seq items.toList.reverse.toArray) := by
    show items.toList.reverse.toArray.size ≤ sizeLine
    rw [List.size_toArray, List.length_reverse, Array.length_toList]
    exact hsz
  first
    | exact wpAny_bind (m := Builtin.Tuple.tupleExact _) (wpAny_newObj_type (wpAny_pure ⟨_, rfl, wpAny_pure h⟩) hk)
    | exact wpAny_bind (m := Builtin.Tuple.tupleExact _) (wpAny_newObj_type (wpAny_bind (wpAny_pure (wpAny_pure ⟨_, rfl, wpAny_pure h⟩))) hk)
    | exact wpAny_bind (wpAny_bind (m := Builtin.Tuple.tupleExact _) (wpAny_newObj_type (wpAny_pure (wpAny_pure ⟨_, rfl, wpAny_pure h⟩)) hk))
    | exact wpAny_bind (wpAny_bind (m := Builtin.Tuple.tupleExact _) (wpAny_newObj_type (wpAny_pure ⟨_, rfl, wpAny_pure h⟩) hk))
end
def tRevV (K : Frag') (te : TE) : TE := fun σ H Q => te σ H fun x H1 => ∃ a xs, x = V.ref a ∧ ((SqL K H1 a xs ∧ ∀ p, H1 p = none → Q (.ref p) (upd H1 p (.lst xs.reverse))) ∨ (SqT K H1 a xs ∧ ∀ p, H1 p = none → Q (.ref p) (upd H1 p (.tup xs.reverse))))
theorem pe_revV {X : Cx} {e : Expr} {te : TE} {k : Nat} {p1 p2 p3 pos : Pos} (he : PE X e te) : PE X (.Subscript e (.Slice none none (some (.UnaryOp .USub (.Constant (.int 1) k p1) p2)) p3) pos) (tRevV X.K te) := by
  refine ⟨fun pins s σ H Q I h => ?_⟩
  refine Subscript_ (thn (he.run pins s σ H _ I h) fun v s1 ⟨x, H1, I1, r1, q1⟩ => ?_)
  obtain ⟨a, xs, rfl, q⟩ := q1
  cases r1
  have hst : PO X (some (.UnaryOp .USub (.Constant (.int 1) k p1) p2)) (tPart (tUn (rU fun i => .int (-i)) (tC (.int 1)))) := po_some (pe_un un_neg pe_int)
  refine wpAny_Slice (thn (po_none.run pins s1 σ H1 (fun o H2 => o = none ∧ H2 = H1) I1 ⟨rfl, rfl⟩) fun vl s2 ⟨l, H2, I2, pl, el, e2⟩ => ?_)
  subst el e2
  refine thn (po_none.run pins s2 σ H2 (fun o H3 => o = none ∧ H3 = H2) I2 ⟨rfl, rfl⟩) fun vu s3 ⟨u, H3, I3, pu, eu, e3⟩ => ?_
  subst eu e3
  refine thn (hst.run pins s3 σ H3 (fun o H4 => o = some (-1) ∧ H4 = H3) I3 ⟨1, rfl, -1, rfl, rfl, rfl⟩) fun vs s4 ⟨o, H4, I4, ps, eo, e4⟩ => ?_
  subst eo e4
  have I5 : Inv X pins σ H4 { s4 with heap := s4.heap.push { cls := .type "slice", data := .fields #[vl, vu, vs] } } := I4.kept (t' := s4.toks) fun b ob q => Heap.get?_push_of_some _ q
  rcases q with ⟨hx, q⟩ | ⟨hx, q⟩
  · obtain ⟨its, r, ht, hz⟩ := I5.list hx
    have hlen := r.length
    show wpAny (model X.prog X.w) X.A (subscriptTail e (.Slice none none (some (.UnaryOp .USub (.Constant (.int 1) k p1) p2)) p3) (.ref a) (.ref s4.heap.objs.size)) (EP X pins σ Q) X.xe { s4 with heap := s4.heap.push { cls := .type "slice", data := .fields #[vl, vu, vs] } }
    refine tail_any (ops := [.ref a, .ref s4.heap.objs.size]) ht.isList.typeIs (PySem.slot_list_getitem.lookup) ?_ (by with_unfolding_all rfl)
    refine wpAny_getItem_list_slice ht.isList (Heap.IsSliceOf.new _ vl vu vs) pl pu ps (by decide) ?_ (by rw [List.size_toArray]; omega)
    rw [PySem.W.krv_pick]
    refine ⟨.ref _, _, I5.laid (t' := s4.toks) (o := .lst xs.reverse) (fun b ob q => Heap.get?_push_of_some _ q) (Nat.le_refl _) ?_, rfl, q _ (I5.hok.fresh (Nat.le_refl _))⟩
    exact ⟨by rw [List.length_reverse]; exact hz, _, 0, r.reverse, Heap.get?_push_size _ rfl⟩
  · obtain ⟨its, r, ht, hz⟩ := I5.tuple hx
    have hlen := r.length
    show wpAny (model X.prog X.w) X.A (subscriptTail e (.Slice none none (some (.UnaryOp .USub (.Constant (.int 1) k p1) p2)) p3) (.ref a) (.ref s4.heap.objs.size)) (EP X pins σ Q) X.xe { s4 with heap := s4.heap.push { cls := .type "slice", data := .fields #[vl, vu, vs] } }
    refine tail_any (ops := [.ref a, .ref s4.heap.objs.size]) ht.typeIs (PyProof.Rows.slot_tuple_getitem.lookup) ?_ (by with_unfolding_all rfl)
    refine getItem_tuple_rev ht (Heap.IsSliceOf.new _ vl vu vs) pl pu ps ?_ (by rw [List.size_toArray]; omega)
    refine ⟨.ref _, _, I5.laid (t' := s4.toks) (o := .tup xs.reverse) (fun b ob q => Heap.get?_push_of_some _ q) (Nat.le_refl _) ?_, rfl, q _ (I5.hok.fresh (Nat.le_refl _))⟩
    exact ⟨by rw [List.length_reverse]; exact hz, _, r.reverse, IsTup.new _ _⟩
def mRev (m : ME) : ME := fun ρ => (m ρ).bind fun p => match p.1 with
  | .list ds => some (.list ds.reverse, p.2)
  | .tuple ds => some (.tuple ds.reverse, p.2)
  | _ => none
theorem e_rev {X : Cx} {C : Ct} {e : Expr} {m : ME} {k : Nat} {p1 p2 p3 pos : Pos} (he : PE X e (rdE X.K C m)) : PE X (.Subscript e (.Slice none none (some (.UnaryOp .USub (.Constant (.int 1) k p1) p2)) p3) pos) (rdE X.K C (mRev m)) := PE.imp (pe_revV he) fun σ H Q q => by
  obtain ⟨S, ρ, hid, R, d, ρ', e, q⟩ := q
  obtain ⟨⟨d1, ρ1⟩, h1, e⟩ := Option.bind_eq_some_iff.mp e
  refine ⟨S, ρ, hid, R, _, _, h1, fun S' v H' s R' r => ?_⟩
  cases d1 with
  | list ds =>
    cases e
    cases r with
    | lst hs hd =>
      rename_i xs
      refine ⟨_, _, rfl, .inl ⟨R'.sub.seq hs, fun p hp => ?_⟩⟩
      have sS := same_upd (o := .lst xs.reverse) (R'.sub.free hp)
      exact q _ (.ref p) _ (s.trans sS) (R'.still hp) (.of (.lst (.inl (.inl upd_same)) (DpAll.same sS (DpAll.reverse hd))))
  | tuple ds =>
    cases e
    cases r with
    | tup hs hd =>
      rename_i xs
      refine ⟨_, _, rfl, .inr ⟨seqT_same R'.sub hs, fun p hp => ?_⟩⟩
      have sS := same_upd (o := .tup xs.reverse) (R'.sub.free hp)
      exact q _ (.ref p) _ (s.trans sS) (R'.still hp) (.of (.tup (.inl (.inl upd_same)) (DpAll.same sS (DpAll.reverse hd))))
  | _ => cases e

/-! ### tuple * int -/
def repD : List D → Option D
  | [.tuple a, .int k] => if a.isEmpty = false ∧ 2 ≤ k ∧ k ≤ 1000 ∧ a.length ≤ 1000 then some (.tuple (List.replicate k.toNat a).flatten) else none
  | _ => none
theorem dp_rep {K : Frag'} {S : Hp} {xs : List V} {ds : List D} (h : DpAll K S xs ds) : ∀ n : Nat, DpAll K S (List.replicate n xs).flatten (List.replicate n ds).flatten
  | 0 => .nil
  | n + 1 => by
    rw [List.replicate_succ, List.replicate_succ, List.flatten_cons, List.flatten_cons]
    exact DpAll.append h (dp_rep h n)
theorem rep_ok {K : Frag'} : OpOk K (l2 (rRepT K)) repD := fun C S σ H ρ hid vs ds d Q R al e q => by
  unfold repD at e
  split at e
  · rename_i a k
    split at e
    · rename_i c
      cases e
      cases al with
      | cons h t =>
        cases t with
        | cons h2 t =>
          cases t
          obtain ⟨p, xs, rfl, g1, g2⟩ := h.tup
          obtain ⟨c1, c2, c3, c4⟩ := c
          have hl := DpAll.length g2
          rw [h2.int]
          have ne : xs ≠ [] := fun e => by
            rw [e] at hl
            rw [List.eq_nil_of_length_eq_zero hl.symm] at c1
            cases c1
          refine ⟨p, k, xs, rfl, rfl, seqT_same R.sub g1, ne, c2, c3, by omega, fun r hr => ?_⟩
          have sS := same_upd (o := .tup (List.replicate k.toNat xs).flatten) (R.sub.free hr)
          exact q _ (.ref r) _ sS (R.still hr) (.of (.tup (.inl (.inl upd_same)) (DpAll.same sS (dp_rep g2 _))))
    · cases e
  · cases e
end VS

set_option Elab.async false
set_option linter.all false
set_option maxRecDepth 100000
/-! VsM: what the plain functions do, as equations that simp runs from the front. -/
namespace VS
open PySem PySem.Spec PyProof.Rows L2

/-! ### goals -/
set_option checkBinderAnnotations false
def oQ {α : Type} (x : Option α) [K : α → Prop] : Prop := match x with
  | some a => K a
  | none => False
def WS (m : MS) (ρ : Env') [Q : Out → Prop] : Prop := @oQ _ (m ρ) Q
def WE (m : ME) (ρ : Env') [Q : D → Env' → Prop] : Prop := @oQ _ (m ρ) fun p => Q p.1 p.2
def WT (m : MT) (ρ : Env') [Q : Bool → Env' → Prop] : Prop := @oQ _ (m ρ) fun p => Q p.1 p.2
def WI (m : MI) (ρ : Env') [Q : List D → Env' → Prop] : Prop := @oQ _ (m ρ) fun p => Q p.1 p.2
def WV (os : List Opd) (ρ : Env') [Q : List (Option D) → Env' → Prop] : Prop := @oQ _ (evp os ρ) fun p => Q p.1 p.2
def WM (ms : List ME) (ρ : Env') [Q : List D → Env' → Prop] : Prop := @oQ _ (evm ms ρ) fun p => Q p.1 p.2
def WF (F : List D → Option (D × List D)) (ds : List D) [Q : D → List D → Prop] : Prop := @oQ _ (F ds) fun p => Q p.1 p.2
/-- a partial operation of values -/
def fQ {α : Type} (f : List D → Option α) (ds : List D) [K : α → Prop] : Prop := @oQ _ (f ds) K
def hQ (f : D → List D → Option (D × D)) (d : D) (ds : List D) [K : D → D → Prop] : Prop := @oQ _ (f d ds) fun p => K p.1 p.2
def svQ : Option (Option SV) → (SV → Prop) → Prop
  | some (some v), K => K v
  | _, _ => False
def getQ (ρ : Env') (i : Nat) [K : SV → Prop] : Prop := svQ ρ[i]? K
def setQ (ρ : Env') (i : Nat) (v : Option SV) [K : Env' → Prop] : Prop := K (ρ.set i v)
def stQ (s : SV) [K : D → Prop] : Prop := match s with
  | .st d => K d
  | .ow _ => False
def owQ (s : SV) [K : D → Prop] : Prop := match s with
  | .ow d => K d
  | .st _ => False
def lkQ (s : SV) [K : D → Prop] : Prop := match s with
  | .st d => K d
  | .ow d => K d
def boQ (d : D) [K : Bool → Prop] : Prop := match d with
  | .bool b => K b
  | _ => False
def inQ (d : D) [K : Int → Prop] : Prop := match d with
  | .int b => K b
  | _ => False
def iteQ (b : Bool) [A : Prop] [B : Prop] : Prop := match b with
  | true => A
  | false => B
def seqQ (n : MS) (Q : Out → Prop) : Out → Prop
  | .nx ρ => @WS n ρ Q
  | o => Q o
def loopQ (I : Env' → Prop) (Q : Out → Prop) : Out → Prop
  | .nx ρ => I ρ
  | .ct ρ => I ρ
  | .bk ρ => Q (.nx ρ)
  | o => Q o
def resQ (os : List Opd) (ps : List (Option D)) (ρ : Env') [K : List D → Prop] : Prop := @oQ _ (res os ps ρ) K
def argQ (as : List Arg) (ps : List (Option D)) (ρ : Env') [K : List D → Prop] : Prop := @oQ _ (argD as ps ρ) K
def frzQ (as : List Arg) (ρ : Env') [K : Env' → Prop] : Prop := K (frzA as ρ)
def frz1Q (j : Nat) (ρ : Env') [K : Env' → Prop] : Prop := K (frz1 j ρ)
def putQ (js : List Nat) (ds : List D) (ρ : Env') [K : Env' → Prop] : Prop := @oQ _ (putA js ds ρ) K
def WG (t : Tgt) (d : D) (ρ : Env') [K : Env' → Prop] : Prop := @oQ _ (setT t d ρ) K
def WGs (is : List Nat) (ds : List D) (ρ : Env') [K : Env' → Prop] : Prop := @oQ _ (setAll is ds ρ) K
def WL (t : Tgt) (m : MS) (ds : List D) (ρ : Env') [Q : Out → Prop] : Prop := @oQ _ (forL t m ds ρ) Q
def WW (t : MT) (m : MS) (n : Nat) (ρ : Env') [Q : Out → Prop] : Prop := @oQ _ (whileN t m n ρ) Q
def WC (own : List Nat) (t : Tgt) (tt : MT) (me : ME) (ds : List D) (ρ : Env') [Q : List D → Env' → Prop] : Prop := @oQ _ (compL own t tt me ds ρ) fun p => Q p.1 p.2
def WC2 (own : List Nat) (t : Tgt) (tt : MT) (own1 : List Nat) (t1 : Tgt) (mi1 : MI) (tt1 : MT) (me : ME) (ds : List D) (ρ : Env') [Q : List D → Env' → Prop] : Prop := @oQ _ (compL2 own t tt own1 t1 mi1 tt1 me ds ρ) fun p => Q p.1 p.2
def ioQ (is : List Nat) (ρ : Env') [K : List D → Prop] : Prop := @oQ _ (ioOut ρ is) K
def outQ (ios : List Nat) (fr : Bool) (R : D → List D → Prop) : Out → Prop
  | .nx ρ => fr = false ∧ @ioQ ios ρ (R .none)
  | .rt d ρ => fr = false ∧ @ioQ ios ρ (R d)
  | .rf d ρ => @ioQ ios ρ (R d)
  | _ => False
theorem no_rfl {α : Sort u} {a b : α} (h : a = b) : a = b := h
theorem oQ_bind {α β : Type} {x : Option α} {g : α → Option β} {K : β → Prop} : @oQ _ (x.bind g) K = @oQ _ x fun a => @oQ _ (g a) K := by cases x <;> rfl
theorem oQ_map {α β : Type} {x : Option α} {g : α → β} {K : β → Prop} : @oQ _ (x.map g) K = @oQ _ x fun a => K (g a) := by cases x <;> rfl
theorem oQ_some {α : Type} {a : α} {K : α → Prop} : @oQ _ (some a) K = K a := rfl
theorem oQ_imp {α : Type} {x : Option α} {K L : α → Prop} (h : @oQ _ x K) (i : ∀ a, K a → L a) : @oQ _ x L := by
  cases x with
  | none => exact h
  | some a => exact i a h
theorem oQ_ex {α : Type} {x : Option α} {K : α → Prop} (h : @oQ _ x K) : ∃ a, x = some a ∧ K a := by
  cases x with
  | none => exact h.elim
  | some a => exact ⟨a, rfl, h⟩
theorem WS.imp {m : MS} {ρ : Env'} {Q R : Out → Prop} (h : @WS m ρ Q) (i : ∀ o, Q o → R o) : @WS m ρ R := oQ_imp h i
theorem WE.imp {m : ME} {ρ : Env'} {Q R : D → Env' → Prop} (h : @WE m ρ Q) (i : ∀ d ρ', Q d ρ' → R d ρ') : @WE m ρ R := oQ_imp h fun _ => i _ _
theorem WT.imp {m : MT} {ρ : Env'} {Q R : Bool → Env' → Prop} (h : @WT m ρ Q) (i : ∀ d ρ', Q d ρ' → R d ρ') : @WT m ρ R := oQ_imp h fun _ => i _ _
theorem WF.imp {F : List D → Option (D × List D)} {ds : List D} {Q R : D → List D → Prop} (h : @WF F ds Q) (i : ∀ d ns, Q d ns → R d ns) : @WF F ds R := oQ_imp h fun _ => i _ _
theorem WL.imp {t : Tgt} {m : MS} {ds : List D} {ρ : Env'} {Q R : Out → Prop} (h : @WL t m ds ρ Q) (i : ∀ o, Q o → R o) : @WL t m ds ρ R := oQ_imp h i
theorem WF.ex {F : List D → Option (D × List D)} {ds : List D} {Q : D → List D → Prop} (h : @WF F ds Q) : ∃ d ns, F ds = some (d, ns) ∧ Q d ns := let ⟨p, h1, h2⟩ := oQ_ex h; ⟨p.1, p.2, h1, h2⟩
theorem WF.of {F : List D → Option (D × List D)} {ds : List D} {Q : D → List D → Prop} {d : D} {ns : List D} (h : F ds = some (d, ns)) : @WF F ds Q = Q d ns := by
  unfold WF
  rw [h]
  rfl
theorem wf_eq {F : List D → Option (D × List D)} {ds : List D} {d : D} {ns : List D} (h : @WF F ds fun d' ns' => d' = d ∧ ns' = ns) : F ds = some (d, ns) := by
  obtain ⟨_, _, h1, h2, h3⟩ := h.ex
  rw [h1, h2, h3]

section
variable {m n : MS} {ρ : Env'} {Q : Out → Prop} {e f : ME} {t u : MT} {R : D → Env' → Prop} {T : Bool → Env' → Prop} {d : D} {b : Bool} {i j : Nat} {s : SV}

theorem ws_seq : @WS (mSeq m n) ρ Q = @WS m ρ (seqQ n Q) := by
  show @oQ _ ((m ρ).bind _) Q = _
  rw [oQ_bind]
  congr 1
  funext o
  cases o <;> rfl
theorem sq_nx : seqQ n Q (.nx ρ) = @WS n ρ Q := no_rfl rfl
theorem sq_rt : seqQ n Q (.rt d ρ) = Q (.rt d ρ) := no_rfl rfl
theorem sq_rf : seqQ n Q (.rf d ρ) = Q (.rf d ρ) := no_rfl rfl
theorem sq_bk : seqQ n Q (.bk ρ) = Q (.bk ρ) := no_rfl rfl
theorem sq_ct : seqQ n Q (.ct ρ) = Q (.ct ρ) := no_rfl rfl
theorem lq_nx {I : Env' → Prop} : loopQ I Q (.nx ρ) = I ρ := no_rfl rfl
theorem lq_ct {I : Env' → Prop} : loopQ I Q (.ct ρ) = I ρ := no_rfl rfl
theorem lq_bk {I : Env' → Prop} : loopQ I Q (.bk ρ) = Q (.nx ρ) := no_rfl rfl
theorem lq_rt {I : Env' → Prop} : loopQ I Q (.rt d ρ) = Q (.rt d ρ) := no_rfl rfl
theorem lq_rf {I : Env' → Prop} : loopQ I Q (.rf d ρ) = Q (.rf d ρ) := no_rfl rfl
theorem ou_nx {ios : List Nat} {R : D → List D → Prop} : outQ ios false R (.nx ρ) = @ioQ ios ρ (R .none) := by simp [outQ]
theorem ou_rt {ios : List Nat} {R : D → List D → Prop} : outQ ios false R (.rt d ρ) = @ioQ ios ρ (R d) := by simp [outQ]
theorem ou_rf {ios : List Nat} {R : D → List D → Prop} {fr : Bool} : outQ ios fr R (.rf d ρ) = @ioQ ios ρ (R d) := no_rfl rfl
theorem ws_next : @WS mNext ρ Q = Q (.nx ρ) := no_rfl rfl
theorem ws_break : @WS mBreak ρ Q = Q (.bk ρ) := no_rfl rfl
theorem ws_cont : @WS mCont ρ Q = Q (.ct ρ) := no_rfl rfl
theorem ws_retNone : @WS mRetNone ρ Q = Q (.rt .none ρ) := no_rfl rfl
theorem ws_drop : @WS (mDrop e) ρ Q = @WE e ρ fun _ ρ' => Q (.nx ρ') := by
  show @oQ _ ((e ρ).bind _) Q = _
  rw [oQ_bind]
  rfl
theorem ws_ret : @WS (mRet e) ρ Q = @WE e ρ fun d ρ' => Q (.rt d ρ') := by
  show @oQ _ ((e ρ).bind _) Q = _
  rw [oQ_bind]
  rfl
theorem ws_retF : @WS (mRetF e) ρ Q = @WE e ρ fun d ρ' => Q (.rf d ρ') := by
  show @oQ _ ((e ρ).bind _) Q = _
  rw [oQ_bind]
  rfl
theorem ws_set : @WS (mSet i e) ρ Q = @WE e ρ fun d ρ' => @setQ ρ' i (some (.st d)) fun ρ2 => Q (.nx ρ2) := by
  show @oQ _ ((e ρ).bind _) Q = _
  rw [oQ_bind]
  rfl
theorem ws_setF : @WS (mSetF i e) ρ Q = @WE e ρ fun d ρ' => @setQ ρ' i (some (.ow d)) fun ρ2 => Q (.nx ρ2) := by
  show @oQ _ ((e ρ).bind _) Q = _
  rw [oQ_bind]
  rfl
def retNQ (i : Nat) (ρ : Env') (Q : Out → Prop) : SV → Prop
  | .st d => Q (.rt d ρ)
  | .ow d => @setQ ρ i none fun ρ' => Q (.rf d ρ')
def setNQ (i j : Nat) (ρ : Env') (Q : Out → Prop) : SV → Prop
  | .st d => @setQ ρ i (some (.st d)) fun ρ' => Q (.nx ρ')
  | .ow d => @setQ ρ j (some (.st d)) fun ρ' => @setQ ρ' i (some (.st d)) fun ρ2 => Q (.nx ρ2)
theorem rn_st : retNQ i ρ Q (.st d) = Q (.rt d ρ) := no_rfl rfl
theorem rn_ow : retNQ i ρ Q (.ow d) = @setQ ρ i none fun ρ' => Q (.rf d ρ') := no_rfl rfl
theorem ws_retN : @WS (mRetN i) ρ Q = @getQ ρ i fun sv => retNQ i ρ Q sv := by
  unfold WS mRetN getQ
  rcases ρ[i]? with _ | _ | _ | _ <;> rfl
theorem sn_st : setNQ i j ρ Q (.st d) = @setQ ρ i (some (.st d)) fun ρ' => Q (.nx ρ') := no_rfl rfl
theorem sn_ow : setNQ i j ρ Q (.ow d) = @setQ ρ j (some (.st d)) fun ρ' => @setQ ρ' i (some (.st d)) fun ρ2 => Q (.nx ρ2) := no_rfl rfl
theorem ws_setN : @WS (mSetN i j) ρ Q = @getQ ρ j fun sv => setNQ i j ρ Q sv := by
  unfold WS mSetN getQ
  rcases ρ[j]? with _ | _ | _ | _ <;> rfl
theorem ite_t {A B : Prop} : @iteQ true A B = A := no_rfl rfl
theorem ite_f {A B : Prop} : @iteQ false A B = B := no_rfl rfl
theorem ws_if : @WS (mIfS t m n) ρ Q = @WT t ρ fun b ρ' => @iteQ b (@WS m ρ' Q) (@WS n ρ' Q) := by
  show @oQ _ ((t ρ).bind _) Q = _
  rw [oQ_bind]
  show @oQ _ _ (fun _ => _) = @oQ _ _ (fun _ => _)
  congr 1
  funext ⟨b, ρ1⟩
  cases b <;> rfl
theorem ws_asg {tg : Tgt} : @WS (mAsg tg e) ρ Q = @WE e ρ fun d ρ' => @WG tg d ρ' fun ρ2 => Q (.nx ρ2) := by
  show @oQ _ ((e ρ).bind _) Q = _
  simp only [oQ_bind, WE, WG, oQ_some]
theorem ws_store {mi mv : ME} : @WS (mStore i mi mv) ρ Q = @WE mv ρ fun v ρ1 => @getQ ρ1 i fun _ => @WE mi ρ1 fun k ρ2 => @getQ ρ2 i fun sv => @owQ sv fun d => @oQ _ (setD d k v) fun d' => @setQ ρ2 i (some (.ow d')) fun ρ3 => Q (.nx ρ3) := by
  simp only [WS, mStore, WE, oQ_bind, getQ, VS.look]
  congr 1
  funext ⟨v, ρ1⟩
  have e : (fun k : D × Env' => @oQ _ (match k.2[i]? with
    | some (some (.ow d)) => (setD d k.1 v).bind fun d' => some (Out.nx (k.2.set i (some (.ow d'))))
    | _ => none) Q) = (fun k : D × Env' => svQ k.2[i]? fun sv => @owQ sv fun d => @oQ _ (setD d k.1 v) fun d' => @setQ k.2 i (some (.ow d')) fun ρ3 => Q (.nx ρ3)) := by
    funext k
    rcases k.2[i]? with _ | _ | _ | _ <;> first | rfl | (simp only [oQ_bind, oQ_some, svQ, owQ, setQ])
  rcases ρ1[i]? with _ | _ | _ | _
  · rfl
  · rfl
  · exact congrArg (@oQ _ (mi ρ1)) e
  · exact congrArg (@oQ _ (mi ρ1)) e
theorem ws_aug {f : Int → Int → Int} : @WS (mAug i f e) ρ Q = @getQ ρ i fun sv => @stQ sv fun a => @WE e ρ fun b ρ2 => @inQ a fun x => @inQ b fun y => @setQ ρ2 i (some (.st (.int (f x y)))) fun ρ3 => Q (.nx ρ3) := by
  simp only [WS, mAug, mN, oQ_bind, getQ, WE]
  rcases ρ[i]? with _ | _ | a | a
  · rfl
  · rfl
  · simp only [oQ_some, svQ, stQ]
    congr 1
    funext ⟨b, ρ2⟩
    cases a <;> cases b <;> rfl
  · rfl
theorem ws_for {tg : Tgt} {mi : MI} : @WS (mFor tg mi m) ρ Q = @WI mi ρ fun ds ρ' => @WL tg m ds ρ' Q := by
  show @oQ _ ((mi ρ).bind _) Q = _
  rw [oQ_bind]
  rfl
theorem ws_while {k : Nat} : @WS (whileN t m k) ρ Q = @WW t m k ρ Q := no_rfl rfl
theorem we_c : @WE (mC d) ρ R = R d ρ := no_rfl rfl
theorem we_n : @WE (mN i) ρ R = @getQ ρ i fun sv => @stQ sv fun d => R d ρ := by
  unfold WE mN getQ
  rcases ρ[i]? with _ | _ | _ | _ <;> rfl
theorem we_op {f : List D → Option D} {os : List Opd} : @WE (mOp f os) ρ R = @WV os ρ fun ps ρ' => @resQ os ps ρ' fun ds => @fQ _ f ds fun d => R d ρ' := by
  simp only [WE, mOp, evs, WV, resQ, fQ, oQ_bind, oQ_some]
theorem we_int : @WE (mInt e) ρ R = @WE e ρ fun d ρ' => @inQ d fun i => R (.int i) ρ' := by
  simp only [WE, mInt, oQ_bind]
  congr 1
  funext ⟨d, ρ'⟩
  cases d <;> rfl
theorem wv_nil {R : List (Option D) → Env' → Prop} : @WV [] ρ R = R [] ρ := no_rfl rfl
theorem wv_ex {os : List Opd} {R : List (Option D) → Env' → Prop} : @WV (.ex e :: os) ρ R = @WE e ρ fun d ρ' => @WV os ρ' fun ps ρ2 => R (some d :: ps) ρ2 := by
  simp only [WV, evp, oQ_bind, WE, oQ_some]
theorem wv_nm {os : List Opd} {R : List (Option D) → Env' → Prop} : @WV (.nm i :: os) ρ R = @getQ ρ i fun _ => @WV os ρ fun ps ρ2 => R (none :: ps) ρ2 := by
  simp only [WV, evp, oQ_bind, oQ_some, getQ, VS.look]
  rcases ρ[i]? with _ | _ | _ | _ <;> rfl
theorem re_nil {ps : List (Option D)} {K : List D → Prop} : @resQ [] ps ρ K = K [] := by
  cases ps <;> rfl
theorem re_ex {os : List Opd} {ps : List (Option D)} {K : List D → Prop} : @resQ (.ex e :: os) (some d :: ps) ρ K = @resQ os ps ρ fun ds => K (d :: ds) := by
  simp only [resQ, res, oQ_map]
theorem re_nm {os : List Opd} {p : Option D} {ps : List (Option D)} {K : List D → Prop} : @resQ (.nm i :: os) (p :: ps) ρ K = @getQ ρ i fun sv => @lkQ sv fun d => @resQ os ps ρ fun ds => K (d :: ds) := by
  simp only [resQ, res, oQ_bind, oQ_map, getQ, VS.look]
  rcases ρ[i]? with _ | _ | _ | _ <;> rfl
theorem st_st {K : D → Prop} : @stQ (.st d) K = K d := no_rfl rfl
theorem ow_ow {K : D → Prop} : @owQ (.ow d) K = K d := no_rfl rfl
theorem lk_st {K : D → Prop} : @lkQ (.st d) K = K d := no_rfl rfl
theorem lk_ow {K : D → Prop} : @lkQ (.ow d) K = K d := no_rfl rfl
theorem bo_bo {K : Bool → Prop} : @boQ (.bool b) K = K b := no_rfl rfl
theorem in_in {x : Int} {K : Int → Prop} : @inQ (.int x) K = K x := no_rfl rfl
theorem wt_test : @WT (mTest e) ρ T = @WE e ρ fun d ρ' => @boQ d fun b => T b ρ' := by
  simp only [WT, mTest, oQ_bind, WE]
  congr 1
  funext ⟨d, ρ'⟩
  cases d <;> rfl
theorem evp_one {o : Opd} {q : List (Option D) × Env'} (h : evp [o] ρ = some q) : ∃ p, q.1 = [p] := by
  cases o with
  | ex m =>
    unfold evp at h
    obtain ⟨p, h1, h⟩ := Option.bind_eq_some_iff.mp h
    cases h
    exact ⟨_, rfl⟩
  | nm i =>
    unfold evp at h
    obtain ⟨p, h1, h⟩ := Option.bind_eq_some_iff.mp h
    cases h
    exact ⟨_, rfl⟩
def truQ (ds : List D) [K : Bool → Prop] : Prop := match ds with
  | [d] => @oQ _ (truD d) K
  | _ => False
theorem wt_tru {o : Opd} : @WT (mTru o) ρ T = @WV [o] ρ fun ps ρ' => @resQ [o] ps ρ' fun ds => @truQ ds fun b => T b ρ' := by
  simp only [WT, mTru, evs, WV, resQ, oQ_bind, oQ_some]
  congr 1
  funext q
  congr 1
  funext ds
  rcases ds with _ | ⟨d, _ | ⟨_, _⟩⟩
  · rfl
  · simp only [truQ, oQ_bind, oQ_some]
  · rfl
theorem tr_bo {K : Bool → Prop} : @truQ [.bool b] K = K b := no_rfl rfl
theorem tr_in {x : Int} {K : Bool → Prop} : @truQ [.int x] K = K (x != 0) := no_rfl rfl
theorem tr_li {ds : List D} {K : Bool → Prop} : @truQ [.list ds] K = K (!ds.isEmpty) := no_rfl rfl
theorem tr_tu {ds : List D} {K : Bool → Prop} : @truQ [.tuple ds] K = K (!ds.isEmpty) := no_rfl rfl
theorem tr_no {K : Bool → Prop} : @truQ [.none] K = K false := no_rfl rfl
theorem wt_not : @WT (mNot t) ρ T = @WT t ρ fun b ρ' => T (!b) ρ' := by
  simp only [WT, mNot, oQ_bind, oQ_some]
theorem wt_and : @WT (mAnd t u) ρ T = @WT t ρ fun b ρ' => @iteQ b (@WT u ρ' T) (T false ρ') := by
  simp only [WT, mAnd, oQ_bind]
  congr 1
  funext ⟨b, ρ'⟩
  cases b <;> rfl
theorem wt_or : @WT (mOr t u) ρ T = @WT t ρ fun b ρ' => @iteQ b (T true ρ') (@WT u ρ' T) := by
  simp only [WT, mOr, oQ_bind]
  congr 1
  funext ⟨b, ρ'⟩
  cases b <;> rfl
theorem we_and : @WE (mAndV e f) ρ R = @WE e ρ fun d ρ' => @boQ d fun b => @iteQ b (@WE f ρ' R) (R (.bool false) ρ') := by
  simp only [WE, mAndV, oQ_bind]
  congr 1
  funext ⟨d, ρ'⟩
  cases d <;> try rfl
  rename_i b
  cases b <;> rfl
theorem we_or : @WE (mOrV e f) ρ R = @WE e ρ fun d ρ' => @boQ d fun b => @iteQ b (R (.bool true) ρ') (@WE f ρ' R) := by
  simp only [WE, mOrV, oQ_bind]
  congr 1
  funext ⟨d, ρ'⟩
  cases d <;> try rfl
  rename_i b
  cases b <;> rfl
theorem we_not : @WE (mNotV e) ρ R = @WE e ρ fun d ρ' => @boQ d fun b => R (.bool (!b)) ρ' := by
  simp only [WE, mNotV, oQ_bind]
  congr 1
  funext ⟨d, ρ'⟩
  cases d <;> rfl
theorem we_if : @WE (mIf t e f) ρ R = @WT t ρ fun b ρ' => @iteQ b (@WE e ρ' R) (@WE f ρ' R) := by
  simp only [WE, mIf, oQ_bind, WT]
  congr 1
  funext ⟨b, ρ'⟩
  cases b <;> rfl
def dispQ (ds : List D) [K : Prop] : Prop := (ds.all noDict = true ∧ ds.length ≤ sizeLine) ∧ K
theorem disp_oQ {mk : List D → D} {ds : List D} {K : D → Prop} : @oQ _ (dispF mk ds) K = @dispQ ds (K (mk ds)) := by
  unfold dispF dispQ
  by_cases h : ds.all noDict = true ∧ ds.length ≤ sizeLine
  · rw [if_pos h]
    exact propext ⟨fun z => ⟨h, z⟩, fun z => z.2⟩
  · rw [if_neg h]
    exact propext ⟨fun z => z.elim, fun z => h z.1⟩
theorem di_nil {K : Prop} : @dispQ [] K = K := by simp [dispQ]
theorem di_1 {K : Prop} {d0 : D} (h0 : noDict d0 = true) : @dispQ [d0] K = K := by simp [dispQ, sizeLine, h0]
theorem di_2 {K : Prop} {d0 d1 : D} (h0 : noDict d0 = true) (h1 : noDict d1 = true) : @dispQ [d0, d1] K = K := by simp [dispQ, sizeLine, h0, h1]
theorem di_3 {K : Prop} {d0 d1 d2 : D} (h0 : noDict d0 = true) (h1 : noDict d1 = true) (h2 : noDict d2 = true) : @dispQ [d0, d1, d2] K = K := by simp [dispQ, sizeLine, h0, h1, h2]
theorem di_4 {K : Prop} {d0 d1 d2 d3 : D} (h0 : noDict d0 = true) (h1 : noDict d1 = true) (h2 : noDict d2 = true) (h3 : noDict d3 = true) : @dispQ [d0, d1, d2, d3] K = K := by simp [dispQ, sizeLine, h0, h1, h2, h3]
theorem di_5 {K : Prop} {d0 d1 d2 d3 d4 : D} (h0 : noDict d0 = true) (h1 : noDict d1 = true) (h2 : noDict d2 = true) (h3 : noDict d3 = true) (h4 : noDict d4 = true) : @dispQ [d0, d1, d2, d3, d4] K = K := by simp [dispQ, sizeLine, h0, h1, h2, h3, h4]
theorem di_6 {K : Prop} {d0 d1 d2 d3 d4 d5 : D} (h0 : noDict d0 = true) (h1 : noDict d1 = true) (h2 : noDict d2 = true) (h3 : noDict d3 = true) (h4 : noDict d4 = true) (h5 : noDict d5 = true) : @dispQ [d0, d1, d2, d3, d4, d5] K = K := by simp [dispQ, sizeLine, h0, h1, h2, h3, h4, h5]
theorem di_7 {K : Prop} {d0 d1 d2 d3 d4 d5 d6 : D} (h0 : noDict d0 = true) (h1 : noDict d1 = true) (h2 : noDict d2 = true) (h3 : noDict d3 = true) (h4 : noDict d4 = true) (h5 : noDict d5 = true) (h6 : noDict d6 = true) : @dispQ [d0, d1, d2, d3, d4, d5, d6] K = K := by simp [dispQ, sizeLine, h0, h1, h2, h3, h4, h5, h6]
theorem di_8 {K : Prop} {d0 d1 d2 d3 d4 d5 d6 d7 : D} (h0 : noDict d0 = true) (h1 : noDict d1 = true) (h2 : noDict d2 = true) (h3 : noDict d3 = true) (h4 : noDict d4 = true) (h5 : noDict d5 = true) (h6 : noDict d6 = true) (h7 : noDict d7 = true) : @dispQ [d0, d1, d2, d3, d4, d5, d6, d7] K = K := by simp [dispQ, sizeLine, h0, h1, h2, h3, h4, h5, h6, h7]
theorem di_9 {K : Prop} {d0 d1 d2 d3 d4 d5 d6 d7 d8 : D} (h0 : noDict d0 = true) (h1 : noDict d1 = true) (h2 : noDict d2 = true) (h3 : noDict d3 = true) (h4 : noDict d4 = true) (h5 : noDict d5 = true) (h6 : noDict d6 = true) (h7 : noDict d7 = true) (h8 : noDict d8 = true) : @dispQ [d0, d1, d2, d3, d4, d5, d6, d7, d8] K = K := by simp [dispQ, sizeLine, h0, h1, h2, h3, h4, h5, h6, h7, h8]
theorem di_10 {K : Prop} {d0 d1 d2 d3 d4 d5 d6 d7 d8 d9 : D} (h0 : noDict d0 = true) (h1 : noDict d1 = true) (h2 : noDict d2 = true) (h3 : noDict d3 = true) (h4 : noDict d4 = true) (h5 : noDict d5 = true) (h6 : noDict d6 = true) (h7 : noDict d7 = true) (h8 : noDict d8 = true) (h9 : noDict d9 = true) : @dispQ [d0, d1, d2, d3, d4, d5, d6, d7, d8, d9] K = K := by simp [dispQ, sizeLine, h0, h1, h2, h3, h4, h5, h6, h7, h8, h9]
theorem di_11 {K : Prop} {d0 d1 d2 d3 d4 d5 d6 d7 d8 d9 d10 : D} (h0 : noDict d0 = true) (h1 : noDict d1 = true) (h2 : noDict d2 = true) (h3 : noDict d3 = true) (h4 : noDict d4 = true) (h5 : noDict d5 = true) (h6 : noDict d6 = true) (h7 : noDict d7 = true) (h8 : noDict d8 = true) (h9 : noDict d9 = true) (h10 : noDict d10 = true) : @dispQ [d0, d1, d2, d3, d4, d5, d6, d7, d8, d9, d10] K = K := by simp [dispQ, sizeLine, h0, h1, h2, h3, h4, h5, h6, h7, h8, h9, h10]
theorem di_12 {K : Prop} {d0 d1 d2 d3 d4 d5 d6 d7 d8 d9 d10 d11 : D} (h0 : noDict d0 = true) (h1 : noDict d1 = true) (h2 : noDict d2 = true) (h3 : noDict d3 = true) (h4 : noDict d4 = true) (h5 : noDict d5 = true) (h6 : noDict d6 = true) (h7 : noDict d7 = true) (h8 : noDict d8 = true) (h9 : noDict d9 = true) (h10 : noDict d10 = true) (h11 : noDict d11 = true) : @dispQ [d0, d1, d2, d3, d4, d5, d6, d7, d8, d9, d10, d11] K = K := by simp [dispQ, sizeLine, h0, h1, h2, h3, h4, h5, h6, h7, h8, h9, h10, h11]
theorem we_tup {ms : List ME} : @WE (mTup ms) ρ R = @WM ms ρ fun ds ρ' => @dispQ ds (R (.tuple ds) ρ') := by
  simp only [WE, mTup, WM, oQ_bind, disp_oQ, oQ_some]
theorem we_lst {ms : List ME} : @WE (mLst ms) ρ R = @WM ms ρ fun ds ρ' => @dispQ ds (R (.list ds) ρ') := by
  simp only [WE, mLst, WM, oQ_bind, disp_oQ, oQ_some]
theorem wm_nil {R : List D → Env' → Prop} : @WM [] ρ R = R [] ρ := no_rfl rfl
theorem wm_cons {ms : List ME} {R : List D → Env' → Prop} : @WM (e :: ms) ρ R = @WE e ρ fun d ρ' => @WM ms ρ' fun ds ρ2 => R (d :: ds) ρ2 := by
  simp only [WM, evm, oQ_bind, WE, oQ_some]
def WA (as : List Arg) (ρ : Env') [Q : List (Option D) → Env' → Prop] : Prop := @WV (as.map Arg.o) ρ Q
theorem wa_nil {R : List (Option D) → Env' → Prop} : @WA [] ρ R = R [] ρ := no_rfl rfl
theorem wa_ex {as : List Arg} {R : List (Option D) → Env' → Prop} : @WA (.ex e :: as) ρ R = @WE e ρ fun d ρ' => @WA as ρ' fun ps ρ2 => R (some d :: ps) ρ2 := wv_ex
theorem wa_st {as : List Arg} {R : List (Option D) → Env' → Prop} : @WA (.st i :: as) ρ R = @getQ ρ i fun _ => @WA as ρ fun ps ρ2 => R (none :: ps) ρ2 := wv_nm
theorem wa_io {as : List Arg} {R : List (Option D) → Env' → Prop} : @WA (.io i :: as) ρ R = @getQ ρ i fun _ => @WA as ρ fun ps ρ2 => R (none :: ps) ρ2 := wv_nm
theorem fz_nil {K : Env' → Prop} : @frzQ [] ρ K = K ρ := no_rfl rfl
theorem fz_ex {as : List Arg} {K : Env' → Prop} : @frzQ (.ex e :: as) ρ K = @frzQ as ρ K := no_rfl rfl
theorem fz_io {as : List Arg} {K : Env' → Prop} : @frzQ (.io i :: as) ρ K = @frzQ as ρ K := no_rfl rfl
def fzQ (j : Nat) (ρ : Env') (s : SV) [K : Env' → Prop] : Prop := match s with
  | .st _ => K ρ
  | .ow d => @setQ ρ j (some (.st d)) K
theorem frz1_eq {j : Nat} {K : Env' → Prop} {sv : SV} (h : ρ[j]? = some (some sv)) : K (frz1 j ρ) = @fzQ j ρ sv K := by
  unfold VS.frz1
  rw [h]
  cases sv <;> rfl
theorem fy_st {K : Env' → Prop} : @fzQ j ρ (.st d) K = K ρ := no_rfl rfl
theorem fy_ow {K : Env' → Prop} : @fzQ j ρ (.ow d) K = @setQ ρ j (some (.st d)) K := no_rfl rfl
theorem ar_nil {ps : List (Option D)} {K : List D → Prop} : @argQ [] ps ρ K = K [] := by
  cases ps <;> rfl
theorem ar_ex {as : List Arg} {ps : List (Option D)} {K : List D → Prop} : @argQ (.ex e :: as) (some d :: ps) ρ K = @argQ as ps ρ fun ds => K (d :: ds) := by
  simp only [argQ, argD, oQ_map]
theorem ar_st {as : List Arg} {p : Option D} {ps : List (Option D)} {K : List D → Prop} : @argQ (.st i :: as) (p :: ps) ρ K = @getQ ρ i fun sv => @stQ sv fun d => @argQ as ps ρ fun ds => K (d :: ds) := by
  simp only [argQ, argD, getQ]
  rcases ρ[i]? with _ | _ | _ | _ <;> first | rfl | simp only [oQ_map, svQ, stQ]
theorem ar_io {as : List Arg} {p : Option D} {ps : List (Option D)} {K : List D → Prop} : @argQ (.io i :: as) (p :: ps) ρ K = @getQ ρ i fun sv => @owQ sv fun d => @argQ as ps ρ fun ds => K (d :: ds) := by
  simp only [argQ, argD, getQ]
  rcases ρ[i]? with _ | _ | _ | _ <;> first | rfl | simp only [oQ_map, svQ, owQ]
theorem pu_nil {K : Env' → Prop} : @putQ [] [] ρ K = K ρ := no_rfl rfl
theorem pu_cons {js : List Nat} {ds : List D} {K : Env' → Prop} : @putQ (j :: js) (d :: ds) ρ K = @setQ ρ j (some (.ow d)) fun ρ' => @putQ js ds ρ' K := no_rfl rfl
theorem we_call {F : List D → Option (D × List D)} {as : List Arg} : @WE (mCall F as) ρ R = @WA as ρ fun ps ρ' => @frzQ as ρ' fun ρ2 => @argQ as ps ρ2 fun ds => @WF F ds fun d ns => @putQ (ioJ as) ns ρ2 fun ρ3 => R d ρ3 := by
  simp only [WE, mCall, WA, WV, frzQ, argQ, WF, putQ, oQ_bind, oQ_some]
theorem ij_nil : ioJ [] = [] := no_rfl rfl
theorem ij_ex {as : List Arg} : ioJ (.ex e :: as) = ioJ as := no_rfl rfl
theorem ij_st {as : List Arg} : ioJ (.st i :: as) = ioJ as := no_rfl rfl
theorem ij_io {as : List Arg} : ioJ (.io i :: as) = i :: ioJ as := no_rfl rfl
theorem wg_nm {K : Env' → Prop} : @WG (.nm i) d ρ K = @setQ ρ i (some (.st d)) K := no_rfl rfl
theorem wg_tu {is : List Nat} {ds : List D} {K : Env' → Prop} : @WG (.tu is) (.tuple ds) ρ K = @WGs is ds ρ K := no_rfl rfl
theorem wg_tl {is : List Nat} {ds : List D} {K : Env' → Prop} : @WG (.tu is) (.list ds) ρ K = @WGs is ds ρ K := no_rfl rfl
theorem wgs_nil {K : Env' → Prop} : @WGs [] [] ρ K = K ρ := no_rfl rfl
theorem wgs_cons {is : List Nat} {ds : List D} {K : Env' → Prop} : @WGs (i :: is) (d :: ds) ρ K = @setQ ρ i (some (.st d)) fun ρ' => @WGs is ds ρ' K := no_rfl rfl
theorem we_methS {g : D → List D → Option (D × D)} {ms : List ME} : @WE (mMethS "list" i g ms) ρ R = @getQ ρ i fun sv => @owQ sv fun d => if isLst d = true then @WM ms ρ fun ds ρ2 => @getQ ρ2 i fun sv => @owQ sv fun d => @hQ g d ds fun r d' => @setQ ρ2 i (some (.ow d')) fun ρ3 => R r ρ3 else False := by
  have e : (fun q : List D × Env' => @oQ _ (match q.2[i]? with
    | some (some (.ow d)) => (g d q.1).bind fun z => some (z.1, q.2.set i (some (.ow z.2)))
    | _ => none) fun p => R p.1 p.2) = fun q => @getQ q.2 i fun sv => @owQ sv fun d => @hQ g d q.1 fun r d' => @setQ q.2 i (some (.ow d')) fun ρ3 => R r ρ3 := by
    funext q
    unfold getQ
    rcases q.2[i]? with _ | _ | _ | d <;> try rfl
    simp only [oQ_bind, oQ_some, svQ, owQ, hQ, setQ]
  unfold WE mMethS mMutS kindAt
  simp only [getQ] at e ⊢
  rcases ρ[i]? with _ | _ | _ | d <;> try rfl
  cases d <;> try rfl
  show @oQ _ (if ("list" == "list") = true then _ else _) (fun _ => _) = @oQ _ (evm ms ρ) (fun _ => _)
  rw [if_pos (show ("list" == "list") = true from rfl), oQ_bind]
  exact congrArg (@oQ _ _) e
def lsQ (d : D) [K : Prop] : Prop := if isLst d = true then K else False
theorem we_methS' {g : D → List D → Option (D × D)} {ms : List ME} : @WE (mMethS "list" i g ms) ρ R = @getQ ρ i fun sv => @owQ sv fun d => @lsQ d (@WM ms ρ fun ds ρ2 => @getQ ρ2 i fun sv => @owQ sv fun d => @hQ g d ds fun r d' => @setQ ρ2 i (some (.ow d')) fun ρ3 => R r ρ3) := we_methS
theorem ls_li {ds : List D} {K : Prop} : @lsQ (.list ds) K = K := if_pos rfl
theorem we_meth {g : D → List D → Option (D × D)} {os : List Opd} : @WE (mMeth "list" i g os) ρ R = @getQ ρ i fun sv => @owQ sv fun d => @lsQ d (@WV os ρ fun ps ρ2 => @resQ os ps ρ2 fun ds => @getQ ρ2 i fun sv => @owQ sv fun d => @hQ g d ds fun r d' => @setQ ρ2 i (some (.ow d')) fun ρ3 => R r ρ3) := by
  have e : (fun q : List D × Env' => @oQ _ (match q.2[i]? with
    | some (some (.ow d)) => (g d q.1).bind fun z => some (z.1, q.2.set i (some (.ow z.2)))
    | _ => none) fun p => R p.1 p.2) = fun q => @getQ q.2 i fun sv => @owQ sv fun d => @hQ g d q.1 fun r d' => @setQ q.2 i (some (.ow d')) fun ρ3 => R r ρ3 := by
    funext q
    unfold getQ
    rcases q.2[i]? with _ | _ | _ | d <;> try rfl
    simp only [oQ_bind, oQ_some, svQ, owQ, hQ, setQ]
  unfold WE mMeth mMut kindAt
  simp only [getQ] at e ⊢
  rcases ρ[i]? with _ | _ | _ | d <;> try rfl
  cases d <;> try rfl
  show @oQ _ (if ("list" == "list") = true then _ else _) (fun _ => _) = @oQ _ (evp os ρ) (fun _ => _)
  rw [if_pos (show ("list" == "list") = true from rfl), oQ_bind]
  unfold evs
  simp only [oQ_bind, oQ_some]
  refine congrArg (@oQ _ _) (funext fun q => ?_)
  refine congrArg (@oQ _ _) (funext fun ds => ?_)
  exact congrFun e (ds, q.2)
theorem we_chain {f g : List D → Option D} {a b c : ME} : @WE (mChain f g a b c) ρ R = @WE a ρ fun x ρ1 => @WE b ρ1 fun y ρ2 => @fQ _ f [x, y] fun d => @boQ d fun k => @iteQ k (@WE c ρ2 fun z ρ3 => @fQ _ g [y, z] fun d2 => R d2 ρ3) (R (.bool false) ρ2) := by
  simp only [WE, mChain, oQ_bind, fQ]
  refine congrArg (@oQ _ _) (funext fun x => ?_)
  refine congrArg (@oQ _ _) (funext fun y => ?_)
  refine congrArg (@oQ _ _) (funext fun d => ?_)
  cases d with
  | bool k =>
    cases k with
    | true => simp only [oQ_bind, oQ_some, boQ, iteQ]
    | false => simp only [oQ_some, boQ, iteQ]
  | _ => rfl
def rgQ (d : D) [K : Nat → Prop] : Prop := match d with
  | .int n => (0 ≤ n ∧ n ≤ 16777216) ∧ K n.toNat
  | _ => False
theorem we_rg1 {mk : List D → D} : @WE (mRg1 mk e) ρ R = @WE e ρ fun d ρ' => @rgQ d fun n => R (mk (rngD 0 n)) ρ' := by
  simp only [WE, mRg1, oQ_bind]
  refine congrArg (@oQ _ _) (funext fun p => ?_)
  obtain ⟨d, ρ1⟩ := p
  cases d with
  | int n =>
    by_cases h : 0 ≤ n ∧ n ≤ 16777216
    · simp only [if_pos h, oQ_some, rgQ]
      exact propext ⟨fun z => ⟨h, z⟩, fun z => z.2⟩
    · simp only [if_neg h, rgQ]
      exact propext ⟨fun z => z.elim, fun z => h z.1⟩
  | _ => rfl
theorem rg_nat {n : Nat} {K : Nat → Prop} (h : n ≤ 16777216) : @rgQ (.int (n : Int)) K = K n := by
  unfold rgQ
  exact propext ⟨fun z => z.2, fun z => ⟨⟨by omega, by omega⟩, z⟩⟩
theorem f_strI {i : Int} {K : D → Prop} (h : i.natAbs.log2 < 1920) : @fQ _ strD [.int i] K = K (.str (toString i)) := by
  show @oQ _ (if _ then _ else _) (fun _ => _) = _
  rw [if_pos h]
  rfl
def dgQ (d k : D) [K : D → Prop] : Prop := match d with
  | .dict kvs => @oQ _ ((keyD k).bind fun kk => dgetD kvs kk) K
  | _ => False
def dpQ (d k v : D) [K : D → Prop] : Prop := match d with
  | .dict kvs => @oQ _ ((keyD k).bind fun kk => if noDict v = true ∧ kvs.length < sizeLine then some (PyData.dict (dputD kvs kk v)) else none) K
  | _ => False
theorem we_dict0 : @WE mDict0 ρ R = R (.dict []) ρ := no_rfl rfl
theorem we_get : @WE (mGet i e) ρ R = @getQ ρ i fun _ => @WE e ρ fun k ρ' => @getQ ρ' i fun sv => @lkQ sv fun d => @dgQ d k fun v => R v ρ' := by
  simp only [WE, mGet, oQ_bind, getQ, VS.look]
  have h : (fun p : D × Env' => @oQ _ (match (match p.2[i]? with
      | some (some (.st d)) => some d
      | some (some (.ow d)) => some d
      | _ => none) with
    | some (.dict kvs) => (keyD p.1).bind fun k => (dgetD kvs k).bind fun d => some (d, p.2)
    | _ => none) fun p => R p.1 p.2) = fun p => svQ p.2[i]? fun sv => @lkQ sv fun d => @dgQ d p.1 fun v => R v p.2 := by
    funext p
    rcases p.2[i]? with _ | _ | d | d
    · rfl
    · rfl
    · cases d <;> first | rfl | simp only [oQ_bind, oQ_some, svQ, lkQ, dgQ]
    · cases d <;> first | rfl | simp only [oQ_bind, oQ_some, svQ, lkQ, dgQ]
  rcases ρ[i]? with _ | _ | d | d
  · rfl
  · rfl
  · exact congrArg (@oQ _ (e ρ)) h
  · exact congrArg (@oQ _ (e ρ)) h
def dg2Q (d k z : D) [K : D → Prop] : Prop := match d with
  | .dict kvs => @oQ _ ((keyD k).bind fun kk => if noDict z = true then some ((dgetD kvs kk).getD z) else none) K
  | _ => False
def isdQ (d : D) [K : Prop] : Prop := match d with
  | .dict _ => K
  | _ => False
theorem isd_d {kvs : List (D × D)} {K : Prop} : @isdQ (.dict kvs) K = K := no_rfl rfl
theorem we_get2 : @WE (mGet2 i e f) ρ R = @getQ ρ i fun sv => @lkQ sv fun d => @isdQ d (@WE e ρ fun k ρ1 => @WE f ρ1 fun z ρ2 => @getQ ρ2 i fun sv => @lkQ sv fun d => @dg2Q d k z fun v => R v ρ2) := by
  have h : ∀ k : D, (fun r : D × Env' => @oQ _ (match VS.look r.2 i with
    | some (.dict kvs) => (keyD k).bind fun kk => if noDict r.1 = true then some ((dgetD kvs kk).getD r.1, r.2) else none
    | _ => none) fun p => R p.1 p.2) = fun r => svQ r.2[i]? fun sv => @lkQ sv fun d => @dg2Q d k r.1 fun v => R v r.2 := fun k => by
    funext r
    unfold VS.look
    rcases r.2[i]? with _ | _ | d | d
    · rfl
    · rfl
    · cases d <;> first | rfl | (simp only [oQ_bind, svQ, lkQ, dg2Q]; congr 1; funext kk; split <;> rfl)
    · cases d <;> first | rfl | (simp only [oQ_bind, svQ, lkQ, dg2Q]; congr 1; funext kk; split <;> rfl)
  have g : ∀ kv : List (D × D), @oQ _ ((e ρ).bind fun p => (f p.2).bind fun r => match VS.look r.2 i with
    | some (.dict kvs) => (keyD p.1).bind fun kk => if noDict r.1 = true then some ((dgetD kvs kk).getD r.1, r.2) else none
    | _ => none) (fun p => R p.1 p.2) = @WE e ρ (fun k ρ1 => @WE f ρ1 (fun z ρ2 => @getQ ρ2 i (fun sv => @lkQ sv (fun d => @dg2Q d k z (fun v => R v ρ2))))) := fun kv => by
    simp only [oQ_bind, WE, getQ]
    refine congrArg (@oQ _ (e ρ)) (funext fun p => ?_)
    exact congrArg (@oQ _ (f p.2)) (h p.1)
  unfold WE mGet2 getQ
  unfold VS.look at g ⊢
  rcases ρ[i]? with _ | _ | d | d
  · rfl
  · rfl
  · cases d <;> first | rfl | exact g []
  · cases d <;> first | rfl | exact g []
theorem ws_put {mi mv : ME} : @WS (mPut i mi mv) ρ Q = @WE mv ρ fun v ρ1 => @getQ ρ1 i fun _ => @WE mi ρ1 fun k ρ2 => @getQ ρ2 i fun sv => @owQ sv fun d => @dpQ d k v fun d' => @setQ ρ2 i (some (.ow d')) fun ρ3 => Q (.nx ρ3) := by
  simp only [WS, mPut, WE, oQ_bind, getQ, VS.look]
  refine congrArg (@oQ _ (mv ρ)) (funext fun v => ?_)
  have e : (fun k : D × Env' => @oQ _ (match k.2[i]? with
    | some (some (.ow (.dict kvs))) => (keyD k.1).bind fun kk => if noDict v.1 = true ∧ kvs.length < sizeLine then some (Out.nx (k.2.set i (some (.ow (.dict (dputD kvs kk v.1)))))) else none
    | _ => none) Q) = (fun k : D × Env' => svQ k.2[i]? fun sv => @owQ sv fun d => @dpQ d k.1 v.1 fun d' => @setQ k.2 i (some (.ow d')) fun ρ3 => Q (.nx ρ3)) := by
    funext k
    rcases k.2[i]? with _ | _ | d | d
    · rfl
    · rfl
    · rfl
    · cases d <;> first | rfl | (simp only [oQ_bind, svQ, owQ, dpQ, setQ]; congr 1; funext kk; split <;> rfl)
  rcases v.2[i]? with _ | _ | _ | _
  · rfl
  · rfl
  · exact congrArg (@oQ _ (mi v.2)) e
  · exact congrArg (@oQ _ (mi v.2)) e
def mVal (n : D → Bool) (f : List D → Option D) (i : Nat) (os : List Opd) : ME := fun ρ => (evs [.nm i] ρ).bind fun q => match q.1 with | [d] => if n d = true then mOp f (.nm i :: os) ρ else none | _ => none
theorem evs_nm : evs [.nm i] ρ = (VS.look ρ i).bind fun d => some ([d], ρ) := by
  unfold evs
  simp only [evp, res]
  cases h : VS.look ρ i with
  | none => rfl
  | some d => simp only [Option.bind_some, res, h, Option.map_some]
theorem we_val {f : List D → Option D} {os : List Opd} : @WE (mVal isLst f i os) ρ R = @getQ ρ i fun sv => @lkQ sv fun d => @lsQ d (@WE (mOp f (.nm i :: os)) ρ R) := by
  unfold WE mVal getQ
  rw [evs_nm]
  unfold VS.look
  rcases ρ[i]? with _ | _ | d | d
  · rfl
  · rfl
  · show @oQ _ (if isLst d = true then _ else none) (fun _ => _) = @lsQ d (@oQ _ _ (fun _ => _))
    unfold lsQ
    by_cases c : isLst d = true
    · rw [if_pos c, if_pos c]
    · rw [if_neg c, if_neg c]
      rfl
  · show @oQ _ (if isLst d = true then _ else none) (fun _ => _) = @lsQ d (@oQ _ _ (fun _ => _))
    unfold lsQ
    by_cases c : isLst d = true
    · rw [if_pos c, if_pos c]
    · rw [if_neg c, if_neg c]
      rfl
theorem wi_seq {a : Arg} {R : List D → Env' → Prop} : @WI (mSeqI a) ρ R = @WA [a] ρ fun ps ρ' => @frzQ [a] ρ' fun ρ2 => @argQ [a] ps ρ2 fun ds => @fQ _ (one1 seqD) ds fun its => R its ρ2 := by
  simp only [WI, mSeqI, evA, WA, WV, frzQ, argQ, fQ, oQ_bind, oQ_some]
theorem wi_rng {f : List D → Option (List D)} {os : List Opd} {R : List D → Env' → Prop} : @WI (mRng f os) ρ R = @WV os ρ fun ps ρ' => @resQ os ps ρ' fun ds => @fQ _ f ds fun its => R its ρ' := by
  simp only [WI, mRng, evs, WV, resQ, fQ, oQ_bind, oQ_some]
theorem wi_enum {a : Arg} {R : List D → Env' → Prop} : @WI (mEnum a) ρ R = @WA [a] ρ fun ps ρ' => @frzQ [a] ρ' fun ρ2 => @argQ [a] ps ρ2 fun ds => @fQ _ (one1 seqD) ds fun its => R (enumD its) ρ2 := by
  simp only [WI, mEnum, evA, WA, WV, frzQ, argQ, fQ, oQ_bind, oQ_some]
theorem fq_seqL {ds : List D} {K : List D → Prop} : @fQ _ (one1 seqD) [.list ds] K = K ds := no_rfl rfl
theorem fq_seqT {ds : List D} {K : List D → Prop} : @fQ _ (one1 seqD) [.tuple ds] K = K ds := no_rfl rfl
theorem wt_yes : @WT mYes ρ T = T true ρ := no_rfl rfl
def slotQ (ρ : Env') (i : Nat) [K : Option SV → Prop] : Prop := K (ρ[i]?.getD none)
def restQ (ρ0 ρ : Env') (own : List Nat) [K : Env' → Prop] : Prop := K (restE ρ0 ρ own)
def wipeQ (ρ : Env') (own : List Nat) [K : Env' → Prop] : Prop := K (wipeE ρ own)
theorem rs_nil {ρ0 : Env'} {K : Env' → Prop} : @restQ ρ0 ρ [] K = K ρ := no_rfl rfl
theorem rs_cons {ρ0 : Env'} {v : Nat} {vs : List Nat} {K : Env' → Prop} : @restQ ρ0 ρ (v :: vs) K = @restQ ρ0 ρ vs fun ρ' => @slotQ ρ0 v fun o => @setQ ρ' v o K := no_rfl rfl
theorem wp_nil {K : Env' → Prop} : @wipeQ ρ [] K = K ρ := no_rfl rfl
theorem wp_cons {v : Nat} {vs : List Nat} {K : Env' → Prop} : @wipeQ ρ (v :: vs) K = @wipeQ ρ vs fun ρ' => @setQ ρ' v none K := no_rfl rfl
theorem we_comp {own : List Nat} {tg : Tgt} {mi : MI} : @WE (mComp own tg mi t e) ρ R = @WI mi ρ fun its ρ1 => (stSlots ρ1 own = true ∧ its.length ≤ sizeLine) ∧ @WC own tg t e its ρ1 fun ys ρ2 => @restQ ρ1 ρ2 own fun ρ3 => R (.list ys) ρ3 := by
  simp only [WE, mComp, oQ_bind, WI, WC]
  congr 1
  funext ⟨its, ρ1⟩
  by_cases h : stSlots ρ1 own = true ∧ its.length ≤ sizeLine
  · simp only [if_pos h, oQ_bind, oQ_some]
    exact propext ⟨fun z => ⟨h, z⟩, fun z => z.2⟩
  · simp only [if_neg h]
    exact propext ⟨fun z => z.elim, fun z => h z.1⟩
def WCD (own : List Nat) (t : Tgt) (tt : MT) (mk mv : ME) (ds : List D) (acc : List (D × D)) (ρ : Env') [Q : List (D × D) → Env' → Prop] : Prop := @oQ _ (compD own t tt mk mv ds acc ρ) fun p => Q p.1 p.2
theorem we_compD {own : List Nat} {tg : Tgt} {mi : MI} {mk mv : ME} : @WE (mCompD own tg mi t mk mv) ρ R = @WI mi ρ fun its ρ1 => stSlots ρ1 own = true ∧ @WCD own tg t mk mv its [] ρ1 fun kvs ρ2 => @restQ ρ1 ρ2 own fun ρ3 => R (.dict kvs) ρ3 := by
  simp only [WE, mCompD, oQ_bind, WI, WCD]
  congr 1
  funext ⟨its, ρ1⟩
  by_cases h : stSlots ρ1 own = true
  · simp only [if_pos h, oQ_bind, oQ_some]
    exact propext ⟨fun z => ⟨h, z⟩, fun z => z.2⟩
  · simp only [if_neg h]
    exact propext ⟨fun z => z.elim, fun z => h z.1⟩
theorem we_comp2 {own own1 : List Nat} {tg tg1 : Tgt} {mi mi1 : MI} {t1 : MT} : @WE (mComp2 own tg mi t own1 tg1 mi1 t1 e) ρ R = @WI mi ρ fun its ρ1 => stSlots ρ1 own = true ∧ @WC2 own tg t own1 tg1 mi1 t1 e its ρ1 fun ys ρ2 => ys.length ≤ sizeLine ∧ @restQ ρ1 ρ2 own fun ρ3 => R (.list ys) ρ3 := by
  simp only [WE, mComp2, oQ_bind, WI, WC2]
  congr 1
  funext ⟨its, ρ1⟩
  by_cases h : stSlots ρ1 own = true
  · rw [if_pos h, oQ_bind, eq_true h, true_and]
    refine congrArg (@oQ _ (compL2 own tg t own1 tg1 mi1 t1 e its ρ1)) (funext fun z => ?_)
    by_cases h2 : z.1.length ≤ sizeLine
    · rw [if_pos h2, eq_true h2, true_and]
      rfl
    · rw [if_neg h2, eq_false h2, false_and]
      rfl
  · simp only [if_neg h]
    exact propext ⟨fun z => z.elim, fun z => h z.1⟩
def ssQ (d : D) [K : D → Prop] : Prop := match d with
  | .list ds => @oQ _ (sortSetD ds) K
  | _ => False
def lsetQ (d : D) [K : D → Prop] : Prop := match d with
  | .list ds => @oQ _ ((intsD ds).bind fun ks => if ks.length < 64 then some (PyData.int ((usort ks).length : Nat)) else none) K
  | _ => False
theorem we_sset : @WE (mSortSet2 e) ρ R = @WE e ρ fun d ρ' => @ssQ d fun d2 => R d2 ρ' := by
  simp only [WE, mSortSet2, oQ_bind]
  refine congrArg (@oQ _ _) (funext fun p => ?_)
  obtain ⟨d, ρ1⟩ := p
  cases d with
  | list ds => simp only [ssQ, oQ_bind, oQ_some]
  | _ => rfl
theorem we_lset : @WE (mLenSet2 e) ρ R = @WE e ρ fun d ρ' => @lsetQ d fun d2 => R d2 ρ' := by
  simp only [WE, mLenSet2, oQ_bind]
  refine congrArg (@oQ _ _) (funext fun p => ?_)
  obtain ⟨d, ρ1⟩ := p
  cases d with
  | list ds =>
    simp only [lsetQ, oQ_bind]
    refine congrArg (@oQ _ _) (funext fun ks => ?_)
    by_cases c : ks.length < 64
    · simp only [if_pos c, oQ_some]
    · simp only [if_neg c]
      rfl
  | _ => rfl
def rvQ (d : D) [K : D → Prop] : Prop := match d with
  | .list ds => K (.list ds.reverse)
  | .tuple ds => K (.tuple ds.reverse)
  | _ => False
theorem we_rev : @WE (mRev e) ρ R = @WE e ρ fun d ρ' => @rvQ d fun d2 => R d2 ρ' := by
  simp only [WE, mRev, oQ_bind]
  refine congrArg (@oQ _ _) (funext fun p => ?_)
  obtain ⟨d, ρ1⟩ := p
  cases d <;> rfl
theorem rv_l {ds : List D} {K : D → Prop} : @rvQ (.list ds) K = K (.list ds.reverse) := no_rfl rfl
theorem rv_t {ds : List D} {K : D → Prop} : @rvQ (.tuple ds) K = K (.tuple ds.reverse) := no_rfl rfl
theorem f_rep {a : List D} {k : Int} {K : D → Prop} (h1 : a.isEmpty = false) (h2 : 2 ≤ k) (h3 : k ≤ 1000) (h4 : a.length ≤ 1000) : @fQ _ repD [.tuple a, .int k] K = K (.tuple (List.replicate k.toNat a).flatten) := by
  show @oQ _ (if _ then _ else _) K = _
  rw [if_pos ⟨h1, h2, h3, h4⟩]
  rfl
theorem ints_map : ∀ {ks : List Int}, intsD (ks.map .int) = some ks
  | [] => rfl
  | k :: ks => by
    show (intsD (ks.map .int)).map (k :: ·) = _
    rw [ints_map]
    rfl
theorem tups_map : ∀ {ks : List (List Int)}, tupsD (ks.map tI) = some ks
  | [] => rfl
  | k :: ks => by
    show (intsD (k.map .int)).bind (fun j => (tupsD (ks.map tI)).map (j :: ·)) = _
    rw [ints_map, tups_map]
    rfl
theorem ss_ints {ks : List Int} {K : D → Prop} (h : ks.length < 64) : @ssQ (.list (ks.map .int)) K = K (.list ((usort ks).map .int)) := by
  show @oQ _ (sortSetD _) K = _
  unfold sortSetD
  rw [ints_map]
  show @oQ _ (if _ then _ else _) K = _
  rw [if_pos h]
  rfl
theorem ss_tups {ks : List (List Int)} {K : D → Prop} (h : ks.length < 64) (h0 : ks ≠ []) (h1 : Even ks) : @ssQ (.list (ks.map tI)) K = K (.list ((tsort ks).map tI)) := by
  show @oQ _ (sortSetD _) K = _
  unfold sortSetD
  have e : intsD (ks.map tI) = none := by
    cases ks with
    | nil => exact absurd rfl h0
    | cons k ks => rfl
  rw [e]
  show @oQ _ ((tupsD _).bind _) K = _
  rw [tups_map]
  show @oQ _ (if _ then _ else _) K = _
  rw [if_pos ⟨h, h1⟩]
  rfl
theorem ls_ints {ks : List Int} {K : D → Prop} (h : ks.length < 64) : @lsetQ (.list (ks.map .int)) K = K (.int ((usort ks).length : Nat)) := by
  show @oQ _ ((intsD _).bind _) K = _
  rw [ints_map]
  show @oQ _ (if _ then _ else _) K = _
  rw [if_pos h]
  rfl
theorem f_zip {a b : List D} {K : D → Prop} : @fQ _ zipD [.tuple a, .tuple b] K = K (.tuple ((a.zip b).map fun p => .tuple [p.1, p.2])) := no_rfl rfl
theorem f_sortK {kvs : List (D × D)} {ks : List Str} {K : D → Prop} (h : strKeys kvs = some ks) (h1 : ks.length < 64) : @fQ _ sortKD [.dict kvs] K = K (.list ((strSort ks).map .str)) := by
  show @oQ _ ((strKeys kvs).bind _) K = _
  rw [h]
  show @oQ _ (if _ then _ else _) K = _
  rw [if_pos h1]
  rfl
theorem wf_run {k np : Nat} {ios : List Nat} {fr : Bool} {ds : List D} {R : D → List D → Prop} (h : ds.length = np) : @WF (runF k np ios fr m) ds R = @WS m (startE k ios ds) (outQ ios fr R) := by
  unfold WF runF
  rw [if_pos h, oQ_bind]
  show @oQ _ _ (fun _ => _) = @oQ _ _ (fun _ => _)
  congr 1
  funext o
  cases o with
  | nx ρ =>
    cases fr
    · simp only [outQ, Bool.false_eq_true, if_false, oQ_map, ioQ, true_and]
    · simp only [outQ, if_true, Bool.true_eq_false, false_and]
      rfl
  | rt d ρ =>
    cases fr
    · simp only [outQ, Bool.false_eq_true, if_false, oQ_map, ioQ, true_and]
    · simp only [outQ, if_true, Bool.true_eq_false, false_and]
      rfl
  | rf d ρ => simp only [outQ, oQ_map, ioQ]
  | bk ρ => rfl
  | ct ρ => rfl
theorem iq_nil {K : List D → Prop} : @ioQ [] ρ K = K [] := no_rfl rfl
theorem iq_cons {is : List Nat} {K : List D → Prop} : @ioQ (i :: is) ρ K = @getQ ρ i fun sv => @owQ sv fun d => @ioQ is ρ fun ds => K (d :: ds) := by
  simp only [ioQ, ioOut, getQ]
  rcases ρ[i]? with _ | _ | _ | _ <;> first | rfl | simp only [oQ_map, svQ, owQ]
theorem get_0 {K : SV → Prop} : @getQ (some s :: ρ) 0 K = K s := no_rfl rfl
theorem set_0 {x v : Option SV} {K : Env' → Prop} : @setQ (x :: ρ) 0 v K = K (v :: ρ) := no_rfl rfl
theorem slot_0 {x : Option SV} {K : Option SV → Prop} : @slotQ (x :: ρ) 0 K = K x := no_rfl rfl
theorem fz_0 {as : List Arg} {K : Env' → Prop} : @frzQ (.st 0 :: as) (some s :: ρ) K = @fzQ 0 (some s :: ρ) s (fun ρ' => @frzQ as ρ' K) := frz1_eq (K := fun ρ' => @frzQ as ρ' K) rfl
theorem get_1 {x0 : Option SV} {K : SV → Prop} : @getQ (x0 :: some s :: ρ) 1 K = K s := no_rfl rfl
theorem set_1 {x0 : Option SV} {x v : Option SV} {K : Env' → Prop} : @setQ (x0 :: x :: ρ) 1 v K = K (x0 :: v :: ρ) := no_rfl rfl
theorem slot_1 {x0 : Option SV} {x : Option SV} {K : Option SV → Prop} : @slotQ (x0 :: x :: ρ) 1 K = K x := no_rfl rfl
theorem fz_1 {x0 : Option SV} {as : List Arg} {K : Env' → Prop} : @frzQ (.st 1 :: as) (x0 :: some s :: ρ) K = @fzQ 1 (x0 :: some s :: ρ) s (fun ρ' => @frzQ as ρ' K) := frz1_eq (K := fun ρ' => @frzQ as ρ' K) rfl
theorem get_2 {x0 x1 : Option SV} {K : SV → Prop} : @getQ (x0 :: x1 :: some s :: ρ) 2 K = K s := no_rfl rfl
theorem set_2 {x0 x1 : Option SV} {x v : Option SV} {K : Env' → Prop} : @setQ (x0 :: x1 :: x :: ρ) 2 v K = K (x0 :: x1 :: v :: ρ) := no_rfl rfl
theorem slot_2 {x0 x1 : Option SV} {x : Option SV} {K : Option SV → Prop} : @slotQ (x0 :: x1 :: x :: ρ) 2 K = K x := no_rfl rfl
theorem fz_2 {x0 x1 : Option SV} {as : List Arg} {K : Env' → Prop} : @frzQ (.st 2 :: as) (x0 :: x1 :: some s :: ρ) K = @fzQ 2 (x0 :: x1 :: some s :: ρ) s (fun ρ' => @frzQ as ρ' K) := frz1_eq (K := fun ρ' => @frzQ as ρ' K) rfl
theorem get_3 {x0 x1 x2 : Option SV} {K : SV → Prop} : @getQ (x0 :: x1 :: x2 :: some s :: ρ) 3 K = K s := no_rfl rfl
theorem set_3 {x0 x1 x2 : Option SV} {x v : Option SV} {K : Env' → Prop} : @setQ (x0 :: x1 :: x2 :: x :: ρ) 3 v K = K (x0 :: x1 :: x2 :: v :: ρ) := no_rfl rfl
theorem slot_3 {x0 x1 x2 : Option SV} {x : Option SV} {K : Option SV → Prop} : @slotQ (x0 :: x1 :: x2 :: x :: ρ) 3 K = K x := no_rfl rfl
theorem fz_3 {x0 x1 x2 : Option SV} {as : List Arg} {K : Env' → Prop} : @frzQ (.st 3 :: as) (x0 :: x1 :: x2 :: some s :: ρ) K = @fzQ 3 (x0 :: x1 :: x2 :: some s :: ρ) s (fun ρ' => @frzQ as ρ' K) := frz1_eq (K := fun ρ' => @frzQ as ρ' K) rfl
theorem get_4 {x0 x1 x2 x3 : Option SV} {K : SV → Prop} : @getQ (x0 :: x1 :: x2 :: x3 :: some s :: ρ) 4 K = K s := no_rfl rfl
theorem set_4 {x0 x1 x2 x3 : Option SV} {x v : Option SV} {K : Env' → Prop} : @setQ (x0 :: x1 :: x2 :: x3 :: x :: ρ) 4 v K = K (x0 :: x1 :: x2 :: x3 :: v :: ρ) := no_rfl rfl
theorem slot_4 {x0 x1 x2 x3 : Option SV} {x : Option SV} {K : Option SV → Prop} : @slotQ (x0 :: x1 :: x2 :: x3 :: x :: ρ) 4 K = K x := no_rfl rfl
theorem fz_4 {x0 x1 x2 x3 : Option SV} {as : List Arg} {K : Env' → Prop} : @frzQ (.st 4 :: as) (x0 :: x1 :: x2 :: x3 :: some s :: ρ) K = @fzQ 4 (x0 :: x1 :: x2 :: x3 :: some s :: ρ) s (fun ρ' => @frzQ as ρ' K) := frz1_eq (K := fun ρ' => @frzQ as ρ' K) rfl
theorem get_5 {x0 x1 x2 x3 x4 : Option SV} {K : SV → Prop} : @getQ (x0 :: x1 :: x2 :: x3 :: x4 :: some s :: ρ) 5 K = K s := no_rfl rfl
theorem set_5 {x0 x1 x2 x3 x4 : Option SV} {x v : Option SV} {K : Env' → Prop} : @setQ (x0 :: x1 :: x2 :: x3 :: x4 :: x :: ρ) 5 v K = K (x0 :: x1 :: x2 :: x3 :: x4 :: v :: ρ) := no_rfl rfl
theorem slot_5 {x0 x1 x2 x3 x4 : Option SV} {x : Option SV} {K : Option SV → Prop} : @slotQ (x0 :: x1 :: x2 :: x3 :: x4 :: x :: ρ) 5 K = K x := no_rfl rfl
theorem fz_5 {x0 x1 x2 x3 x4 : Option SV} {as : List Arg} {K : Env' → Prop} : @frzQ (.st 5 :: as) (x0 :: x1 :: x2 :: x3 :: x4 :: some s :: ρ) K = @fzQ 5 (x0 :: x1 :: x2 :: x3 :: x4 :: some s :: ρ) s (fun ρ' => @frzQ as ρ' K) := frz1_eq (K := fun ρ' => @frzQ as ρ' K) rfl
theorem get_6 {x0 x1 x2 x3 x4 x5 : Option SV} {K : SV → Prop} : @getQ (x0 :: x1 :: x2 :: x3 :: x4 :: x5 :: some s :: ρ) 6 K = K s := no_rfl rfl
theorem set_6 {x0 x1 x2 x3 x4 x5 : Option SV} {x v : Option SV} {K : Env' → Prop} : @setQ (x0 :: x1 :: x2 :: x3 :: x4 :: x5 :: x :: ρ) 6 v K = K (x0 :: x1 :: x2 :: x3 :: x4 :: x5 :: v :: ρ) := no_rfl rfl
theorem slot_6 {x0 x1 x2 x3 x4 x5 : Option SV} {x : Option SV} {K : Option SV → Prop} : @slotQ (x0 :: x1 :: x2 :: x3 :: x4 :: x5 :: x :: ρ) 6 K = K x := no_rfl rfl
theorem fz_6 {x0 x1 x2 x3 x4 x5 : Option SV} {as : List Arg} {K : Env' → Prop} : @frzQ (.st 6 :: as) (x0 :: x1 :: x2 :: x3 :: x4 :: x5 :: some s :: ρ) K = @fzQ 6 (x0 :: x1 :: x2 :: x3 :: x4 :: x5 :: some s :: ρ) s (fun ρ' => @frzQ as ρ' K) := frz1_eq (K := fun ρ' => @frzQ as ρ' K) rfl
theorem get_7 {x0 x1 x2 x3 x4 x5 x6 : Option SV} {K : SV → Prop} : @getQ (x0 :: x1 :: x2 :: x3 :: x4 :: x5 :: x6 :: some s :: ρ) 7 K = K s := no_rfl rfl
theorem set_7 {x0 x1 x2 x3 x4 x5 x6 : Option SV} {x v : Option SV} {K : Env' → Prop} : @setQ (x0 :: x1 :: x2 :: x3 :: x4 :: x5 :: x6 :: x :: ρ) 7 v K = K (x0 :: x1 :: x2 :: x3 :: x4 :: x5 :: x6 :: v :: ρ) := no_rfl rfl
theorem slot_7 {x0 x1 x2 x3 x4 x5 x6 : Option SV} {x : Option SV} {K : Option SV → Prop} : @slotQ (x0 :: x1 :: x2 :: x3 :: x4 :: x5 :: x6 :: x :: ρ) 7 K = K x := no_rfl rfl
theorem fz_7 {x0 x1 x2 x3 x4 x5 x6 : Option SV} {as : List Arg} {K : Env' → Prop} : @frzQ (.st 7 :: as) (x0 :: x1 :: x2 :: x3 :: x4 :: x5 :: x6 :: some s :: ρ) K = @fzQ 7 (x0 :: x1 :: x2 :: x3 :: x4 :: x5 :: x6 :: some s :: ρ) s (fun ρ' => @frzQ as ρ' K) := frz1_eq (K := fun ρ' => @frzQ as ρ' K) rfl
theorem get_8 {x0 x1 x2 x3 x4 x5 x6 x7 : Option SV} {K : SV → Prop} : @getQ (x0 :: x1 :: x2 :: x3 :: x4 :: x5 :: x6 :: x7 :: some s :: ρ) 8 K = K s := no_rfl rfl
theorem set_8 {x0 x1 x2 x3 x4 x5 x6 x7 : Option SV} {x v : Option SV} {K : Env' → Prop} : @setQ (x0 :: x1 :: x2 :: x3 :: x4 :: x5 :: x6 :: x7 :: x :: ρ) 8 v K = K (x0 :: x1 :: x2 :: x3 :: x4 :: x5 :: x6 :: x7 :: v :: ρ) := no_rfl rfl
theorem slot_8 {x0 x1 x2 x3 x4 x5 x6 x7 : Option SV} {x : Option SV} {K : Option SV → Prop} : @slotQ (x0 :: x1 :: x2 :: x3 :: x4 :: x5 :: x6 :: x7 :: x :: ρ) 8 K = K x := no_rfl rfl
theorem fz_8 {x0 x1 x2 x3 x4 x5 x6 x7 : Option SV} {as : List Arg} {K : Env' → Prop} : @frzQ (.st 8 :: as) (x0 :: x1 :: x2 :: x3 :: x4 :: x5 :: x6 :: x7 :: some s :: ρ) K = @fzQ 8 (x0 :: x1 :: x2 :: x3 :: x4 :: x5 :: x6 :: x7 :: some s :: ρ) s (fun ρ' => @frzQ as ρ' K) := frz1_eq (K := fun ρ' => @frzQ as ρ' K) rfl
theorem get_9 {x0 x1 x2 x3 x4 x5 x6 x7 x8 : Option SV} {K : SV → Prop} : @getQ (x0 :: x1 :: x2 :: x3 :: x4 :: x5 :: x6 :: x7 :: x8 :: some s :: ρ) 9 K = K s := no_rfl rfl
theorem set_9 {x0 x1 x2 x3 x4 x5 x6 x7 x8 : Option SV} {x v : Option SV} {K : Env' → Prop} : @setQ (x0 :: x1 :: x2 :: x3 :: x4 :: x5 :: x6 :: x7 :: x8 :: x :: ρ) 9 v K = K (x0 :: x1 :: x2 :: x3 :: x4 :: x5 :: x6 :: x7 :: x8 :: v :: ρ) := no_rfl rfl
theorem slot_9 {x0 x1 x2 x3 x4 x5 x6 x7 x8 : Option SV} {x : Option SV} {K : Option SV → Prop} : @slotQ (x0 :: x1 :: x2 :: x3 :: x4 :: x5 :: x6 :: x7 :: x8 :: x :: ρ) 9 K = K x := no_rfl rfl
theorem fz_9 {x0 x1 x2 x3 x4 x5 x6 x7 x8 : Option SV} {as : List Arg} {K : Env' → Prop} : @frzQ (.st 9 :: as) (x0 :: x1 :: x2 :: x3 :: x4 :: x5 :: x6 :: x7 :: x8 :: some s :: ρ) K = @fzQ 9 (x0 :: x1 :: x2 :: x3 :: x4 :: x5 :: x6 :: x7 :: x8 :: some s :: ρ) s (fun ρ' => @frzQ as ρ' K) := frz1_eq (K := fun ρ' => @frzQ as ρ' K) rfl
theorem get_10 {x0 x1 x2 x3 x4 x5 x6 x7 x8 x9 : Option SV} {K : SV → Prop} : @getQ (x0 :: x1 :: x2 :: x3 :: x4 :: x5 :: x6 :: x7 :: x8 :: x9 :: some s :: ρ) 10 K = K s := no_rfl rfl
theorem set_10 {x0 x1 x2 x3 x4 x5 x6 x7 x8 x9 : Option SV} {x v : Option SV} {K : Env' → Prop} : @setQ (x0 :: x1 :: x2 :: x3 :: x4 :: x5 :: x6 :: x7 :: x8 :: x9 :: x :: ρ) 10 v K = K (x0 :: x1 :: x2 :: x3 :: x4 :: x5 :: x6 :: x7 :: x8 :: x9 :: v :: ρ) := no_rfl rfl
theorem slot_10 {x0 x1 x2 x3 x4 x5 x6 x7 x8 x9 : Option SV} {x : Option SV} {K : Option SV → Prop} : @slotQ (x0 :: x1 :: x2 :: x3 :: x4 :: x5 :: x6 :: x7 :: x8 :: x9 :: x :: ρ) 10 K = K x := no_rfl rfl
theorem fz_10 {x0 x1 x2 x3 x4 x5 x6 x7 x8 x9 : Option SV} {as : List Arg} {K : Env' → Prop} : @frzQ (.st 10 :: as) (x0 :: x1 :: x2 :: x3 :: x4 :: x5 :: x6 :: x7 :: x8 :: x9 :: some s :: ρ) K = @fzQ 10 (x0 :: x1 :: x2 :: x3 :: x4 :: x5 :: x6 :: x7 :: x8 :: x9 :: some s :: ρ) s (fun ρ' => @frzQ as ρ' K) := frz1_eq (K := fun ρ' => @frzQ as ρ' K) rfl
theorem get_11 {x0 x1 x2 x3 x4 x5 x6 x7 x8 x9 x10 : Option SV} {K : SV → Prop} : @getQ (x0 :: x1 :: x2 :: x3 :: x4 :: x5 :: x6 :: x7 :: x8 :: x9 :: x10 :: some s :: ρ) 11 K = K s := no_rfl rfl
theorem set_11 {x0 x1 x2 x3 x4 x5 x6 x7 x8 x9 x10 : Option SV} {x v : Option SV} {K : Env' → Prop} : @setQ (x0 :: x1 :: x2 :: x3 :: x4 :: x5 :: x6 :: x7 :: x8 :: x9 :: x10 :: x :: ρ) 11 v K = K (x0 :: x1 :: x2 :: x3 :: x4 :: x5 :: x6 :: x7 :: x8 :: x9 :: x10 :: v :: ρ) := no_rfl rfl
theorem slot_11 {x0 x1 x2 x3 x4 x5 x6 x7 x8 x9 x10 : Option SV} {x : Option SV} {K : Option SV → Prop} : @slotQ (x0 :: x1 :: x2 :: x3 :: x4 :: x5 :: x6 :: x7 :: x8 :: x9 :: x10 :: x :: ρ) 11 K = K x := no_rfl rfl
theorem fz_11 {x0 x1 x2 x3 x4 x5 x6 x7 x8 x9 x10 : Option SV} {as : List Arg} {K : Env' → Prop} : @frzQ (.st 11 :: as) (x0 :: x1 :: x2 :: x3 :: x4 :: x5 :: x6 :: x7 :: x8 :: x9 :: x10 :: some s :: ρ) K = @fzQ 11 (x0 :: x1 :: x2 :: x3 :: x4 :: x5 :: x6 :: x7 :: x8 :: x9 :: x10 :: some s :: ρ) s (fun ρ' => @frzQ as ρ' K) := frz1_eq (K := fun ρ' => @frzQ as ρ' K) rfl
theorem get_12 {x0 x1 x2 x3 x4 x5 x6 x7 x8 x9 x10 x11 : Option SV} {K : SV → Prop} : @getQ (x0 :: x1 :: x2 :: x3 :: x4 :: x5 :: x6 :: x7 :: x8 :: x9 :: x10 :: x11 :: some s :: ρ) 12 K = K s := no_rfl rfl
theorem set_12 {x0 x1 x2 x3 x4 x5 x6 x7 x8 x9 x10 x11 : Option SV} {x v : Option SV} {K : Env' → Prop} : @setQ (x0 :: x1 :: x2 :: x3 :: x4 :: x5 :: x6 :: x7 :: x8 :: x9 :: x10 :: x11 :: x :: ρ) 12 v K = K (x0 :: x1 :: x2 :: x3 :: x4 :: x5 :: x6 :: x7 :: x8 :: x9 :: x10 :: x11 :: v :: ρ) := no_rfl rfl
theorem slot_12 {x0 x1 x2 x3 x4 x5 x6 x7 x8 x9 x10 x11 : Option SV} {x : Option SV} {K : Option SV → Prop} : @slotQ (x0 :: x1 :: x2 :: x3 :: x4 :: x5 :: x6 :: x7 :: x8 :: x9 :: x10 :: x11 :: x :: ρ) 12 K = K x := no_rfl rfl
theorem fz_12 {x0 x1 x2 x3 x4 x5 x6 x7 x8 x9 x10 x11 : Option SV} {as : List Arg} {K : Env' → Prop} : @frzQ (.st 12 :: as) (x0 :: x1 :: x2 :: x3 :: x4 :: x5 :: x6 :: x7 :: x8 :: x9 :: x10 :: x11 :: some s :: ρ) K = @fzQ 12 (x0 :: x1 :: x2 :: x3 :: x4 :: x5 :: x6 :: x7 :: x8 :: x9 :: x10 :: x11 :: some s :: ρ) s (fun ρ' => @frzQ as ρ' K) := frz1_eq (K := fun ρ' => @frzQ as ρ' K) rfl
theorem get_13 {x0 x1 x2 x3 x4 x5 x6 x7 x8 x9 x10 x11 x12 : Option SV} {K : SV → Prop} : @getQ (x0 :: x1 :: x2 :: x3 :: x4 :: x5 :: x6 :: x7 :: x8 :: x9 :: x10 :: x11 :: x12 :: some s :: ρ) 13 K = K s := no_rfl rfl
theorem set_13 {x0 x1 x2 x3 x4 x5 x6 x7 x8 x9 x10 x11 x12 : Option SV} {x v : Option SV} {K : Env' → Prop} : @setQ (x0 :: x1 :: x2 :: x3 :: x4 :: x5 :: x6 :: x7 :: x8 :: x9 :: x10 :: x11 :: x12 :: x :: ρ) 13 v K = K (x0 :: x1 :: x2 :: x3 :: x4 :: x5 :: x6 :: x7 :: x8 :: x9 :: x10 :: x11 :: x12 :: v :: ρ) := no_rfl rfl
theorem slot_13 {x0 x1 x2 x3 x4 x5 x6 x7 x8 x9 x10 x11 x12 : Option SV} {x : Option SV} {K : Option SV → Prop} : @slotQ (x0 :: x1 :: x2 :: x3 :: x4 :: x5 :: x6 :: x7 :: x8 :: x9 :: x10 :: x11 :: x12 :: x :: ρ) 13 K = K x := no_rfl rfl
theorem fz_13 {x0 x1 x2 x3 x4 x5 x6 x7 x8 x9 x10 x11 x12 : Option SV} {as : List Arg} {K : Env' → Prop} : @frzQ (.st 13 :: as) (x0 :: x1 :: x2 :: x3 :: x4 :: x5 :: x6 :: x7 :: x8 :: x9 :: x10 :: x11 :: x12 :: some s :: ρ) K = @fzQ 13 (x0 :: x1 :: x2 :: x3 :: x4 :: x5 :: x6 :: x7 :: x8 :: x9 :: x10 :: x11 :: x12 :: some s :: ρ) s (fun ρ' => @frzQ as ρ' K) := frz1_eq (K := fun ρ' => @frzQ as ρ' K) rfl
theorem get_14 {x0 x1 x2 x3 x4 x5 x6 x7 x8 x9 x10 x11 x12 x13 : Option SV} {K : SV → Prop} : @getQ (x0 :: x1 :: x2 :: x3 :: x4 :: x5 :: x6 :: x7 :: x8 :: x9 :: x10 :: x11 :: x12 :: x13 :: some s :: ρ) 14 K = K s := no_rfl rfl
theorem set_14 {x0 x1 x2 x3 x4 x5 x6 x7 x8 x9 x10 x11 x12 x13 : Option SV} {x v : Option SV} {K : Env' → Prop} : @setQ (x0 :: x1 :: x2 :: x3 :: x4 :: x5 :: x6 :: x7 :: x8 :: x9 :: x10 :: x11 :: x12 :: x13 :: x :: ρ) 14 v K = K (x0 :: x1 :: x2 :: x3 :: x4 :: x5 :: x6 :: x7 :: x8 :: x9 :: x10 :: x11 :: x12 :: x13 :: v :: ρ) := no_rfl rfl
theorem slot_14 {x0 x1 x2 x3 x4 x5 x6 x7 x8 x9 x10 x11 x12 x13 : Option SV} {x : Option SV} {K : Option SV → Prop} : @slotQ (x0 :: x1 :: x2 :: x3 :: x4 :: x5 :: x6 :: x7 :: x8 :: x9 :: x10 :: x11 :: x12 :: x13 :: x :: ρ) 14 K = K x := no_rfl rfl
theorem fz_14 {x0 x1 x2 x3 x4 x5 x6 x7 x8 x9 x10 x11 x12 x13 : Option SV} {as : List Arg} {K : Env' → Prop} : @frzQ (.st 14 :: as) (x0 :: x1 :: x2 :: x3 :: x4 :: x5 :: x6 :: x7 :: x8 :: x9 :: x10 :: x11 :: x12 :: x13 :: some s :: ρ) K = @fzQ 14 (x0 :: x1 :: x2 :: x3 :: x4 :: x5 :: x6 :: x7 :: x8 :: x9 :: x10 :: x11 :: x12 :: x13 :: some s :: ρ) s (fun ρ' => @frzQ as ρ' K) := frz1_eq (K := fun ρ' => @frzQ as ρ' K) rfl
theorem get_15 {x0 x1 x2 x3 x4 x5 x6 x7 x8 x9 x10 x11 x12 x13 x14 : Option SV} {K : SV → Prop} : @getQ (x0 :: x1 :: x2 :: x3 :: x4 :: x5 :: x6 :: x7 :: x8 :: x9 :: x10 :: x11 :: x12 :: x13 :: x14 :: some s :: ρ) 15 K = K s := no_rfl rfl
theorem set_15 {x0 x1 x2 x3 x4 x5 x6 x7 x8 x9 x10 x11 x12 x13 x14 : Option SV} {x v : Option SV} {K : Env' → Prop} : @setQ (x0 :: x1 :: x2 :: x3 :: x4 :: x5 :: x6 :: x7 :: x8 :: x9 :: x10 :: x11 :: x12 :: x13 :: x14 :: x :: ρ) 15 v K = K (x0 :: x1 :: x2 :: x3 :: x4 :: x5 :: x6 :: x7 :: x8 :: x9 :: x10 :: x11 :: x12 :: x13 :: x14 :: v :: ρ) := no_rfl rfl
theorem slot_15 {x0 x1 x2 x3 x4 x5 x6 x7 x8 x9 x10 x11 x12 x13 x14 : Option SV} {x : Option SV} {K : Option SV → Prop} : @slotQ (x0 :: x1 :: x2 :: x3 :: x4 :: x5 :: x6 :: x7 :: x8 :: x9 :: x10 :: x11 :: x12 :: x13 :: x14 :: x :: ρ) 15 K = K x := no_rfl rfl
theorem fz_15 {x0 x1 x2 x3 x4 x5 x6 x7 x8 x9 x10 x11 x12 x13 x14 : Option SV} {as : List Arg} {K : Env' → Prop} : @frzQ (.st 15 :: as) (x0 :: x1 :: x2 :: x3 :: x4 :: x5 :: x6 :: x7 :: x8 :: x9 :: x10 :: x11 :: x12 :: x13 :: x14 :: some s :: ρ) K = @fzQ 15 (x0 :: x1 :: x2 :: x3 :: x4 :: x5 :: x6 :: x7 :: x8 :: x9 :: x10 :: x11 :: x12 :: x13 :: x14 :: some s :: ρ) s (fun ρ' => @frzQ as ρ' K) := frz1_eq (K := fun ρ' => @frzQ as ρ' K) rfl
theorem get_16 {x0 x1 x2 x3 x4 x5 x6 x7 x8 x9 x10 x11 x12 x13 x14 x15 : Option SV} {K : SV → Prop} : @getQ (x0 :: x1 :: x2 :: x3 :: x4 :: x5 :: x6 :: x7 :: x8 :: x9 :: x10 :: x11 :: x12 :: x13 :: x14 :: x15 :: some s :: ρ) 16 K = K s := no_rfl rfl
theorem set_16 {x0 x1 x2 x3 x4 x5 x6 x7 x8 x9 x10 x11 x12 x13 x14 x15 : Option SV} {x v : Option SV} {K : Env' → Prop} : @setQ (x0 :: x1 :: x2 :: x3 :: x4 :: x5 :: x6 :: x7 :: x8 :: x9 :: x10 :: x11 :: x12 :: x13 :: x14 :: x15 :: x :: ρ) 16 v K = K (x0 :: x1 :: x2 :: x3 :: x4 :: x5 :: x6 :: x7 :: x8 :: x9 :: x10 :: x11 :: x12 :: x13 :: x14 :: x15 :: v :: ρ) := no_rfl rfl
theorem slot_16 {x0 x1 x2 x3 x4 x5 x6 x7 x8 x9 x10 x11 x12 x13 x14 x15 : Option SV} {x : Option SV} {K : Option SV → Prop} : @slotQ (x0 :: x1 :: x2 :: x3 :: x4 :: x5 :: x6 :: x7 :: x8 :: x9 :: x10 :: x11 :: x12 :: x13 :: x14 :: x15 :: x :: ρ) 16 K = K x := no_rfl rfl
theorem fz_16 {x0 x1 x2 x3 x4 x5 x6 x7 x8 x9 x10 x11 x12 x13 x14 x15 : Option SV} {as : List Arg} {K : Env' → Prop} : @frzQ (.st 16 :: as) (x0 :: x1 :: x2 :: x3 :: x4 :: x5 :: x6 :: x7 :: x8 :: x9 :: x10 :: x11 :: x12 :: x13 :: x14 :: x15 :: some s :: ρ) K = @fzQ 16 (x0 :: x1 :: x2 :: x3 :: x4 :: x5 :: x6 :: x7 :: x8 :: x9 :: x10 :: x11 :: x12 :: x13 :: x14 :: x15 :: some s :: ρ) s (fun ρ' => @frzQ as ρ' K) := frz1_eq (K := fun ρ' => @frzQ as ρ' K) rfl
theorem get_17 {x0 x1 x2 x3 x4 x5 x6 x7 x8 x9 x10 x11 x12 x13 x14 x15 x16 : Option SV} {K : SV → Prop} : @getQ (x0 :: x1 :: x2 :: x3 :: x4 :: x5 :: x6 :: x7 :: x8 :: x9 :: x10 :: x11 :: x12 :: x13 :: x14 :: x15 :: x16 :: some s :: ρ) 17 K = K s := no_rfl rfl
theorem set_17 {x0 x1 x2 x3 x4 x5 x6 x7 x8 x9 x10 x11 x12 x13 x14 x15 x16 : Option SV} {x v : Option SV} {K : Env' → Prop} : @setQ (x0 :: x1 :: x2 :: x3 :: x4 :: x5 :: x6 :: x7 :: x8 :: x9 :: x10 :: x11 :: x12 :: x13 :: x14 :: x15 :: x16 :: x :: ρ) 17 v K = K (x0 :: x1 :: x2 :: x3 :: x4 :: x5 :: x6 :: x7 :: x8 :: x9 :: x10 :: x11 :: x12 :: x13 :: x14 :: x15 :: x16 :: v :: ρ) := no_rfl rfl
theorem slot_17 {x0 x1 x2 x3 x4 x5 x6 x7 x8 x9 x10 x11 x12 x13 x14 x15 x16 : Option SV} {x : Option SV} {K : Option SV → Prop} : @slotQ (x0 :: x1 :: x2 :: x3 :: x4 :: x5 :: x6 :: x7 :: x8 :: x9 :: x10 :: x11 :: x12 :: x13 :: x14 :: x15 :: x16 :: x :: ρ) 17 K = K x := no_rfl rfl
theorem fz_17 {x0 x1 x2 x3 x4 x5 x6 x7 x8 x9 x10 x11 x12 x13 x14 x15 x16 : Option SV} {as : List Arg} {K : Env' → Prop} : @frzQ (.st 17 :: as) (x0 :: x1 :: x2 :: x3 :: x4 :: x5 :: x6 :: x7 :: x8 :: x9 :: x10 :: x11 :: x12 :: x13 :: x14 :: x15 :: x16 :: some s :: ρ) K = @fzQ 17 (x0 :: x1 :: x2 :: x3 :: x4 :: x5 :: x6 :: x7 :: x8 :: x9 :: x10 :: x11 :: x12 :: x13 :: x14 :: x15 :: x16 :: some s :: ρ) s (fun ρ' => @frzQ as ρ' K) := frz1_eq (K := fun ρ' => @frzQ as ρ' K) rfl
theorem get_18 {x0 x1 x2 x3 x4 x5 x6 x7 x8 x9 x10 x11 x12 x13 x14 x15 x16 x17 : Option SV} {K : SV → Prop} : @getQ (x0 :: x1 :: x2 :: x3 :: x4 :: x5 :: x6 :: x7 :: x8 :: x9 :: x10 :: x11 :: x12 :: x13 :: x14 :: x15 :: x16 :: x17 :: some s :: ρ) 18 K = K s := no_rfl rfl
theorem set_18 {x0 x1 x2 x3 x4 x5 x6 x7 x8 x9 x10 x11 x12 x13 x14 x15 x16 x17 : Option SV} {x v : Option SV} {K : Env' → Prop} : @setQ (x0 :: x1 :: x2 :: x3 :: x4 :: x5 :: x6 :: x7 :: x8 :: x9 :: x10 :: x11 :: x12 :: x13 :: x14 :: x15 :: x16 :: x17 :: x :: ρ) 18 v K = K (x0 :: x1 :: x2 :: x3 :: x4 :: x5 :: x6 :: x7 :: x8 :: x9 :: x10 :: x11 :: x12 :: x13 :: x14 :: x15 :: x16 :: x17 :: v :: ρ) := no_rfl rfl
theorem slot_18 {x0 x1 x2 x3 x4 x5 x6 x7 x8 x9 x10 x11 x12 x13 x14 x15 x16 x17 : Option SV} {x : Option SV} {K : Option SV → Prop} : @slotQ (x0 :: x1 :: x2 :: x3 :: x4 :: x5 :: x6 :: x7 :: x8 :: x9 :: x10 :: x11 :: x12 :: x13 :: x14 :: x15 :: x16 :: x17 :: x :: ρ) 18 K = K x := no_rfl rfl
theorem fz_18 {x0 x1 x2 x3 x4 x5 x6 x7 x8 x9 x10 x11 x12 x13 x14 x15 x16 x17 : Option SV} {as : List Arg} {K : Env' → Prop} : @frzQ (.st 18 :: as) (x0 :: x1 :: x2 :: x3 :: x4 :: x5 :: x6 :: x7 :: x8 :: x9 :: x10 :: x11 :: x12 :: x13 :: x14 :: x15 :: x16 :: x17 :: some s :: ρ) K = @fzQ 18 (x0 :: x1 :: x2 :: x3 :: x4 :: x5 :: x6 :: x7 :: x8 :: x9 :: x10 :: x11 :: x12 :: x13 :: x14 :: x15 :: x16 :: x17 :: some s :: ρ) s (fun ρ' => @frzQ as ρ' K) := frz1_eq (K := fun ρ' => @frzQ as ρ' K) rfl
theorem get_19 {x0 x1 x2 x3 x4 x5 x6 x7 x8 x9 x10 x11 x12 x13 x14 x15 x16 x17 x18 : Option SV} {K : SV → Prop} : @getQ (x0 :: x1 :: x2 :: x3 :: x4 :: x5 :: x6 :: x7 :: x8 :: x9 :: x10 :: x11 :: x12 :: x13 :: x14 :: x15 :: x16 :: x17 :: x18 :: some s :: ρ) 19 K = K s := no_rfl rfl
theorem set_19 {x0 x1 x2 x3 x4 x5 x6 x7 x8 x9 x10 x11 x12 x13 x14 x15 x16 x17 x18 : Option SV} {x v : Option SV} {K : Env' → Prop} : @setQ (x0 :: x1 :: x2 :: x3 :: x4 :: x5 :: x6 :: x7 :: x8 :: x9 :: x10 :: x11 :: x12 :: x13 :: x14 :: x15 :: x16 :: x17 :: x18 :: x :: ρ) 19 v K = K (x0 :: x1 :: x2 :: x3 :: x4 :: x5 :: x6 :: x7 :: x8 :: x9 :: x10 :: x11 :: x12 :: x13 :: x14 :: x15 :: x16 :: x17 :: x18 :: v :: ρ) := no_rfl rfl
theorem slot_19 {x0 x1 x2 x3 x4 x5 x6 x7 x8 x9 x10 x11 x12 x13 x14 x15 x16 x17 x18 : Option SV} {x : Option SV} {K : Option SV → Prop} : @slotQ (x0 :: x1 :: x2 :: x3 :: x4 :: x5 :: x6 :: x7 :: x8 :: x9 :: x10 :: x11 :: x12 :: x13 :: x14 :: x15 :: x16 :: x17 :: x18 :: x :: ρ) 19 K = K x := no_rfl rfl
theorem fz_19 {x0 x1 x2 x3 x4 x5 x6 x7 x8 x9 x10 x11 x12 x13 x14 x15 x16 x17 x18 : Option SV} {as : List Arg} {K : Env' → Prop} : @frzQ (.st 19 :: as) (x0 :: x1 :: x2 :: x3 :: x4 :: x5 :: x6 :: x7 :: x8 :: x9 :: x10 :: x11 :: x12 :: x13 :: x14 :: x15 :: x16 :: x17 :: x18 :: some s :: ρ) K = @fzQ 19 (x0 :: x1 :: x2 :: x3 :: x4 :: x5 :: x6 :: x7 :: x8 :: x9 :: x10 :: x11 :: x12 :: x13 :: x14 :: x15 :: x16 :: x17 :: x18 :: some s :: ρ) s (fun ρ' => @frzQ as ρ' K) := frz1_eq (K := fun ρ' => @frzQ as ρ' K) rfl
theorem get_20 {x0 x1 x2 x3 x4 x5 x6 x7 x8 x9 x10 x11 x12 x13 x14 x15 x16 x17 x18 x19 : Option SV} {K : SV → Prop} : @getQ (x0 :: x1 :: x2 :: x3 :: x4 :: x5 :: x6 :: x7 :: x8 :: x9 :: x10 :: x11 :: x12 :: x13 :: x14 :: x15 :: x16 :: x17 :: x18 :: x19 :: some s :: ρ) 20 K = K s := no_rfl rfl
theorem set_20 {x0 x1 x2 x3 x4 x5 x6 x7 x8 x9 x10 x11 x12 x13 x14 x15 x16 x17 x18 x19 : Option SV} {x v : Option SV} {K : Env' → Prop} : @setQ (x0 :: x1 :: x2 :: x3 :: x4 :: x5 :: x6 :: x7 :: x8 :: x9 :: x10 :: x11 :: x12 :: x13 :: x14 :: x15 :: x16 :: x17 :: x18 :: x19 :: x :: ρ) 20 v K = K (x0 :: x1 :: x2 :: x3 :: x4 :: x5 :: x6 :: x7 :: x8 :: x9 :: x10 :: x11 :: x12 :: x13 :: x14 :: x15 :: x16 :: x17 :: x18 :: x19 :: v :: ρ) := no_rfl rfl
theorem slot_20 {x0 x1 x2 x3 x4 x5 x6 x7 x8 x9 x10 x11 x12 x13 x14 x15 x16 x17 x18 x19 : Option SV} {x : Option SV} {K : Option SV → Prop} : @slotQ (x0 :: x1 :: x2 :: x3 :: x4 :: x5 :: x6 :: x7 :: x8 :: x9 :: x10 :: x11 :: x12 :: x13 :: x14 :: x15 :: x16 :: x17 :: x18 :: x19 :: x :: ρ) 20 K = K x := no_rfl rfl
theorem fz_20 {x0 x1 x2 x3 x4 x5 x6 x7 x8 x9 x10 x11 x12 x13 x14 x15 x16 x17 x18 x19 : Option SV} {as : List Arg} {K : Env' → Prop} : @frzQ (.st 20 :: as) (x0 :: x1 :: x2 :: x3 :: x4 :: x5 :: x6 :: x7 :: x8 :: x9 :: x10 :: x11 :: x12 :: x13 :: x14 :: x15 :: x16 :: x17 :: x18 :: x19 :: some s :: ρ) K = @fzQ 20 (x0 :: x1 :: x2 :: x3 :: x4 :: x5 :: x6 :: x7 :: x8 :: x9 :: x10 :: x11 :: x12 :: x13 :: x14 :: x15 :: x16 :: x17 :: x18 :: x19 :: some s :: ρ) s (fun ρ' => @frzQ as ρ' K) := frz1_eq (K := fun ρ' => @frzQ as ρ' K) rfl
theorem get_21 {x0 x1 x2 x3 x4 x5 x6 x7 x8 x9 x10 x11 x12 x13 x14 x15 x16 x17 x18 x19 x20 : Option SV} {K : SV → Prop} : @getQ (x0 :: x1 :: x2 :: x3 :: x4 :: x5 :: x6 :: x7 :: x8 :: x9 :: x10 :: x11 :: x12 :: x13 :: x14 :: x15 :: x16 :: x17 :: x18 :: x19 :: x20 :: some s :: ρ) 21 K = K s := no_rfl rfl
theorem set_21 {x0 x1 x2 x3 x4 x5 x6 x7 x8 x9 x10 x11 x12 x13 x14 x15 x16 x17 x18 x19 x20 : Option SV} {x v : Option SV} {K : Env' → Prop} : @setQ (x0 :: x1 :: x2 :: x3 :: x4 :: x5 :: x6 :: x7 :: x8 :: x9 :: x10 :: x11 :: x12 :: x13 :: x14 :: x15 :: x16 :: x17 :: x18 :: x19 :: x20 :: x :: ρ) 21 v K = K (x0 :: x1 :: x2 :: x3 :: x4 :: x5 :: x6 :: x7 :: x8 :: x9 :: x10 :: x11 :: x12 :: x13 :: x14 :: x15 :: x16 :: x17 :: x18 :: x19 :: x20 :: v :: ρ) := no_rfl rfl
theorem slot_21 {x0 x1 x2 x3 x4 x5 x6 x7 x8 x9 x10 x11 x12 x13 x14 x15 x16 x17 x18 x19 x20 : Option SV} {x : Option SV} {K : Option SV → Prop} : @slotQ (x0 :: x1 :: x2 :: x3 :: x4 :: x5 :: x6 :: x7 :: x8 :: x9 :: x10 :: x11 :: x12 :: x13 :: x14 :: x15 :: x16 :: x17 :: x18 :: x19 :: x20 :: x :: ρ) 21 K = K x := no_rfl rfl
theorem fz_21 {x0 x1 x2 x3 x4 x5 x6 x7 x8 x9 x10 x11 x12 x13 x14 x15 x16 x17 x18 x19 x20 : Option SV} {as : List Arg} {K : Env' → Prop} : @frzQ (.st 21 :: as) (x0 :: x1 :: x2 :: x3 :: x4 :: x5 :: x6 :: x7 :: x8 :: x9 :: x10 :: x11 :: x12 :: x13 :: x14 :: x15 :: x16 :: x17 :: x18 :: x19 :: x20 :: some s :: ρ) K = @fzQ 21 (x0 :: x1 :: x2 :: x3 :: x4 :: x5 :: x6 :: x7 :: x8 :: x9 :: x10 :: x11 :: x12 :: x13 :: x14 :: x15 :: x16 :: x17 :: x18 :: x19 :: x20 :: some s :: ρ) s (fun ρ' => @frzQ as ρ' K) := frz1_eq (K := fun ρ' => @frzQ as ρ' K) rfl
theorem get_22 {x0 x1 x2 x3 x4 x5 x6 x7 x8 x9 x10 x11 x12 x13 x14 x15 x16 x17 x18 x19 x20 x21 : Option SV} {K : SV → Prop} : @getQ (x0 :: x1 :: x2 :: x3 :: x4 :: x5 :: x6 :: x7 :: x8 :: x9 :: x10 :: x11 :: x12 :: x13 :: x14 :: x15 :: x16 :: x17 :: x18 :: x19 :: x20 :: x21 :: some s :: ρ) 22 K = K s := no_rfl rfl
theorem set_22 {x0 x1 x2 x3 x4 x5 x6 x7 x8 x9 x10 x11 x12 x13 x14 x15 x16 x17 x18 x19 x20 x21 : Option SV} {x v : Option SV} {K : Env' → Prop} : @setQ (x0 :: x1 :: x2 :: x3 :: x4 :: x5 :: x6 :: x7 :: x8 :: x9 :: x10 :: x11 :: x12 :: x13 :: x14 :: x15 :: x16 :: x17 :: x18 :: x19 :: x20 :: x21 :: x :: ρ) 22 v K = K (x0 :: x1 :: x2 :: x3 :: x4 :: x5 :: x6 :: x7 :: x8 :: x9 :: x10 :: x11 :: x12 :: x13 :: x14 :: x15 :: x16 :: x17 :: x18 :: x19 :: x20 :: x21 :: v :: ρ) := no_rfl rfl
theorem slot_22 {x0 x1 x2 x3 x4 x5 x6 x7 x8 x9 x10 x11 x12 x13 x14 x15 x16 x17 x18 x19 x20 x21 : Option SV} {x : Option SV} {K : Option SV → Prop} : @slotQ (x0 :: x1 :: x2 :: x3 :: x4 :: x5 :: x6 :: x7 :: x8 :: x9 :: x10 :: x11 :: x12 :: x13 :: x14 :: x15 :: x16 :: x17 :: x18 :: x19 :: x20 :: x21 :: x :: ρ) 22 K = K x := no_rfl rfl
theorem fz_22 {x0 x1 x2 x3 x4 x5 x6 x7 x8 x9 x10 x11 x12 x13 x14 x15 x16 x17 x18 x19 x20 x21 : Option SV} {as : List Arg} {K : Env' → Prop} : @frzQ (.st 22 :: as) (x0 :: x1 :: x2 :: x3 :: x4 :: x5 :: x6 :: x7 :: x8 :: x9 :: x10 :: x11 :: x12 :: x13 :: x14 :: x15 :: x16 :: x17 :: x18 :: x19 :: x20 :: x21 :: some s :: ρ) K = @fzQ 22 (x0 :: x1 :: x2 :: x3 :: x4 :: x5 :: x6 :: x7 :: x8 :: x9 :: x10 :: x11 :: x12 :: x13 :: x14 :: x15 :: x16 :: x17 :: x18 :: x19 :: x20 :: x21 :: some s :: ρ) s (fun ρ' => @frzQ as ρ' K) := frz1_eq (K := fun ρ' => @frzQ as ρ' K) rfl
theorem get_23 {x0 x1 x2 x3 x4 x5 x6 x7 x8 x9 x10 x11 x12 x13 x14 x15 x16 x17 x18 x19 x20 x21 x22 : Option SV} {K : SV → Prop} : @getQ (x0 :: x1 :: x2 :: x3 :: x4 :: x5 :: x6 :: x7 :: x8 :: x9 :: x10 :: x11 :: x12 :: x13 :: x14 :: x15 :: x16 :: x17 :: x18 :: x19 :: x20 :: x21 :: x22 :: some s :: ρ) 23 K = K s := no_rfl rfl
theorem set_23 {x0 x1 x2 x3 x4 x5 x6 x7 x8 x9 x10 x11 x12 x13 x14 x15 x16 x17 x18 x19 x20 x21 x22 : Option SV} {x v : Option SV} {K : Env' → Prop} : @setQ (x0 :: x1 :: x2 :: x3 :: x4 :: x5 :: x6 :: x7 :: x8 :: x9 :: x10 :: x11 :: x12 :: x13 :: x14 :: x15 :: x16 :: x17 :: x18 :: x19 :: x20 :: x21 :: x22 :: x :: ρ) 23 v K = K (x0 :: x1 :: x2 :: x3 :: x4 :: x5 :: x6 :: x7 :: x8 :: x9 :: x10 :: x11 :: x12 :: x13 :: x14 :: x15 :: x16 :: x17 :: x18 :: x19 :: x20 :: x21 :: x22 :: v :: ρ) := no_rfl rfl
theorem slot_23 {x0 x1 x2 x3 x4 x5 x6 x7 x8 x9 x10 x11 x12 x13 x14 x15 x16 x17 x18 x19 x20 x21 x22 : Option SV} {x : Option SV} {K : Option SV → Prop} : @slotQ (x0 :: x1 :: x2 :: x3 :: x4 :: x5 :: x6 :: x7 :: x8 :: x9 :: x10 :: x11 :: x12 :: x13 :: x14 :: x15 :: x16 :: x17 :: x18 :: x19 :: x20 :: x21 :: x22 :: x :: ρ) 23 K = K x := no_rfl rfl
theorem fz_23 {x0 x1 x2 x3 x4 x5 x6 x7 x8 x9 x10 x11 x12 x13 x14 x15 x16 x17 x18 x19 x20 x21 x22 : Option SV} {as : List Arg} {K : Env' → Prop} : @frzQ (.st 23 :: as) (x0 :: x1 :: x2 :: x3 :: x4 :: x5 :: x6 :: x7 :: x8 :: x9 :: x10 :: x11 :: x12 :: x13 :: x14 :: x15 :: x16 :: x17 :: x18 :: x19 :: x20 :: x21 :: x22 :: some s :: ρ) K = @fzQ 23 (x0 :: x1 :: x2 :: x3 :: x4 :: x5 :: x6 :: x7 :: x8 :: x9 :: x10 :: x11 :: x12 :: x13 :: x14 :: x15 :: x16 :: x17 :: x18 :: x19 :: x20 :: x21 :: x22 :: some s :: ρ) s (fun ρ' => @frzQ as ρ' K) := frz1_eq (K := fun ρ' => @frzQ as ρ' K) rfl
theorem get_24 {x0 x1 x2 x3 x4 x5 x6 x7 x8 x9 x10 x11 x12 x13 x14 x15 x16 x17 x18 x19 x20 x21 x22 x23 : Option SV} {K : SV → Prop} : @getQ (x0 :: x1 :: x2 :: x3 :: x4 :: x5 :: x6 :: x7 :: x8 :: x9 :: x10 :: x11 :: x12 :: x13 :: x14 :: x15 :: x16 :: x17 :: x18 :: x19 :: x20 :: x21 :: x22 :: x23 :: some s :: ρ) 24 K = K s := no_rfl rfl
theorem set_24 {x0 x1 x2 x3 x4 x5 x6 x7 x8 x9 x10 x11 x12 x13 x14 x15 x16 x17 x18 x19 x20 x21 x22 x23 : Option SV} {x v : Option SV} {K : Env' → Prop} : @setQ (x0 :: x1 :: x2 :: x3 :: x4 :: x5 :: x6 :: x7 :: x8 :: x9 :: x10 :: x11 :: x12 :: x13 :: x14 :: x15 :: x16 :: x17 :: x18 :: x19 :: x20 :: x21 :: x22 :: x23 :: x :: ρ) 24 v K = K (x0 :: x1 :: x2 :: x3 :: x4 :: x5 :: x6 :: x7 :: x8 :: x9 :: x10 :: x11 :: x12 :: x13 :: x14 :: x15 :: x16 :: x17 :: x18 :: x19 :: x20 :: x21 :: x22 :: x23 :: v :: ρ) := no_rfl rfl
theorem slot_24 {x0 x1 x2 x3 x4 x5 x6 x7 x8 x9 x10 x11 x12 x13 x14 x15 x16 x17 x18 x19 x20 x21 x22 x23 : Option SV} {x : Option SV} {K : Option SV → Prop} : @slotQ (x0 :: x1 :: x2 :: x3 :: x4 :: x5 :: x6 :: x7 :: x8 :: x9 :: x10 :: x11 :: x12 :: x13 :: x14 :: x15 :: x16 :: x17 :: x18 :: x19 :: x20 :: x21 :: x22 :: x23 :: x :: ρ) 24 K = K x := no_rfl rfl
theorem fz_24 {x0 x1 x2 x3 x4 x5 x6 x7 x8 x9 x10 x11 x12 x13 x14 x15 x16 x17 x18 x19 x20 x21 x22 x23 : Option SV} {as : List Arg} {K : Env' → Prop} : @frzQ (.st 24 :: as) (x0 :: x1 :: x2 :: x3 :: x4 :: x5 :: x6 :: x7 :: x8 :: x9 :: x10 :: x11 :: x12 :: x13 :: x14 :: x15 :: x16 :: x17 :: x18 :: x19 :: x20 :: x21 :: x22 :: x23 :: some s :: ρ) K = @fzQ 24 (x0 :: x1 :: x2 :: x3 :: x4 :: x5 :: x6 :: x7 :: x8 :: x9 :: x10 :: x11 :: x12 :: x13 :: x14 :: x15 :: x16 :: x17 :: x18 :: x19 :: x20 :: x21 :: x22 :: x23 :: some s :: ρ) s (fun ρ' => @frzQ as ρ' K) := frz1_eq (K := fun ρ' => @frzQ as ρ' K) rfl
theorem get_25 {x0 x1 x2 x3 x4 x5 x6 x7 x8 x9 x10 x11 x12 x13 x14 x15 x16 x17 x18 x19 x20 x21 x22 x23 x24 : Option SV} {K : SV → Prop} : @getQ (x0 :: x1 :: x2 :: x3 :: x4 :: x5 :: x6 :: x7 :: x8 :: x9 :: x10 :: x11 :: x12 :: x13 :: x14 :: x15 :: x16 :: x17 :: x18 :: x19 :: x20 :: x21 :: x22 :: x23 :: x24 :: some s :: ρ) 25 K = K s := no_rfl rfl
theorem set_25 {x0 x1 x2 x3 x4 x5 x6 x7 x8 x9 x10 x11 x12 x13 x14 x15 x16 x17 x18 x19 x20 x21 x22 x23 x24 : Option SV} {x v : Option SV} {K : Env' → Prop} : @setQ (x0 :: x1 :: x2 :: x3 :: x4 :: x5 :: x6 :: x7 :: x8 :: x9 :: x10 :: x11 :: x12 :: x13 :: x14 :: x15 :: x16 :: x17 :: x18 :: x19 :: x20 :: x21 :: x22 :: x23 :: x24 :: x :: ρ) 25 v K = K (x0 :: x1 :: x2 :: x3 :: x4 :: x5 :: x6 :: x7 :: x8 :: x9 :: x10 :: x11 :: x12 :: x13 :: x14 :: x15 :: x16 :: x17 :: x18 :: x19 :: x20 :: x21 :: x22 :: x23 :: x24 :: v :: ρ) := no_rfl rfl
theorem slot_25 {x0 x1 x2 x3 x4 x5 x6 x7 x8 x9 x10 x11 x12 x13 x14 x15 x16 x17 x18 x19 x20 x21 x22 x23 x24 : Option SV} {x : Option SV} {K : Option SV → Prop} : @slotQ (x0 :: x1 :: x2 :: x3 :: x4 :: x5 :: x6 :: x7 :: x8 :: x9 :: x10 :: x11 :: x12 :: x13 :: x14 :: x15 :: x16 :: x17 :: x18 :: x19 :: x20 :: x21 :: x22 :: x23 :: x24 :: x :: ρ) 25 K = K x := no_rfl rfl
theorem fz_25 {x0 x1 x2 x3 x4 x5 x6 x7 x8 x9 x10 x11 x12 x13 x14 x15 x16 x17 x18 x19 x20 x21 x22 x23 x24 : Option SV} {as : List Arg} {K : Env' → Prop} : @frzQ (.st 25 :: as) (x0 :: x1 :: x2 :: x3 :: x4 :: x5 :: x6 :: x7 :: x8 :: x9 :: x10 :: x11 :: x12 :: x13 :: x14 :: x15 :: x16 :: x17 :: x18 :: x19 :: x20 :: x21 :: x22 :: x23 :: x24 :: some s :: ρ) K = @fzQ 25 (x0 :: x1 :: x2 :: x3 :: x4 :: x5 :: x6 :: x7 :: x8 :: x9 :: x10 :: x11 :: x12 :: x13 :: x14 :: x15 :: x16 :: x17 :: x18 :: x19 :: x20 :: x21 :: x22 :: x23 :: x24 :: some s :: ρ) s (fun ρ' => @frzQ as ρ' K) := frz1_eq (K := fun ρ' => @frzQ as ρ' K) rfl
theorem f_sub {i j : Int} {K : D → Prop} : @fQ _ subD [.int i, .int j] K = K (.int (i - j)) := no_rfl rfl
theorem f_lt {i j : Int} {K : D → Prop} : @fQ _ ltI [.int i, .int j] K = K (.bool (decide (i < j))) := no_rfl rfl
theorem f_le {i j : Int} {K : D → Prop} : @fQ _ leI [.int i, .int j] K = K (.bool (decide (i ≤ j))) := no_rfl rfl
theorem f_gt {i j : Int} {K : D → Prop} : @fQ _ gtI [.int i, .int j] K = K (.bool (decide (j < i))) := no_rfl rfl
theorem f_ge {i j : Int} {K : D → Prop} : @fQ _ geI [.int i, .int j] K = K (.bool (decide (j ≤ i))) := no_rfl rfl
theorem f_add {i j : Int} {K : D → Prop} : @fQ _ addD [.int i, .int j] K = K (.int (i + j)) := no_rfl rfl
theorem f_mod {i j : Int} {K : D → Prop} (h : 0 < j) : @fQ _ modD [.int i, .int j] K = K (.int (i % j)) := by
  show @oQ _ (if 0 < j then _ else _) K = _
  rw [if_pos h]
  rfl
theorem f_fdiv {i j : Int} {K : D → Prop} (h : 0 < j) (h2 : j < 1073741824) : @fQ _ fdivD [.int i, .int j] K = K (.int (i / j)) := by
  show @oQ _ (if 0 < j ∧ j < 1073741824 then _ else _) K = _
  rw [if_pos ⟨h, h2⟩]
  rfl
theorem f_mulL {i j : Int} {K : D → Prop} (h : small64 i = true) : @fQ _ mulD [.int i, .int j] K = K (.int (i * j)) := by
  show @oQ _ (if small64 i = true ∨ small64 j = true then _ else _) K = _
  rw [if_pos (.inl h)]
  rfl
theorem f_mulR {i j : Int} {K : D → Prop} (h : small64 j = true) : @fQ _ mulD [.int i, .int j] K = K (.int (i * j)) := by
  show @oQ _ (if small64 i = true ∨ small64 j = true then _ else _) K = _
  rw [if_pos (.inr h)]
  rfl
theorem f_neg {i : Int} {K : D → Prop} : @fQ _ negD [.int i] K = K (.int (-i)) := no_rfl rfl
theorem f_abs {i : Int} {K : D → Prop} : @fQ _ absD [.int i] K = K (.int (if i < 0 then -i else i)) := no_rfl rfl
theorem f_intI {i : Int} {K : D → Prop} : @fQ _ intD [.int i] K = K (.int i) := no_rfl rfl
theorem f_intB {b : Bool} {K : D → Prop} : @fQ _ intD [.bool b] K = K (.int (if b = true then 1 else 0)) := no_rfl rfl
theorem f_lenL {ds : List D} {K : D → Prop} : @fQ _ lenD [.list ds] K = K (.int (ds.length : Nat)) := no_rfl rfl
theorem f_lenT {ds : List D} {K : D → Prop} : @fQ _ lenD [.tuple ds] K = K (.int (ds.length : Nat)) := no_rfl rfl
theorem f_tupL {ds : List D} {K : D → Prop} : @fQ _ tupleD [.list ds] K = K (.tuple ds) := no_rfl rfl
theorem f_tupT {ds : List D} {K : D → Prop} : @fQ _ tupleD [.tuple ds] K = K (.tuple ds) := no_rfl rfl
theorem f_lisL {ds : List D} {K : D → Prop} : @fQ _ listD [.list ds] K = K (.list ds) := no_rfl rfl
theorem f_lisT {ds : List D} {K : D → Prop} : @fQ _ listD [.tuple ds] K = K (.list ds) := no_rfl rfl
theorem f_isB {a b : Bool} {K : D → Prop} : @fQ _ isB [.bool a, .bool b] K = K (.bool (decide (a = b))) := no_rfl rfl
theorem f_isNotB {a b : Bool} {K : D → Prop} : @fQ _ isNotB [.bool a, .bool b] K = K (.bool (!decide (a = b))) := no_rfl rfl
theorem f_isN {K : D → Prop} : @fQ _ isN [d, .none] K = K (.bool (isNo d)) := no_rfl rfl
theorem f_isNotN {K : D → Prop} : @fQ _ isNotN [d, .none] K = K (.bool (!isNo d)) := no_rfl rfl
theorem f_addT {a b : List D} {K : D → Prop} (h : a.length + b.length ≤ sizeLine) : @fQ _ addD [.tuple a, .tuple b] K = K (.tuple (a ++ b)) := by
  show @oQ _ (if _ then _ else _) K = _
  rw [if_pos h]
  rfl
theorem f_addL {a b : List D} {K : D → Prop} (h : a.length + b.length ≤ sizeLine) : @fQ _ addD [.list a, .list b] K = K (.list (a ++ b)) := by
  show @oQ _ (if _ then _ else _) K = _
  rw [if_pos h]
  rfl
theorem f_catL {a b : List D} {K : D → Prop} (h : a.length + b.length ≤ sizeLine) : @fQ _ catL [.list a, .list b] K = K (.list (a ++ b)) := by
  show @oQ _ (if _ then _ else _) K = _
  rw [if_pos h]
  rfl
theorem f_eq {a b : D} {K : D → Prop} (h1 : noDict a = true) (h2 : noDict b = true) (h3 : shp a = true) (h4 : shp b = true) : @fQ _ eqD [a, b] K = K (.bool (PyData.eqv a b)) := by
  show @oQ _ (if (noDict a && noDict b && shp a && shp b) = true then _ else _) K = _
  rw [if_pos (by rw [h1, h2, h3, h4]; rfl)]
  rfl
theorem f_ne {a b : D} {K : D → Prop} (h1 : noDict a = true) (h2 : noDict b = true) (h3 : shp a = true) (h4 : shp b = true) : @fQ _ neD [a, b] K = K (.bool (!PyData.eqv a b)) := by
  show @oQ _ (if (noDict a && noDict b && shp a && shp b) = true then _ else _) K = _
  rw [if_pos (by rw [h1, h2, h3, h4]; rfl)]
  rfl
theorem f_inL {a : D} {bs : List D} {K : D → Prop} (h1 : noDict a = true) (h2 : shp a = true) (h3 : shp (.list bs) = true) : @fQ _ inD [a, .list bs] K = K (.bool (bs.any fun z => PyData.eqv z a)) := by
  show @oQ _ (if (noDict a && shp a && shp (.list bs)) = true then _ else _) K = _
  rw [if_pos (by rw [h1, h2, h3]; rfl)]
  rfl
theorem f_inT {a : D} {bs : List D} {K : D → Prop} (h1 : noDict a = true) (h2 : shp a = true) (h3 : shp (.tuple bs) = true) : @fQ _ inD [a, .tuple bs] K = K (.bool (bs.any fun z => PyData.eqv z a)) := by
  show @oQ _ (if (noDict a && shp a && shp (.tuple bs)) = true then _ else _) K = _
  rw [if_pos (by rw [h1, h2, h3]; rfl)]
  rfl
theorem f_ninL {a : D} {bs : List D} {K : D → Prop} (h1 : noDict a = true) (h2 : shp a = true) (h3 : shp (.list bs) = true) : @fQ _ notInD [a, .list bs] K = K (.bool (!bs.any fun z => PyData.eqv z a)) := by
  show @oQ _ (if (noDict a && shp a && shp (.list bs)) = true then _ else _) K = _
  rw [if_pos (by rw [h1, h2, h3]; rfl)]
  rfl
theorem f_ninT {a : D} {bs : List D} {K : D → Prop} (h1 : noDict a = true) (h2 : shp a = true) (h3 : shp (.tuple bs) = true) : @fQ _ notInD [a, .tuple bs] K = K (.bool (!bs.any fun z => PyData.eqv z a)) := by
  show @oQ _ (if (noDict a && shp a && shp (.tuple bs)) = true then _ else _) K = _
  rw [if_pos (by rw [h1, h2, h3]; rfl)]
  rfl
theorem f_all {bs : List Bool} {K : D → Prop} : @fQ _ allD [.list (bs.map .bool)] K = K (.bool (bs.all id)) := by
  have h : ∀ bs : List Bool, boolsD (bs.map .bool) = some bs := fun bs => by
    induction bs with
    | nil => rfl
    | cons b r ih => simp [boolsD, ih]
  show @oQ _ ((boolsD _).map _) K = _
  rw [h]
  rfl
theorem f_any {bs : List Bool} {K : D → Prop} : @fQ _ anyD [.list (bs.map .bool)] K = K (.bool (bs.any id)) := by
  have h : ∀ bs : List Bool, boolsD (bs.map .bool) = some bs := fun bs => by
    induction bs with
    | nil => rfl
    | cons b r ih => simp [boolsD, ih]
  show @oQ _ ((boolsD _).map _) K = _
  rw [h]
  rfl
theorem f_sum {bs : List Int} {K : D → Prop} : @fQ _ sumD [.list (bs.map .int)] K = K (.int bs.sum) := by
  have h : ∀ bs : List Int, intsD (bs.map .int) = some bs := fun bs => by
    induction bs with
    | nil => rfl
    | cons b r ih => simp [intsD, ih]
  show @oQ _ ((intsD _).map _) K = _
  rw [h]
  rfl
theorem f_isi_int_int {x : Int} {K : D → Prop} : @fQ _ (isiD "int") [.int x] K = K (.bool true) := by
  show @oQ _ ((kitB "int" "int").map _) K = _
  rw [show kitB "int" "int" = some true from by decide +kernel]
  rfl
theorem f_isi_int_bool {x : Bool} {K : D → Prop} : @fQ _ (isiD "int") [.bool x] K = K (.bool true) := by
  show @oQ _ ((kitB "bool" "int").map _) K = _
  rw [show kitB "bool" "int" = some true from by decide +kernel]
  rfl
theorem f_isi_int_tuple {x : List D} {K : D → Prop} : @fQ _ (isiD "int") [.tuple x] K = K (.bool false) := by
  show @oQ _ ((kitB "tuple" "int").map _) K = _
  rw [show kitB "tuple" "int" = some false from by decide +kernel]
  rfl
theorem f_isi_int_str {x : Str} {K : D → Prop} : @fQ _ (isiD "int") [.str x] K = K (.bool false) := by
  show @oQ _ ((kitB "str" "int").map _) K = _
  rw [show kitB "str" "int" = some false from by decide +kernel]
  rfl
theorem f_isi_int_list {x : List D} {K : D → Prop} : @fQ _ (isiD "int") [.list x] K = K (.bool false) := by
  show @oQ _ ((kitB "list" "int").map _) K = _
  rw [show kitB "list" "int" = some false from by decide +kernel]
  rfl
theorem f_isi_bool_int {x : Int} {K : D → Prop} : @fQ _ (isiD "bool") [.int x] K = K (.bool false) := by
  show @oQ _ ((kitB "int" "bool").map _) K = _
  rw [show kitB "int" "bool" = some false from by decide +kernel]
  rfl
theorem f_isi_bool_bool {x : Bool} {K : D → Prop} : @fQ _ (isiD "bool") [.bool x] K = K (.bool true) := by
  show @oQ _ ((kitB "bool" "bool").map _) K = _
  rw [show kitB "bool" "bool" = some true from by decide +kernel]
  rfl
theorem f_isi_bool_tuple {x : List D} {K : D → Prop} : @fQ _ (isiD "bool") [.tuple x] K = K (.bool false) := by
  show @oQ _ ((kitB "tuple" "bool").map _) K = _
  rw [show kitB "tuple" "bool" = some false from by decide +kernel]
  rfl
theorem f_isi_bool_str {x : Str} {K : D → Prop} : @fQ _ (isiD "bool") [.str x] K = K (.bool false) := by
  show @oQ _ ((kitB "str" "bool").map _) K = _
  rw [show kitB "str" "bool" = some false from by decide +kernel]
  rfl
theorem f_isi_bool_list {x : List D} {K : D → Prop} : @fQ _ (isiD "bool") [.list x] K = K (.bool false) := by
  show @oQ _ ((kitB "list" "bool").map _) K = _
  rw [show kitB "list" "bool" = some false from by decide +kernel]
  rfl
theorem f_isi_tuple_int {x : Int} {K : D → Prop} : @fQ _ (isiD "tuple") [.int x] K = K (.bool false) := by
  show @oQ _ ((kitB "int" "tuple").map _) K = _
  rw [show kitB "int" "tuple" = some false from by decide +kernel]
  rfl
theorem f_isi_tuple_bool {x : Bool} {K : D → Prop} : @fQ _ (isiD "tuple") [.bool x] K = K (.bool false) := by
  show @oQ _ ((kitB "bool" "tuple").map _) K = _
  rw [show kitB "bool" "tuple" = some false from by decide +kernel]
  rfl
theorem f_isi_tuple_tuple {x : List D} {K : D → Prop} : @fQ _ (isiD "tuple") [.tuple x] K = K (.bool true) := by
  show @oQ _ ((kitB "tuple" "tuple").map _) K = _
  rw [show kitB "tuple" "tuple" = some true from by decide +kernel]
  rfl
theorem f_isi_tuple_str {x : Str} {K : D → Prop} : @fQ _ (isiD "tuple") [.str x] K = K (.bool false) := by
  show @oQ _ ((kitB "str" "tuple").map _) K = _
  rw [show kitB "str" "tuple" = some false from by decide +kernel]
  rfl
theorem f_isi_tuple_list {x : List D} {K : D → Prop} : @fQ _ (isiD "tuple") [.list x] K = K (.bool false) := by
  show @oQ _ ((kitB "list" "tuple").map _) K = _
  rw [show kitB "list" "tuple" = some false from by decide +kernel]
  rfl
theorem f_isi_str_int {x : Int} {K : D → Prop} : @fQ _ (isiD "str") [.int x] K = K (.bool false) := by
  show @oQ _ ((kitB "int" "str").map _) K = _
  rw [show kitB "int" "str" = some false from by decide +kernel]
  rfl
theorem f_isi_str_bool {x : Bool} {K : D → Prop} : @fQ _ (isiD "str") [.bool x] K = K (.bool false) := by
  show @oQ _ ((kitB "bool" "str").map _) K = _
  rw [show kitB "bool" "str" = some false from by decide +kernel]
  rfl
theorem f_isi_str_tuple {x : List D} {K : D → Prop} : @fQ _ (isiD "str") [.tuple x] K = K (.bool false) := by
  show @oQ _ ((kitB "tuple" "str").map _) K = _
  rw [show kitB "tuple" "str" = some false from by decide +kernel]
  rfl
theorem f_isi_str_str {x : Str} {K : D → Prop} : @fQ _ (isiD "str") [.str x] K = K (.bool true) := by
  show @oQ _ ((kitB "str" "str").map _) K = _
  rw [show kitB "str" "str" = some true from by decide +kernel]
  rfl
theorem f_isi_str_list {x : List D} {K : D → Prop} : @fQ _ (isiD "str") [.list x] K = K (.bool false) := by
  show @oQ _ ((kitB "list" "str").map _) K = _
  rw [show kitB "list" "str" = some false from by decide +kernel]
  rfl
theorem f_isi_list_int {x : Int} {K : D → Prop} : @fQ _ (isiD "list") [.int x] K = K (.bool false) := by
  show @oQ _ ((kitB "int" "list").map _) K = _
  rw [show kitB "int" "list" = some false from by decide +kernel]
  rfl
theorem f_isi_list_bool {x : Bool} {K : D → Prop} : @fQ _ (isiD "list") [.bool x] K = K (.bool false) := by
  show @oQ _ ((kitB "bool" "list").map _) K = _
  rw [show kitB "bool" "list" = some false from by decide +kernel]
  rfl
theorem f_isi_list_tuple {x : List D} {K : D → Prop} : @fQ _ (isiD "list") [.tuple x] K = K (.bool false) := by
  show @oQ _ ((kitB "tuple" "list").map _) K = _
  rw [show kitB "tuple" "list" = some false from by decide +kernel]
  rfl
theorem f_isi_list_str {x : Str} {K : D → Prop} : @fQ _ (isiD "list") [.str x] K = K (.bool false) := by
  show @oQ _ ((kitB "str" "list").map _) K = _
  rw [show kitB "str" "list" = some false from by decide +kernel]
  rfl
theorem f_isi_list_list {x : List D} {K : D → Prop} : @fQ _ (isiD "list") [.list x] K = K (.bool true) := by
  show @oQ _ ((kitB "list" "list").map _) K = _
  rw [show kitB "list" "list" = some true from by decide +kernel]
  rfl
theorem h_append {ds : List D} {K : D → D → Prop} (h1 : noDict d = true) (h2 : ds.length < sizeLine) : @hQ appendD (.list ds) [d] K = K .none (.list (ds ++ [d])) := by
  show @oQ _ (if _ then _ else _) (fun _ => _) = _
  rw [if_pos ⟨h1, h2⟩]
  rfl
theorem h_pop {ds : List D} {K : D → D → Prop} : @hQ popD (.list (ds ++ [d])) [] K = K d (.list ds) := by
  show @oQ _ (((ds ++ [d])[(ds ++ [d]).length - 1]?).bind _) (fun _ => _) = _
  simp [oQ, List.dropLast_concat]
theorem h_pop0 {ds : List D} {K : D → D → Prop} : @hQ popAtD (.list (d :: ds)) [.int 0] K = K d (.list ds) := by
  show @oQ _ (if -(2 ^ 63) ≤ (0 : Int) ∧ (0 : Int) < 2 ^ 63 then (ixN (d :: ds).length 0).bind fun j => ((d :: ds)[j]?).bind fun x => some (x, PyData.list ((d :: ds).eraseIdx j)) else none) (fun _ => _) = _
  rw [if_pos (show -(2 ^ 63) ≤ (0 : Int) ∧ (0 : Int) < 2 ^ 63 from by decide)]
  rw [show ixN (d :: ds).length 0 = some 0 from by simp [ixN]]
  rfl
theorem f_rng1 {n : Nat} {K : List D → Prop} (h : n < 2 ^ 62) : @fQ _ rng1F [.int (n : Int)] K = K (rngD 0 n) := by
  show @oQ _ (if small62 (n : Int) = true then some (rngD 0 (n : Int).toNat) else none) (fun _ => _) = _
  rw [if_pos (show small62 (n : Int) = true from by simp only [small62, decide_eq_true_eq]; omega)]
  rfl
theorem f_rngI {n : Int} {K : List D → Prop} (h : 0 ≤ n) (h2 : n < 4611686018427387904) : @fQ _ rng1F [.int n] K = K (rngD 0 n.toNat) := by
  obtain ⟨m, rfl⟩ := Int.eq_ofNat_of_zero_le h
  exact f_rng1 (by omega)
theorem f_setD {ds : List D} {k : Nat} {v : D} {K : D → Prop} (h : noDict v = true) (h2 : k < ds.length) : @oQ _ (setD (.list ds) (.int (k : Int)) v) K = K (.list (ds.set k v)) := by
  show @oQ _ (if noDict v = true then _ else _) K = _
  rw [if_pos h, show ixN ds.length (k : Int) = some k from by simp only [ixN]; rw [if_pos (by omega), if_pos (by omega)]; rfl]
  rfl
theorem atI_nat {α : Type} {xs : List α} {k : Nat} : atI xs (k : Int) = xs[k]? := by
  unfold atI ixN
  rw [if_pos (by omega)]
  by_cases h : k < xs.length
  · rw [if_pos (by omega)]
    rfl
  · rw [if_neg (by omega)]
    exact (List.getElem?_eq_none (by omega)).symm
theorem f_ixL {ds : List D} {k : Nat} {K : D → Prop} (h : ds[k]? = some d) : @fQ _ ixD [.list ds, .int (k : Int)] K = K d := by
  show @oQ _ (atI ds (k : Int)) K = _
  rw [atI_nat, h]
  rfl
theorem f_ixT {ds : List D} {k : Nat} {K : D → Prop} (h : ds[k]? = some d) : @fQ _ ixD [.tuple ds, .int (k : Int)] K = K d := by
  show @oQ _ (atI ds (k : Int)) K = _
  rw [atI_nat, h]
  rfl
theorem f_mapL {α : Type} [Inhabited α] {f : α → D} {xs : List α} {k : Nat} {K : D → Prop} (h : k < xs.length) : @fQ _ ixD [.list (xs.map f), .int (k : Int)] K = K (f xs[k]!) := f_ixL (by rw [List.getElem?_map, List.getElem?_eq_getElem h, getElem!_pos xs k h]; rfl)
theorem f_mapT {α : Type} [Inhabited α] {f : α → D} {xs : List α} {k : Nat} {K : D → Prop} (h : k < xs.length) : @fQ _ ixD [.tuple (xs.map f), .int (k : Int)] K = K (f xs[k]!) := f_ixT (by rw [List.getElem?_map, List.getElem?_eq_getElem h, getElem!_pos xs k h]; rfl)
theorem f_ixl0 {y0 : D} {r : List D} {K : D → Prop} : @fQ _ ixD [.list (y0 :: r), .int 0] K = K y0 := by
  refine (show @fQ _ ixD [.list _, .int ((0 : Nat) : Int)] K = _ from f_ixL ?_)
  rfl
theorem f_ixl1 {y0 y1 : D} {r : List D} {K : D → Prop} : @fQ _ ixD [.list (y0 :: y1 :: r), .int 1] K = K y1 := by
  refine (show @fQ _ ixD [.list _, .int ((1 : Nat) : Int)] K = _ from f_ixL ?_)
  rfl
theorem f_ixl2 {y0 y1 y2 : D} {r : List D} {K : D → Prop} : @fQ _ ixD [.list (y0 :: y1 :: y2 :: r), .int 2] K = K y2 := by
  refine (show @fQ _ ixD [.list _, .int ((2 : Nat) : Int)] K = _ from f_ixL ?_)
  rfl
theorem f_ixl3 {y0 y1 y2 y3 : D} {r : List D} {K : D → Prop} : @fQ _ ixD [.list (y0 :: y1 :: y2 :: y3 :: r), .int 3] K = K y3 := by
  refine (show @fQ _ ixD [.list _, .int ((3 : Nat) : Int)] K = _ from f_ixL ?_)
  rfl
theorem f_ixl4 {y0 y1 y2 y3 y4 : D} {r : List D} {K : D → Prop} : @fQ _ ixD [.list (y0 :: y1 :: y2 :: y3 :: y4 :: r), .int 4] K = K y4 := by
  refine (show @fQ _ ixD [.list _, .int ((4 : Nat) : Int)] K = _ from f_ixL ?_)
  rfl
theorem f_ixl5 {y0 y1 y2 y3 y4 y5 : D} {r : List D} {K : D → Prop} : @fQ _ ixD [.list (y0 :: y1 :: y2 :: y3 :: y4 :: y5 :: r), .int 5] K = K y5 := by
  refine (show @fQ _ ixD [.list _, .int ((5 : Nat) : Int)] K = _ from f_ixL ?_)
  rfl
theorem f_ixt0 {y0 : D} {r : List D} {K : D → Prop} : @fQ _ ixD [.tuple (y0 :: r), .int 0] K = K y0 := by
  refine (show @fQ _ ixD [.tuple _, .int ((0 : Nat) : Int)] K = _ from f_ixT ?_)
  rfl
theorem f_ixt1 {y0 y1 : D} {r : List D} {K : D → Prop} : @fQ _ ixD [.tuple (y0 :: y1 :: r), .int 1] K = K y1 := by
  refine (show @fQ _ ixD [.tuple _, .int ((1 : Nat) : Int)] K = _ from f_ixT ?_)
  rfl
theorem f_ixt2 {y0 y1 y2 : D} {r : List D} {K : D → Prop} : @fQ _ ixD [.tuple (y0 :: y1 :: y2 :: r), .int 2] K = K y2 := by
  refine (show @fQ _ ixD [.tuple _, .int ((2 : Nat) : Int)] K = _ from f_ixT ?_)
  rfl
theorem f_ixt3 {y0 y1 y2 y3 : D} {r : List D} {K : D → Prop} : @fQ _ ixD [.tuple (y0 :: y1 :: y2 :: y3 :: r), .int 3] K = K y3 := by
  refine (show @fQ _ ixD [.tuple _, .int ((3 : Nat) : Int)] K = _ from f_ixT ?_)
  rfl
theorem f_ixt4 {y0 y1 y2 y3 y4 : D} {r : List D} {K : D → Prop} : @fQ _ ixD [.tuple (y0 :: y1 :: y2 :: y3 :: y4 :: r), .int 4] K = K y4 := by
  refine (show @fQ _ ixD [.tuple _, .int ((4 : Nat) : Int)] K = _ from f_ixT ?_)
  rfl
theorem f_ixt5 {y0 y1 y2 y3 y4 y5 : D} {r : List D} {K : D → Prop} : @fQ _ ixD [.tuple (y0 :: y1 :: y2 :: y3 :: y4 :: y5 :: r), .int 5] K = K y5 := by
  refine (show @fQ _ ixD [.tuple _, .int ((5 : Nat) : Int)] K = _ from f_ixT ?_)
  rfl
theorem f_sd0 {y0 v : D} {r : List D} {K : D → Prop} (h : noDict v = true) : @oQ _ (setD (.list (y0 :: r)) (.int 0) v) K = K (.list (v :: r)) := by
  refine (show @oQ _ (setD (.list _) (.int ((0 : Nat) : Int)) v) K = _ from (f_setD h (by simp)).trans ?_)
  rfl
theorem f_sd1 {y0 y1 v : D} {r : List D} {K : D → Prop} (h : noDict v = true) : @oQ _ (setD (.list (y0 :: y1 :: r)) (.int 1) v) K = K (.list (y0 :: v :: r)) := by
  refine (show @oQ _ (setD (.list _) (.int ((1 : Nat) : Int)) v) K = _ from (f_setD h (by simp)).trans ?_)
  rfl
theorem f_sd2 {y0 y1 y2 v : D} {r : List D} {K : D → Prop} (h : noDict v = true) : @oQ _ (setD (.list (y0 :: y1 :: y2 :: r)) (.int 2) v) K = K (.list (y0 :: y1 :: v :: r)) := by
  refine (show @oQ _ (setD (.list _) (.int ((2 : Nat) : Int)) v) K = _ from (f_setD h (by simp)).trans ?_)
  rfl
theorem f_sd3 {y0 y1 y2 y3 v : D} {r : List D} {K : D → Prop} (h : noDict v = true) : @oQ _ (setD (.list (y0 :: y1 :: y2 :: y3 :: r)) (.int 3) v) K = K (.list (y0 :: y1 :: y2 :: v :: r)) := by
  refine (show @oQ _ (setD (.list _) (.int ((3 : Nat) : Int)) v) K = _ from (f_setD h (by simp)).trans ?_)
  rfl
theorem f_sd4 {y0 y1 y2 y3 y4 v : D} {r : List D} {K : D → Prop} (h : noDict v = true) : @oQ _ (setD (.list (y0 :: y1 :: y2 :: y3 :: y4 :: r)) (.int 4) v) K = K (.list (y0 :: y1 :: y2 :: y3 :: v :: r)) := by
  refine (show @oQ _ (setD (.list _) (.int ((4 : Nat) : Int)) v) K = _ from (f_setD h (by simp)).trans ?_)
  rfl
theorem f_sd5 {y0 y1 y2 y3 y4 y5 v : D} {r : List D} {K : D → Prop} (h : noDict v = true) : @oQ _ (setD (.list (y0 :: y1 :: y2 :: y3 :: y4 :: y5 :: r)) (.int 5) v) K = K (.list (y0 :: y1 :: y2 :: y3 :: y4 :: v :: r)) := by
  refine (show @oQ _ (setD (.list _) (.int ((5 : Nat) : Int)) v) K = _ from (f_setD h (by simp)).trans ?_)
  rfl
theorem nd_none  : noDict (.none) = true := of_eq_true (eq_true rfl)
theorem nd_bool  : noDict (.bool b) = true := of_eq_true (eq_true rfl)
theorem nd_int {x : Int} : noDict (.int x) = true := of_eq_true (eq_true rfl)
theorem nd_str {x : Str} : noDict (.str x) = true := of_eq_true (eq_true rfl)
theorem nd_list {x : List D} : noDict (.list x) = true := of_eq_true (eq_true rfl)
theorem nd_tuple {x : List D} : noDict (.tuple x) = true := of_eq_true (eq_true rfl)
end
theorem itT {p : Prop} {inst : Decidable p} {A B : Prop} (h : p) : @iteQ (@decide p inst) A B = A := by
  rw [decide_eq_true h]
  rfl
theorem itF {p : Prop} {inst : Decidable p} {A B : Prop} (h : ¬ p) : @iteQ (@decide p inst) A B = B := by
  rw [decide_eq_false h]
  rfl
/-! ### loops -/
section
variable {t : Tgt} {m : MS} {ρ : Env'} {Q : Out → Prop}
theorem wl_nil : @WL t m [] ρ Q = Q (.nx ρ) := rfl
theorem wl_cons {d : D} {ds : List D} : @WL t m (d :: ds) ρ Q = @WG t d ρ fun ρ1 => @WS m ρ1 (loopQ (fun ρ2 => @WL t m ds ρ2 Q) Q) := by
  simp only [WL, forL, oQ_bind, WG, WS]
  congr 1
  funext ρ1
  congr 1
  funext o
  cases o <;> rfl
theorem loopQ_imp {I J : Env' → Prop} {P : Out → Prop} {o : Out} (h : loopQ I P o) (i : ∀ ρ, I ρ → J ρ) (j : ∀ o, P o → Q o) : loopQ J Q o := by
  cases o with
  | nx ρ => exact i ρ h
  | ct ρ => exact i ρ h
  | bk ρ => exact j _ h
  | rt d ρ => exact j _ h
  | rf d ρ => exact j _ h
theorem wl_inv {ds : List D} (I : Nat → Env' → Prop) (h0 : I 0 ρ) (step : ∀ (k : Nat) (d : D) (ρ : Env'), ds[k]? = some d → I k ρ → @WG t d ρ fun ρ1 => @WS m ρ1 (loopQ (I (k + 1)) Q)) (he : ∀ ρ, I ds.length ρ → Q (.nx ρ)) : @WL t m ds ρ Q := by
  induction ds generalizing I ρ with
  | nil => exact he ρ h0
  | cons d ds ih =>
    rw [wl_cons]
    refine oQ_imp (step 0 d ρ rfl h0) fun ρ1 h => WS.imp h fun o z => loopQ_imp z (fun ρ2 z2 => ?_) fun _ z => z
    exact ih (fun k => I (k + 1)) z2 (fun k d' ρ' e z => step (k + 1) d' ρ' e z) he
theorem wl_map {α : Type} [Inhabited α] {f : α → D} {xs : List α} (I : Nat → Env' → Prop) (h0 : I 0 ρ) (step : ∀ (k : Nat) (ρ : Env'), k < xs.length → I k ρ → @WG t (f xs[k]!) ρ fun ρ1 => @WS m ρ1 (loopQ (I (k + 1)) Q)) (he : ∀ ρ, I xs.length ρ → Q (.nx ρ)) : @WL t m (xs.map f) ρ Q :=
  wl_inv I h0 (fun k d ρ e z => by
    rw [List.getElem?_map] at e
    obtain ⟨x, e1, rfl⟩ := Option.map_eq_some_iff.mp e
    obtain ⟨hk, e2⟩ := List.getElem?_eq_some_iff.mp e1
    have := step k ρ hk z
    rw [getElem!_pos xs k hk, e2] at this
    exact this) (by rw [List.length_map]; exact he)
theorem wl_enum {α : Type} [Inhabited α] {f : α → D} {xs : List α} (I : Nat → Env' → Prop) (h0 : I 0 ρ) (step : ∀ (k : Nat) (ρ : Env'), k < xs.length → I k ρ → @WG t (.tuple [.int (k : Nat), f xs[k]!]) ρ fun ρ1 => @WS m ρ1 (loopQ (I (k + 1)) Q)) (he : ∀ ρ, I xs.length ρ → Q (.nx ρ)) : @WL t m (enumD (xs.map f)) ρ Q :=
  wl_inv I h0 (fun k d ρ e z => by
    unfold enumD at e
    rw [List.getElem?_mapIdx, List.getElem?_map] at e
    obtain ⟨x, e1, rfl⟩ := Option.map_eq_some_iff.mp e
    obtain ⟨y, e3, rfl⟩ := Option.map_eq_some_iff.mp e1
    obtain ⟨hk, e2⟩ := List.getElem?_eq_some_iff.mp e3
    have := step k ρ hk z
    rw [getElem!_pos xs k hk, e2] at this
    exact this) (by unfold enumD; rw [List.length_mapIdx, List.length_map]; exact he)
theorem rngD_get {lo : Int} {n k : Nat} {d : D} (h : (rngD lo n)[k]? = some d) : k < n ∧ d = .int (lo + (k : Int)) := by
  unfold rngD at h
  rw [List.getElem?_map] at h
  obtain ⟨x, e1, rfl⟩ := Option.map_eq_some_iff.mp h
  obtain ⟨hk, e2⟩ := List.getElem?_eq_some_iff.mp e1
  rw [List.length_range] at hk
  rw [List.getElem_range] at e2
  exact ⟨hk, by rw [e2]⟩
theorem rngD_len {lo : Int} {n : Nat} : (rngD lo n).length = n := by
  unfold rngD
  rw [List.length_map, List.length_range]
theorem wl_rng {n : Nat} (I : Nat → Env' → Prop) (h0 : I 0 ρ) (step : ∀ (k : Nat) (ρ : Env'), k < n → I k ρ → @WG t (.int (k : Nat)) ρ fun ρ1 => @WS m ρ1 (loopQ (I (k + 1)) Q)) (he : ∀ ρ, I n ρ → Q (.nx ρ)) : @WL t m (rngD 0 n) ρ Q :=
  wl_inv I h0 (fun k d ρ e z => by
    obtain ⟨hk, rfl⟩ := rngD_get e
    rw [Int.zero_add]
    exact step k ρ hk z) (by rw [rngD_len]; exact he)
theorem wl_rng2 {lo n : Nat} (I : Nat → Env' → Prop) (h0 : I 0 ρ) (step : ∀ (k : Nat) (ρ : Env'), k < n → I k ρ → @WG t (.int ((lo + k : Nat) : Int)) ρ fun ρ1 => @WS m ρ1 (loopQ (I (k + 1)) Q)) (he : ∀ ρ, I n ρ → Q (.nx ρ)) : @WL t m (rngD lo n) ρ Q :=
  wl_inv I h0 (fun k d ρ e z => by
    obtain ⟨hk, rfl⟩ := rngD_get e
    exact step k ρ hk z) (by rw [rngD_len]; exact he)
/-- a loop with a measure -/
theorem ww_inv {tt : MT} {N : Nat} (I : Nat → Env' → Prop) (k : Nat) (hk : k < N) (h0 : I k ρ) (step : ∀ (k : Nat) (ρ : Env'), I k ρ → @WT tt ρ fun b ρ1 => @iteQ b (@WS m ρ1 (loopQ (fun ρ2 => ∃ j, j < k ∧ I j ρ2) Q)) (Q (.nx ρ1))) : @WW tt m N ρ Q := by
  induction N generalizing k ρ with
  | zero => exact absurd hk (Nat.not_lt_zero _)
  | succ N ih =>
    unfold WW whileN
    rw [oQ_bind]
    refine oQ_imp (step k ρ h0) fun p h => ?_
    obtain ⟨b, ρ1⟩ := p
    cases b with
    | false => exact h
    | true =>
      have h : @WS m ρ1 (fun _ => _) := h
      show @oQ _ ((m ρ1).bind _) Q
      rw [oQ_bind]
      refine oQ_imp h fun o z => ?_
      cases o with
      | nx ρ2 =>
        obtain ⟨j, hj, z⟩ := z
        exact ih j (by omega) z
      | ct ρ2 =>
        obtain ⟨j, hj, z⟩ := z
        exact ih j (by omega) z
      | bk ρ2 => exact z
      | rt d ρ2 => exact z
      | rf d ρ2 => exact z
end
section
variable {own : List Nat} {t : Tgt} {tt : MT} {me : ME} {ρ : Env'} {K : List D → Env' → Prop}
theorem wc_inv {ds : List D} (I : Nat → List D → Env' → Prop) (ys : List D) (h0 : I 0 ys ρ)
    (step : ∀ (k : Nat) (d : D) (ys : List D) (ρ : Env'), ds[k]? = some d → I k ys ρ → @wipeQ ρ own fun ρ0 => @WG t d ρ0 fun ρ1 => @WT tt ρ1 fun b ρ2 => @iteQ b (@WE me ρ2 fun y ρ3 => noDict y = true ∧ I (k + 1) (ys ++ [y]) ρ3) (I (k + 1) ys ρ2))
    (he : ∀ zs ρ, I ds.length (ys ++ zs) ρ → K zs ρ) : @WC own t tt me ds ρ K := by
  induction ds generalizing I ρ ys K with
  | nil => exact he [] ρ (by rw [List.append_nil]; exact h0)
  | cons d ds ih =>
    unfold WC compL
    rw [oQ_bind]
    refine oQ_imp (step 0 d ys ρ rfl h0) fun ρ1 h => ?_
    rw [oQ_bind]
    refine oQ_imp h fun p h => ?_
    obtain ⟨b, ρ2⟩ := p
    cases b with
    | false => exact ih (fun k => I (k + 1)) ys h (fun k d' ys' ρ' e z => step (k + 1) d' ys' ρ' e z) he
    | true =>
      have h : @WE me ρ2 (fun y ρ3 => noDict y = true ∧ I (0 + 1) (ys ++ [y]) ρ3) := h
      show @oQ _ ((me ρ2).bind _) (fun _ => _)
      rw [oQ_bind]
      refine oQ_imp h fun p h => ?_
      obtain ⟨y, ρ3⟩ := p
      obtain ⟨hy, h⟩ := h
      have hy : noDict y = true := hy
      show @oQ _ (if noDict y = true then _ else _) (fun _ => _)
      rw [if_pos hy, oQ_bind]
      refine ih (fun k => I (k + 1)) (ys ++ [y]) (K := fun zs ρ' => K (y :: zs) ρ') h (fun k d' ys' ρ' e z => step (k + 1) d' ys' ρ' e z) fun zs ρ' z => he (y :: zs) ρ' ?_
      rw [List.append_assoc] at z
      exact z
/-- a block whose items change nothing else and are known -/
theorem wc_pure {ds : List D} (f : Nat → D) (hio : ∀ v ∈ own, True) (I : Env' → Prop) (h0 : I ρ)
    (step : ∀ (k : Nat) (d : D) (ρ : Env'), ds[k]? = some d → I ρ → @wipeQ ρ own fun ρ0 => @WG t d ρ0 fun ρ1 => @WT tt ρ1 fun b ρ2 => b = true ∧ @WE me ρ2 fun y ρ3 => noDict y = true ∧ y = f k ∧ I ρ3)
    (he : ∀ ρ, I ρ → K ((List.range ds.length).map f) ρ) : @WC own t tt me ds ρ K := by
  refine wc_inv (fun k ys ρ => k ≤ ds.length ∧ ys = (List.range k).map f ∧ I ρ) [] ⟨Nat.zero_le _, rfl, h0⟩ (fun k d ys ρ e z => ?_) fun zs ρ z => ?_
  · obtain ⟨z0, rfl, z2⟩ := z
    obtain ⟨hk, _⟩ := List.getElem?_eq_some_iff.mp e
    refine oQ_imp (step k d ρ e z2) fun ρ1 h => oQ_imp h fun p h => ?_
    obtain ⟨b, ρ2⟩ := p
    obtain ⟨hb, h⟩ := h
    have hb : b = true := hb
    subst hb
    refine oQ_imp h fun p h => ⟨h.1, hk, ?_, h.2.2⟩
    rw [h.2.1, List.range_succ, List.map_append]
    rfl
  · obtain ⟨_, z, z2⟩ := z
    rw [List.nil_append] at z
    rw [z]
    exact he ρ z2
end

section
variable {own : List Nat} {t : Tgt} {tt : MT} {me : ME} {ρ : Env'} {K : List D → Env' → Prop}
/-- a block over alike values whose items change nothing else -/
theorem wc_map {α : Type} [Inhabited α] {f : α → D} {xs : List α} (g : α → D) (I : Env' → Prop) (h0 : I ρ)
    (step : ∀ (k : Nat) (ρ : Env'), k < xs.length → I ρ → @wipeQ ρ own fun ρ0 => @WG t (f xs[k]!) ρ0 fun ρ1 => @WT tt ρ1 fun b ρ2 => b = true ∧ @WE me ρ2 fun y ρ3 => noDict y = true ∧ y = g xs[k]! ∧ I ρ3)
    (he : ∀ ρ, I ρ → K (xs.map g) ρ) : @WC own t tt me (xs.map f) ρ K := by
  refine wc_pure (fun k => g xs[k]!) (fun _ _ => trivial) I h0 (fun k d ρ e z => ?_) fun ρ z => ?_
  · rw [List.getElem?_map] at e
    obtain ⟨x, e1, rfl⟩ := Option.map_eq_some_iff.mp e
    obtain ⟨hk, e2⟩ := List.getElem?_eq_some_iff.mp e1
    have := step k ρ hk z
    rw [getElem!_pos xs k hk, e2] at this
    rw [getElem!_pos xs k hk, e2]
    exact this
  · have e : (List.range (xs.map f).length).map (fun k => g xs[k]!) = xs.map g := by
      refine List.ext_getElem (by simp) fun i h1 h2 => ?_
      have hi : i < xs.length := by simpa using h2
      rw [List.getElem_map, List.getElem_range, List.getElem_map, getElem!_pos xs i hi]
    rw [e]
    exact he ρ z
end

section
variable {own : List Nat} {t : Tgt} {tt : MT} {mk mv : ME} {ρ : Env'} {K : List (D × D) → Env' → Prop}
theorem wcd_inv {ds : List D} (I : Nat → List (D × D) → Env' → Prop) (acc : List (D × D)) (h0 : I 0 acc ρ)
    (step : ∀ (k : Nat) (d : D) (acc : List (D × D)) (ρ : Env'), ds[k]? = some d → I k acc ρ → @wipeQ ρ own fun ρ0 => @WG t d ρ0 fun ρ1 => @WT tt ρ1 fun b ρ2 => @iteQ b (@WE mk ρ2 fun y ρ3 => @WE mv ρ3 fun z ρ4 => @oQ _ (keyD y) fun kk => noDict z = true ∧ acc.length < sizeLine ∧ I (k + 1) (dputD acc kk z) ρ4) (I (k + 1) acc ρ2))
    (he : ∀ acc ρ, I ds.length acc ρ → K acc ρ) : @WCD own t tt mk mv ds acc ρ K := by
  induction ds generalizing I ρ acc with
  | nil => exact he acc ρ h0
  | cons d ds ih =>
    unfold WCD compD
    rw [oQ_bind]
    refine oQ_imp (step 0 d acc ρ rfl h0) fun ρ1 h => ?_
    rw [oQ_bind]
    refine oQ_imp h fun p h => ?_
    obtain ⟨b, ρ2⟩ := p
    cases b with
    | false => exact ih (fun k => I (k + 1)) acc h (fun k d' a' ρ' e z => step (k + 1) d' a' ρ' e z) he
    | true =>
      have h : @WE mk ρ2 (fun y ρ3 => @WE mv ρ3 fun z ρ4 => @oQ _ (keyD y) fun kk => noDict z = true ∧ acc.length < sizeLine ∧ I (0 + 1) (dputD acc kk z) ρ4) := h
      show @oQ _ ((mk ρ2).bind _) (fun _ => _)
      rw [oQ_bind]
      refine oQ_imp h fun p h => ?_
      obtain ⟨y, ρ3⟩ := p
      show @oQ _ ((mv ρ3).bind _) (fun _ => _)
      rw [oQ_bind]
      refine oQ_imp h fun p h => ?_
      obtain ⟨z, ρ4⟩ := p
      show @oQ _ ((keyD y).bind _) (fun _ => _)
      rw [oQ_bind]
      refine oQ_imp h fun kk h => ?_
      obtain ⟨h1, h2, h3⟩ := h
      have h1 : noDict z = true := h1
      show @oQ _ (if noDict z = true ∧ acc.length < sizeLine then _ else _) (fun _ => _)
      rw [if_pos ⟨h1, h2⟩]
      exact ih (fun k => I (k + 1)) (dputD acc kk z) h3 (fun k d' a' ρ' e z => step (k + 1) d' a' ρ' e z) he
end

section
variable {own own1 : List Nat} {t t1 : Tgt} {tt tt1 : MT} {mi1 : MI} {me : ME} {ρ : Env'} {K : List D → Env' → Prop}
theorem wc2_inv {ds : List D} (I : Nat → List D → Env' → Prop) (ys : List D) (h0 : I 0 ys ρ)
    (step : ∀ (k : Nat) (d : D) (ys : List D) (ρ : Env'), ds[k]? = some d → I k ys ρ → @wipeQ ρ own fun ρ0 => @WG t d ρ0 fun ρ1 => @WT tt ρ1 fun b ρ2 => @iteQ b (@WI mi1 ρ2 fun its ρ3 => @WC own1 t1 tt1 me its ρ3 fun zs ρ4 => I (k + 1) (ys ++ zs) ρ4) (I (k + 1) ys ρ2))
    (he : ∀ zs ρ, I ds.length (ys ++ zs) ρ → K zs ρ) : @WC2 own t tt own1 t1 mi1 tt1 me ds ρ K := by
  induction ds generalizing I ρ ys K with
  | nil => exact he [] ρ (by rw [List.append_nil]; exact h0)
  | cons d ds ih =>
    unfold WC2 compL2
    rw [oQ_bind]
    refine oQ_imp (step 0 d ys ρ rfl h0) fun ρ1 h => ?_
    rw [oQ_bind]
    refine oQ_imp h fun p h => ?_
    obtain ⟨b, ρ2⟩ := p
    cases b with
    | false => exact ih (fun k => I (k + 1)) ys h (fun k d' ys' ρ' e z => step (k + 1) d' ys' ρ' e z) he
    | true =>
      have h : @WI mi1 ρ2 (fun its ρ3 => @WC own1 t1 tt1 me its ρ3 fun zs ρ4 => I (0 + 1) (ys ++ zs) ρ4) := h
      show @oQ _ ((mi1 ρ2).bind _) (fun _ => _)
      rw [oQ_bind]
      refine oQ_imp h fun j h => ?_
      rw [oQ_bind]
      refine oQ_imp h fun y h => ?_
      rw [oQ_bind]
      refine ih (fun k => I (k + 1)) (ys ++ y.1) (K := fun zs ρ' => K (y.1 ++ zs) ρ') h (fun k d' ys' ρ' e z => step (k + 1) d' ys' ρ' e z) fun zs ρ' z => he (y.1 ++ zs) ρ' ?_
      rw [List.append_assoc] at z
      exact z
end

/-! ### dicts by name -/
theorem dget_map {α : Type} {kf : α → Key} {f : α → D} {a : α} : ∀ {l : List α}, a ∈ l → (∀ b ∈ l, kf b = kf a → b = a) → dgetD (l.map fun b => (kD (kf b), f b)) (kf a) = some (f a)
  | [], h, _ => by cases h
  | b :: l, h, i => by
    unfold dgetD
    by_cases c : kf b = kf a
    · have := i b List.mem_cons_self c
      subst this
      rw [List.map_cons, List.find?_cons_of_pos (by rw [keyD_kD]; simp)]
      rfl
    · have hm : a ∈ l := by
        rcases List.mem_cons.mp h with rfl | h
        · exact absurd rfl c
        · exact h
      rw [List.map_cons, List.find?_cons_of_neg (by rw [keyD_kD]; simpa using c)]
      exact dget_map hm fun b hb => i b (List.mem_cons_of_mem _ hb)
theorem dget_no {α : Type} {kf : α → Key} {f : α → D} {k : Key} : ∀ {l : List α}, (∀ b ∈ l, kf b ≠ k) → dgetD (l.map fun b => (kD (kf b), f b)) k = none
  | [], _ => rfl
  | b :: l, i => by
    unfold dgetD
    rw [List.map_cons, List.find?_cons_of_neg (by rw [keyD_kD]; simpa using i b List.mem_cons_self)]
    exact dget_no fun b hb => i b (List.mem_cons_of_mem _ hb)
theorem dput_no {α : Type} {kf : α → Key} {f : α → D} {k : Key} {v : D} {l : List α} (i : ∀ b ∈ l, kf b ≠ k) : dputD (l.map fun b => (kD (kf b), f b)) k v = (l.map fun b => (kD (kf b), f b)) ++ [(kD k, v)] := by
  unfold dputD
  rw [if_neg]
  intro h
  obtain ⟨x, hx, h⟩ := List.any_eq_true.mp h
  obtain ⟨b, hb, rfl⟩ := List.mem_map.mp hx
  rw [decide_eq_true_eq, keyD_kD] at h
  exact i b hb (Option.some.inj h)
theorem dg_of {kvs : List (D × D)} {k : Key} {kd d : D} {K : D → Prop} (hk : keyD kd = some k) (h : dgetD kvs k = some d) : @dgQ (.dict kvs) kd K = K d := by
  show @oQ _ ((keyD kd).bind _) K = _
  rw [hk]
  show @oQ _ (dgetD kvs k) K = _
  rw [h]
  rfl
theorem dg2_no {kvs : List (D × D)} {k : Key} {kd z : D} {K : D → Prop} (hk : keyD kd = some k) (hz : noDict z = true) (h : dgetD kvs k = none) : @dg2Q (.dict kvs) kd z K = K z := by
  show @oQ _ ((keyD kd).bind _) K = _
  rw [hk]
  show @oQ _ (if noDict z = true then _ else _) K = _
  rw [if_pos hz, h]
  rfl
theorem dg2_yes {kvs : List (D × D)} {k : Key} {kd z d : D} {K : D → Prop} (hk : keyD kd = some k) (hz : noDict z = true) (h : dgetD kvs k = some d) : @dg2Q (.dict kvs) kd z K = K d := by
  show @oQ _ ((keyD kd).bind _) K = _
  rw [hk]
  show @oQ _ (if noDict z = true then _ else _) K = _
  rw [if_pos hz, h]
  rfl
theorem dp_of {kvs : List (D × D)} {k : Key} {kd v : D} {K : D → Prop} (hk : keyD kd = some k) (hv : noDict v = true) (hl : kvs.length < sizeLine) : @dpQ (.dict kvs) kd v K = K (.dict (dputD kvs k v)) := by
  show @oQ _ ((keyD kd).bind _) K = _
  rw [hk]
  show @oQ _ (if noDict v = true ∧ kvs.length < sizeLine then _ else _) K = _
  rw [if_pos ⟨hv, hl⟩]
  rfl
theorem kD_str {x : Str} : kD (.inr x) = .str x := no_rfl rfl
theorem kD_int {x : Int} : kD (.inl x) = .int x := no_rfl rfl
theorem f_eqS {a b : Str} {K : D → Prop} (h1 : shp (.str a) = true) (h2 : shp (.str b) = true) : @fQ _ eqD [.str a, .str b] K = K (.bool (a == b)) := f_eq rfl rfl h1 h2
theorem f_neS {a b : Str} {K : D → Prop} (h1 : shp (.str a) = true) (h2 : shp (.str b) = true) : @fQ _ neD [.str a, .str b] K = K (.bool (!(a == b))) := f_ne rfl rfl h1 h2
/-! ### the law's draws -/
structure DS where
  sc : List Int
  a : Int
  b : Int
  c : Int
def dsD (s : DS) : D := .list [.list (s.sc.map .int), .int s.a, .int s.b, .int s.c]
def m_draw : MS :=
    (mSeq (mStore 0 (mC (.int 3)) (mOp addD [(.ex (mOp ixD [(.nm 0), (.ex (mC (.int 3)))])), (.ex (mC (.int 1)))]))
    (mSeq (mIfS (mTest (mOp gtI [(.ex (mOp ixD [(.nm 0), (.ex (mC (.int 2)))])), (.ex (mC (.int 0)))]))
    (mSeq (mSet 2 (mOp modD [(.ex (mOp intD [(.ex (mOp ixD [(.nm 0), (.ex (mC (.int 2)))]))])), (.nm 1)]))
    (mSeq (mStore 0 (mC (.int 2)) (mOp fdivD [(.ex (mOp ixD [(.nm 0), (.ex (mC (.int 2)))])), (.nm 1)]))
    (mRetN 2)))
    mNext)
    (mSeq (mSet 3 (mC (.int 0)))
    (mSeq (mIfS (mTest (mOp gtI [(.ex (mOp lenD [(.ex (mOp ixD [(.nm 0), (.ex (mC (.int 0)))]))])), (.ex (mC (.int 0)))]))
    (mSet 3 (mOp absD [(.ex (mOp ixD [(.ex (mOp ixD [(.nm 0), (.ex (mC (.int 0)))])), (.ex (mOp modD [(.ex (mOp intD [(.ex (mOp ixD [(.nm 0), (.ex (mC (.int 1)))]))])), (.ex (mOp lenD [(.ex (mOp ixD [(.nm 0), (.ex (mC (.int 0)))]))]))]))]))]))
    mNext)
    (mSeq (mStore 0 (mC (.int 1)) (mOp addD [(.ex (mOp ixD [(.nm 0), (.ex (mC (.int 1)))])), (.ex (mC (.int 1)))]))
    (mSeq (mIfS (mTest (mOp geI [(.nm 3), (.ex (mOp powD [(.ex (mC (.int 10))), (.ex (mC (.int 18)))]))]))
    (mSeq (mStore 0 (mC (.int 2)) (mOp fdivD [(.nm 3), (.nm 1)]))
    (mRet (mOp modD [(.ex (mOp intD [(.nm 3)])), (.nm 1)])))
    mNext)
    (mSeq (mSet 4 (mOp modD [(.ex (mOp intD [(.ex (mOp addD [(.ex (mOp mulD [(.ex (mOp addD [(.nm 3), (.ex (mC (.int 1)))])), (.ex (mC (.int 48271)))])), (.ex (mOp mulD [(.ex (mOp ixD [(.nm 0), (.ex (mC (.int 3)))])), (.ex (mC (.int 69621)))]))]))])), (.ex (mC (.int 2147483647)))]))
    (mSeq (mSet 4 (mOp modD [(.ex (mOp intD [(.ex (mOp addD [(.ex (mOp addD [(.ex (mOp mulD [(.nm 4), (.ex (mC (.int 16807)))])), (.ex (mOp fdivD [(.nm 3), (.ex (mC (.int 97)))]))])), (.ex (mOp ixD [(.nm 0), (.ex (mC (.int 3)))]))]))])), (.ex (mC (.int 2147483629)))]))
    (mRet (mOp modD [(.ex (mOp fdivD [(.nm 4), (.ex (mC (.int 11)))])), (.nm 1)]))))))))))
def F_draw : List D → Option (D × List D) := runF (5 : Nat) 2 [0] false m_draw

theorem pow18 {K : D → Prop} : @fQ _ powD [.int 10, .int 18] K = K (.int 1000000000000000000) := no_rfl rfl
theorem sd_nat {k : Int} {ds : List Int} (h : 0 < ds.length) : ∃ x : Int, ∀ K : D → Prop, @fQ _ ixD [.list (ds.map .int), .int (k % (ds.length : Nat))] K = K (.int x) := by
  have h1 : 0 ≤ k % (ds.length : Int) := Int.emod_nonneg _ (by omega)
  have h2 : k % (ds.length : Int) < ds.length := Int.emod_lt_of_pos _ (by omega)
  obtain ⟨j, hj⟩ := Int.eq_ofNat_of_zero_le h1
  rw [hj] at h2 ⊢
  exact ⟨ds[j]!, fun K => f_mapL (by omega)⟩
theorem draw_ex (s : DS) (n : Int) (h : 0 < n) (h2 : n < 1073741824) : ∃ v : Nat, ∃ s', F_draw [dsD s, .int n] = some (.int (v : Int), [dsD s']) ∧ (v : Int) < n := by
  suffices hs : @WF F_draw [dsD s, .int n] fun d ns => ∃ v : Nat, ∃ s', d = .int (v : Int) ∧ ns = [dsD s'] ∧ (v : Int) < n by
    obtain ⟨d, ns, e, v, s', rfl, rfl, hv⟩ := hs.ex
    exact ⟨v, s', e, hv⟩
  have fin : ∀ (x : Int) (s' : DS), ∃ v : Nat, ∃ s1, PyData.int (x % n) = .int (v : Int) ∧ [dsD s'] = [dsD s1] ∧ (v : Int) < n := fun x s' => by
    have h1 : 0 ≤ x % n := Int.emod_nonneg _ (by omega)
    obtain ⟨j, hj⟩ := Int.eq_ofNat_of_zero_le h1
    exact ⟨j, s', by rw [hj], rfl, by rw [← hj]; exact Int.emod_lt_of_pos _ h⟩
  obtain ⟨sc, a, b, c⟩ := s
  refine (wf_run (np := 2) rfl).mpr ?_
  show @WS m_draw [some (.ow (.list [.list (sc.map .int), .int a, .int b, .int c])), some (.st (.int n)), none, none, none] (fun _ => _)
  unfold m_draw
  simp only [eq_self, Int.reduceLT, Int.reduceLE, Nat.reduceLT, Nat.reduceLeDiff, Int.reduceToNat, Int.toNat_natCast, ↓ws_seq, ↓sq_nx, ↓sq_rt, ↓sq_rf, ↓sq_bk, ↓sq_ct, ↓lq_nx, ↓lq_ct, ↓lq_bk, ↓lq_rt, ↓lq_rf, ↓ou_nx, ↓ou_rt, ↓ou_rf, ↓ws_next, ↓ws_break, ↓ws_cont, ↓ws_retNone, ↓ws_drop, ↓ws_ret, ↓ws_retF, ↓ws_set, ↓ws_setF, ↓rn_st, ↓rn_ow, ↓ws_retN, ↓sn_st, ↓sn_ow, ↓ws_setN, ↓ite_t, ↓ite_f, ↓ws_if, ↓ws_asg, ↓ws_store, ↓ws_aug, ↓ws_for, ↓ws_while, ↓we_c, ↓we_n, ↓we_op, ↓we_int, ↓wv_nil, ↓wv_ex, ↓wv_nm, ↓re_nil, ↓re_ex, ↓re_nm, ↓st_st, ↓ow_ow, ↓lk_st, ↓lk_ow, ↓bo_bo, ↓in_in, ↓wt_test, ↓wt_tru, ↓tr_bo, ↓tr_in, ↓tr_li, ↓tr_tu, ↓tr_no, ↓wt_not, ↓wt_and, ↓wt_or, ↓we_and, ↓we_or, ↓we_not, ↓we_if, ↓di_nil, ↓di_1, ↓di_2, ↓di_3, ↓di_4, ↓di_5, ↓di_6, ↓di_7, ↓di_8, ↓di_9, ↓di_10, ↓di_11, ↓di_12, ↓we_tup, ↓we_lst, ↓wm_nil, ↓wm_cons, ↓wa_nil, ↓wa_ex, ↓wa_st, ↓wa_io, ↓fz_nil, ↓fz_ex, ↓fz_io, ↓fy_st, ↓fy_ow, ↓ar_nil, ↓ar_ex, ↓ar_st, ↓ar_io, ↓pu_nil, ↓pu_cons, ↓we_call, ij_nil, ij_ex, ij_st, ij_io, ↓wg_nm, ↓wg_tu, ↓wg_tl, ↓wgs_nil, ↓wgs_cons, ↓we_methS', ↓ls_li, ↓we_meth, ↓we_chain, ↓we_rg1, ↓we_dict0, ↓we_get, ↓isd_d, ↓we_get2, ↓ws_put, ↓we_val, ↓wi_seq, ↓wi_rng, ↓wi_enum, ↓fq_seqL, ↓fq_seqT, ↓wt_yes, ↓rs_nil, ↓rs_cons, ↓wp_nil, ↓wp_cons, ↓we_comp, ↓we_compD, ↓we_comp2, ↓we_sset, ↓we_lset, ↓we_rev, ↓rv_l, ↓rv_t, ↓f_zip, ↓iq_nil, ↓iq_cons, ↓get_0, ↓set_0, ↓slot_0, ↓fz_0, ↓get_1, ↓set_1, ↓slot_1, ↓fz_1, ↓get_2, ↓set_2, ↓slot_2, ↓fz_2, ↓get_3, ↓set_3, ↓slot_3, ↓fz_3, ↓get_4, ↓set_4, ↓slot_4, ↓fz_4, ↓get_5, ↓set_5, ↓slot_5, ↓fz_5, ↓get_6, ↓set_6, ↓slot_6, ↓fz_6, ↓get_7, ↓set_7, ↓slot_7, ↓fz_7, ↓get_8, ↓set_8, ↓slot_8, ↓fz_8, ↓get_9, ↓set_9, ↓slot_9, ↓fz_9, ↓get_10, ↓set_10, ↓slot_10, ↓fz_10, ↓get_11, ↓set_11, ↓slot_11, ↓fz_11, ↓get_12, ↓set_12, ↓slot_12, ↓fz_12, ↓get_13, ↓set_13, ↓slot_13, ↓fz_13, ↓get_14, ↓set_14, ↓slot_14, ↓fz_14, ↓get_15, ↓set_15, ↓slot_15, ↓fz_15, ↓get_16, ↓set_16, ↓slot_16, ↓fz_16, ↓get_17, ↓set_17, ↓slot_17, ↓fz_17, ↓get_18, ↓set_18, ↓slot_18, ↓fz_18, ↓get_19, ↓set_19, ↓slot_19, ↓fz_19, ↓get_20, ↓set_20, ↓slot_20, ↓fz_20, ↓get_21, ↓set_21, ↓slot_21, ↓fz_21, ↓get_22, ↓set_22, ↓slot_22, ↓fz_22, ↓get_23, ↓set_23, ↓slot_23, ↓fz_23, ↓get_24, ↓set_24, ↓slot_24, ↓fz_24, ↓get_25, ↓set_25, ↓slot_25, ↓fz_25, ↓f_sub, ↓f_lt, ↓f_le, ↓f_gt, ↓f_ge, ↓f_add, ↓f_mod, ↓f_fdiv, ↓f_mulL, ↓f_mulR, ↓f_neg, ↓f_abs, ↓f_intI, ↓f_intB, ↓f_lenL, ↓f_lenT, ↓f_tupL, ↓f_tupT, ↓f_lisL, ↓f_lisT, ↓f_isB, ↓f_isNotB, ↓f_isN, ↓f_isNotN, ↓f_all, ↓f_any, ↓f_sum, ↓f_isi_int_int, ↓f_isi_int_bool, ↓f_isi_int_tuple, ↓f_isi_int_str, ↓f_isi_int_list, ↓f_isi_bool_int, ↓f_isi_bool_bool, ↓f_isi_bool_tuple, ↓f_isi_bool_str, ↓f_isi_bool_list, ↓f_isi_tuple_int, ↓f_isi_tuple_bool, ↓f_isi_tuple_tuple, ↓f_isi_tuple_str, ↓f_isi_tuple_list, ↓f_isi_str_int, ↓f_isi_str_bool, ↓f_isi_str_tuple, ↓f_isi_str_str, ↓f_isi_str_list, ↓f_isi_list_int, ↓f_isi_list_bool, ↓f_isi_list_tuple, ↓f_isi_list_str, ↓f_isi_list_list, ↓h_pop, ↓h_pop0, ↓f_rngI, ↓f_ixl0, ↓f_ixl1, ↓f_ixl2, ↓f_ixl3, ↓f_ixl4, ↓f_ixl5, ↓f_ixt0, ↓f_ixt1, ↓f_ixt2, ↓f_ixt3, ↓f_ixt4, ↓f_ixt5, ↓f_sd0, ↓f_sd1, ↓f_sd2, ↓f_sd3, ↓f_sd4, ↓f_sd5, nd_none, nd_bool, nd_int, nd_str, nd_list, nd_tuple, h, h2]
  by_cases hb : 0 < b
  · rw [decide_eq_true hb]
    simp only [eq_self, Int.reduceLT, Int.reduceLE, Nat.reduceLT, Nat.reduceLeDiff, Int.reduceToNat, Int.toNat_natCast, ↓ws_seq, ↓sq_nx, ↓sq_rt, ↓sq_rf, ↓sq_bk, ↓sq_ct, ↓lq_nx, ↓lq_ct, ↓lq_bk, ↓lq_rt, ↓lq_rf, ↓ou_nx, ↓ou_rt, ↓ou_rf, ↓ws_next, ↓ws_break, ↓ws_cont, ↓ws_retNone, ↓ws_drop, ↓ws_ret, ↓ws_retF, ↓ws_set, ↓ws_setF, ↓rn_st, ↓rn_ow, ↓ws_retN, ↓sn_st, ↓sn_ow, ↓ws_setN, ↓ite_t, ↓ite_f, ↓ws_if, ↓ws_asg, ↓ws_store, ↓ws_aug, ↓ws_for, ↓ws_while, ↓we_c, ↓we_n, ↓we_op, ↓we_int, ↓wv_nil, ↓wv_ex, ↓wv_nm, ↓re_nil, ↓re_ex, ↓re_nm, ↓st_st, ↓ow_ow, ↓lk_st, ↓lk_ow, ↓bo_bo, ↓in_in, ↓wt_test, ↓wt_tru, ↓tr_bo, ↓tr_in, ↓tr_li, ↓tr_tu, ↓tr_no, ↓wt_not, ↓wt_and, ↓wt_or, ↓we_and, ↓we_or, ↓we_not, ↓we_if, ↓di_nil, ↓di_1, ↓di_2, ↓di_3, ↓di_4, ↓di_5, ↓di_6, ↓di_7, ↓di_8, ↓di_9, ↓di_10, ↓di_11, ↓di_12, ↓we_tup, ↓we_lst, ↓wm_nil, ↓wm_cons, ↓wa_nil, ↓wa_ex, ↓wa_st, ↓wa_io, ↓fz_nil, ↓fz_ex, ↓fz_io, ↓fy_st, ↓fy_ow, ↓ar_nil, ↓ar_ex, ↓ar_st, ↓ar_io, ↓pu_nil, ↓pu_cons, ↓we_call, ij_nil, ij_ex, ij_st, ij_io, ↓wg_nm, ↓wg_tu, ↓wg_tl, ↓wgs_nil, ↓wgs_cons, ↓we_methS', ↓ls_li, ↓we_meth, ↓we_chain, ↓we_rg1, ↓we_dict0, ↓we_get, ↓isd_d, ↓we_get2, ↓ws_put, ↓we_val, ↓wi_seq, ↓wi_rng, ↓wi_enum, ↓fq_seqL, ↓fq_seqT, ↓wt_yes, ↓rs_nil, ↓rs_cons, ↓wp_nil, ↓wp_cons, ↓we_comp, ↓we_compD, ↓we_comp2, ↓we_sset, ↓we_lset, ↓we_rev, ↓rv_l, ↓rv_t, ↓f_zip, ↓iq_nil, ↓iq_cons, ↓get_0, ↓set_0, ↓slot_0, ↓fz_0, ↓get_1, ↓set_1, ↓slot_1, ↓fz_1, ↓get_2, ↓set_2, ↓slot_2, ↓fz_2, ↓get_3, ↓set_3, ↓slot_3, ↓fz_3, ↓get_4, ↓set_4, ↓slot_4, ↓fz_4, ↓get_5, ↓set_5, ↓slot_5, ↓fz_5, ↓get_6, ↓set_6, ↓slot_6, ↓fz_6, ↓get_7, ↓set_7, ↓slot_7, ↓fz_7, ↓get_8, ↓set_8, ↓slot_8, ↓fz_8, ↓get_9, ↓set_9, ↓slot_9, ↓fz_9, ↓get_10, ↓set_10, ↓slot_10, ↓fz_10, ↓get_11, ↓set_11, ↓slot_11, ↓fz_11, ↓get_12, ↓set_12, ↓slot_12, ↓fz_12, ↓get_13, ↓set_13, ↓slot_13, ↓fz_13, ↓get_14, ↓set_14, ↓slot_14, ↓fz_14, ↓get_15, ↓set_15, ↓slot_15, ↓fz_15, ↓get_16, ↓set_16, ↓slot_16, ↓fz_16, ↓get_17, ↓set_17, ↓slot_17, ↓fz_17, ↓get_18, ↓set_18, ↓slot_18, ↓fz_18, ↓get_19, ↓set_19, ↓slot_19, ↓fz_19, ↓get_20, ↓set_20, ↓slot_20, ↓fz_20, ↓get_21, ↓set_21, ↓slot_21, ↓fz_21, ↓get_22, ↓set_22, ↓slot_22, ↓fz_22, ↓get_23, ↓set_23, ↓slot_23, ↓fz_23, ↓get_24, ↓set_24, ↓slot_24, ↓fz_24, ↓get_25, ↓set_25, ↓slot_25, ↓fz_25, ↓f_sub, ↓f_lt, ↓f_le, ↓f_gt, ↓f_ge, ↓f_add, ↓f_mod, ↓f_fdiv, ↓f_mulL, ↓f_mulR, ↓f_neg, ↓f_abs, ↓f_intI, ↓f_intB, ↓f_lenL, ↓f_lenT, ↓f_tupL, ↓f_tupT, ↓f_lisL, ↓f_lisT, ↓f_isB, ↓f_isNotB, ↓f_isN, ↓f_isNotN, ↓f_all, ↓f_any, ↓f_sum, ↓f_isi_int_int, ↓f_isi_int_bool, ↓f_isi_int_tuple, ↓f_isi_int_str, ↓f_isi_int_list, ↓f_isi_bool_int, ↓f_isi_bool_bool, ↓f_isi_bool_tuple, ↓f_isi_bool_str, ↓f_isi_bool_list, ↓f_isi_tuple_int, ↓f_isi_tuple_bool, ↓f_isi_tuple_tuple, ↓f_isi_tuple_str, ↓f_isi_tuple_list, ↓f_isi_str_int, ↓f_isi_str_bool, ↓f_isi_str_tuple, ↓f_isi_str_str, ↓f_isi_str_list, ↓f_isi_list_int, ↓f_isi_list_bool, ↓f_isi_list_tuple, ↓f_isi_list_str, ↓f_isi_list_list, ↓h_pop, ↓h_pop0, ↓f_rngI, ↓f_ixl0, ↓f_ixl1, ↓f_ixl2, ↓f_ixl3, ↓f_ixl4, ↓f_ixl5, ↓f_ixt0, ↓f_ixt1, ↓f_ixt2, ↓f_ixt3, ↓f_ixt4, ↓f_ixt5, ↓f_sd0, ↓f_sd1, ↓f_sd2, ↓f_sd3, ↓f_sd4, ↓f_sd5, nd_none, nd_bool, nd_int, nd_str, nd_list, nd_tuple, h, h2]
    exact fin b ⟨sc, a, b / n, c + 1⟩
  · rw [decide_eq_false hb]
    simp only [eq_self, Int.reduceLT, Int.reduceLE, Nat.reduceLT, Nat.reduceLeDiff, Int.reduceToNat, Int.toNat_natCast, ↓ws_seq, ↓sq_nx, ↓sq_rt, ↓sq_rf, ↓sq_bk, ↓sq_ct, ↓lq_nx, ↓lq_ct, ↓lq_bk, ↓lq_rt, ↓lq_rf, ↓ou_nx, ↓ou_rt, ↓ou_rf, ↓ws_next, ↓ws_break, ↓ws_cont, ↓ws_retNone, ↓ws_drop, ↓ws_ret, ↓ws_retF, ↓ws_set, ↓ws_setF, ↓rn_st, ↓rn_ow, ↓ws_retN, ↓sn_st, ↓sn_ow, ↓ws_setN, ↓ite_t, ↓ite_f, ↓ws_if, ↓ws_asg, ↓ws_store, ↓ws_aug, ↓ws_for, ↓ws_while, ↓we_c, ↓we_n, ↓we_op, ↓we_int, ↓wv_nil, ↓wv_ex, ↓wv_nm, ↓re_nil, ↓re_ex, ↓re_nm, ↓st_st, ↓ow_ow, ↓lk_st, ↓lk_ow, ↓bo_bo, ↓in_in, ↓wt_test, ↓wt_tru, ↓tr_bo, ↓tr_in, ↓tr_li, ↓tr_tu, ↓tr_no, ↓wt_not, ↓wt_and, ↓wt_or, ↓we_and, ↓we_or, ↓we_not, ↓we_if, ↓di_nil, ↓di_1, ↓di_2, ↓di_3, ↓di_4, ↓di_5, ↓di_6, ↓di_7, ↓di_8, ↓di_9, ↓di_10, ↓di_11, ↓di_12, ↓we_tup, ↓we_lst, ↓wm_nil, ↓wm_cons, ↓wa_nil, ↓wa_ex, ↓wa_st, ↓wa_io, ↓fz_nil, ↓fz_ex, ↓fz_io, ↓fy_st, ↓fy_ow, ↓ar_nil, ↓ar_ex, ↓ar_st, ↓ar_io, ↓pu_nil, ↓pu_cons, ↓we_call, ij_nil, ij_ex, ij_st, ij_io, ↓wg_nm, ↓wg_tu, ↓wg_tl, ↓wgs_nil, ↓wgs_cons, ↓we_methS', ↓ls_li, ↓we_meth, ↓we_chain, ↓we_rg1, ↓we_dict0, ↓we_get, ↓isd_d, ↓we_get2, ↓ws_put, ↓we_val, ↓wi_seq, ↓wi_rng, ↓wi_enum, ↓fq_seqL, ↓fq_seqT, ↓wt_yes, ↓rs_nil, ↓rs_cons, ↓wp_nil, ↓wp_cons, ↓we_comp, ↓we_compD, ↓we_comp2, ↓we_sset, ↓we_lset, ↓we_rev, ↓rv_l, ↓rv_t, ↓f_zip, ↓iq_nil, ↓iq_cons, ↓get_0, ↓set_0, ↓slot_0, ↓fz_0, ↓get_1, ↓set_1, ↓slot_1, ↓fz_1, ↓get_2, ↓set_2, ↓slot_2, ↓fz_2, ↓get_3, ↓set_3, ↓slot_3, ↓fz_3, ↓get_4, ↓set_4, ↓slot_4, ↓fz_4, ↓get_5, ↓set_5, ↓slot_5, ↓fz_5, ↓get_6, ↓set_6, ↓slot_6, ↓fz_6, ↓get_7, ↓set_7, ↓slot_7, ↓fz_7, ↓get_8, ↓set_8, ↓slot_8, ↓fz_8, ↓get_9, ↓set_9, ↓slot_9, ↓fz_9, ↓get_10, ↓set_10, ↓slot_10, ↓fz_10, ↓get_11, ↓set_11, ↓slot_11, ↓fz_11, ↓get_12, ↓set_12, ↓slot_12, ↓fz_12, ↓get_13, ↓set_13, ↓slot_13, ↓fz_13, ↓get_14, ↓set_14, ↓slot_14, ↓fz_14, ↓get_15, ↓set_15, ↓slot_15, ↓fz_15, ↓get_16, ↓set_16, ↓slot_16, ↓fz_16, ↓get_17, ↓set_17, ↓slot_17, ↓fz_17, ↓get_18, ↓set_18, ↓slot_18, ↓fz_18, ↓get_19, ↓set_19, ↓slot_19, ↓fz_19, ↓get_20, ↓set_20, ↓slot_20, ↓fz_20, ↓get_21, ↓set_21, ↓slot_21, ↓fz_21, ↓get_22, ↓set_22, ↓slot_22, ↓fz_22, ↓get_23, ↓set_23, ↓slot_23, ↓fz_23, ↓get_24, ↓set_24, ↓slot_24, ↓fz_24, ↓get_25, ↓set_25, ↓slot_25, ↓fz_25, ↓f_sub, ↓f_lt, ↓f_le, ↓f_gt, ↓f_ge, ↓f_add, ↓f_mod, ↓f_fdiv, ↓f_mulL, ↓f_mulR, ↓f_neg, ↓f_abs, ↓f_intI, ↓f_intB, ↓f_lenL, ↓f_lenT, ↓f_tupL, ↓f_tupT, ↓f_lisL, ↓f_lisT, ↓f_isB, ↓f_isNotB, ↓f_isN, ↓f_isNotN, ↓f_all, ↓f_any, ↓f_sum, ↓f_isi_int_int, ↓f_isi_int_bool, ↓f_isi_int_tuple, ↓f_isi_int_str, ↓f_isi_int_list, ↓f_isi_bool_int, ↓f_isi_bool_bool, ↓f_isi_bool_tuple, ↓f_isi_bool_str, ↓f_isi_bool_list, ↓f_isi_tuple_int, ↓f_isi_tuple_bool, ↓f_isi_tuple_tuple, ↓f_isi_tuple_str, ↓f_isi_tuple_list, ↓f_isi_str_int, ↓f_isi_str_bool, ↓f_isi_str_tuple, ↓f_isi_str_str, ↓f_isi_str_list, ↓f_isi_list_int, ↓f_isi_list_bool, ↓f_isi_list_tuple, ↓f_isi_list_str, ↓f_isi_list_list, ↓h_pop, ↓h_pop0, ↓f_rngI, ↓f_ixl0, ↓f_ixl1, ↓f_ixl2, ↓f_ixl3, ↓f_ixl4, ↓f_ixl5, ↓f_ixt0, ↓f_ixt1, ↓f_ixt2, ↓f_ixt3, ↓f_ixt4, ↓f_ixt5, ↓f_sd0, ↓f_sd1, ↓f_sd2, ↓f_sd3, ↓f_sd4, ↓f_sd5, nd_none, nd_bool, nd_int, nd_str, nd_list, nd_tuple, h, h2]
    have k1 : small64 48271 = true := by simp only [small64, decide_eq_true_eq]; omega
    have k2 : small64 69621 = true := by simp only [small64, decide_eq_true_eq]; omega
    have k3 : small64 16807 = true := by simp only [small64, decide_eq_true_eq]; omega
    simp only [List.length_map]
    by_cases hl : 0 < sc.length
    · obtain ⟨x, hx⟩ := sd_nat (k := a) hl
      have hl1 : (0 : Int) < (sc.length : Nat) := by omega
      simp only [decide_eq_true hl1, ite_t, ↓f_mod hl1]
      rw [hx]
      simp only [eq_self, Int.reduceLT, Int.reduceLE, Nat.reduceLT, Nat.reduceLeDiff, Int.reduceToNat, Int.toNat_natCast, ↓ws_seq, ↓sq_nx, ↓sq_rt, ↓sq_rf, ↓sq_bk, ↓sq_ct, ↓lq_nx, ↓lq_ct, ↓lq_bk, ↓lq_rt, ↓lq_rf, ↓ou_nx, ↓ou_rt, ↓ou_rf, ↓ws_next, ↓ws_break, ↓ws_cont, ↓ws_retNone, ↓ws_drop, ↓ws_ret, ↓ws_retF, ↓ws_set, ↓ws_setF, ↓rn_st, ↓rn_ow, ↓ws_retN, ↓sn_st, ↓sn_ow, ↓ws_setN, ↓ite_t, ↓ite_f, ↓ws_if, ↓ws_asg, ↓ws_store, ↓ws_aug, ↓ws_for, ↓ws_while, ↓we_c, ↓we_n, ↓we_op, ↓we_int, ↓wv_nil, ↓wv_ex, ↓wv_nm, ↓re_nil, ↓re_ex, ↓re_nm, ↓st_st, ↓ow_ow, ↓lk_st, ↓lk_ow, ↓bo_bo, ↓in_in, ↓wt_test, ↓wt_tru, ↓tr_bo, ↓tr_in, ↓tr_li, ↓tr_tu, ↓tr_no, ↓wt_not, ↓wt_and, ↓wt_or, ↓we_and, ↓we_or, ↓we_not, ↓we_if, ↓di_nil, ↓di_1, ↓di_2, ↓di_3, ↓di_4, ↓di_5, ↓di_6, ↓di_7, ↓di_8, ↓di_9, ↓di_10, ↓di_11, ↓di_12, ↓we_tup, ↓we_lst, ↓wm_nil, ↓wm_cons, ↓wa_nil, ↓wa_ex, ↓wa_st, ↓wa_io, ↓fz_nil, ↓fz_ex, ↓fz_io, ↓fy_st, ↓fy_ow, ↓ar_nil, ↓ar_ex, ↓ar_st, ↓ar_io, ↓pu_nil, ↓pu_cons, ↓we_call, ij_nil, ij_ex, ij_st, ij_io, ↓wg_nm, ↓wg_tu, ↓wg_tl, ↓wgs_nil, ↓wgs_cons, ↓we_methS', ↓ls_li, ↓we_meth, ↓we_chain, ↓we_rg1, ↓we_dict0, ↓we_get, ↓isd_d, ↓we_get2, ↓ws_put, ↓we_val, ↓wi_seq, ↓wi_rng, ↓wi_enum, ↓fq_seqL, ↓fq_seqT, ↓wt_yes, ↓rs_nil, ↓rs_cons, ↓wp_nil, ↓wp_cons, ↓we_comp, ↓we_compD, ↓we_comp2, ↓we_sset, ↓we_lset, ↓we_rev, ↓rv_l, ↓rv_t, ↓f_zip, ↓iq_nil, ↓iq_cons, ↓get_0, ↓set_0, ↓slot_0, ↓fz_0, ↓get_1, ↓set_1, ↓slot_1, ↓fz_1, ↓get_2, ↓set_2, ↓slot_2, ↓fz_2, ↓get_3, ↓set_3, ↓slot_3, ↓fz_3, ↓get_4, ↓set_4, ↓slot_4, ↓fz_4, ↓get_5, ↓set_5, ↓slot_5, ↓fz_5, ↓get_6, ↓set_6, ↓slot_6, ↓fz_6, ↓get_7, ↓set_7, ↓slot_7, ↓fz_7, ↓get_8, ↓set_8, ↓slot_8, ↓fz_8, ↓get_9, ↓set_9, ↓slot_9, ↓fz_9, ↓get_10, ↓set_10, ↓slot_10, ↓fz_10, ↓get_11, ↓set_11, ↓slot_11, ↓fz_11, ↓get_12, ↓set_12, ↓slot_12, ↓fz_12, ↓get_13, ↓set_13, ↓slot_13, ↓fz_13, ↓get_14, ↓set_14, ↓slot_14, ↓fz_14, ↓get_15, ↓set_15, ↓slot_15, ↓fz_15, ↓get_16, ↓set_16, ↓slot_16, ↓fz_16, ↓get_17, ↓set_17, ↓slot_17, ↓fz_17, ↓get_18, ↓set_18, ↓slot_18, ↓fz_18, ↓get_19, ↓set_19, ↓slot_19, ↓fz_19, ↓get_20, ↓set_20, ↓slot_20, ↓fz_20, ↓get_21, ↓set_21, ↓slot_21, ↓fz_21, ↓get_22, ↓set_22, ↓slot_22, ↓fz_22, ↓get_23, ↓set_23, ↓slot_23, ↓fz_23, ↓get_24, ↓set_24, ↓slot_24, ↓fz_24, ↓get_25, ↓set_25, ↓slot_25, ↓fz_25, ↓f_sub, ↓f_lt, ↓f_le, ↓f_gt, ↓f_ge, ↓f_add, ↓f_mod, ↓f_fdiv, ↓f_mulL, ↓f_mulR, ↓f_neg, ↓f_abs, ↓f_intI, ↓f_intB, ↓f_lenL, ↓f_lenT, ↓f_tupL, ↓f_tupT, ↓f_lisL, ↓f_lisT, ↓f_isB, ↓f_isNotB, ↓f_isN, ↓f_isNotN, ↓f_all, ↓f_any, ↓f_sum, ↓f_isi_int_int, ↓f_isi_int_bool, ↓f_isi_int_tuple, ↓f_isi_int_str, ↓f_isi_int_list, ↓f_isi_bool_int, ↓f_isi_bool_bool, ↓f_isi_bool_tuple, ↓f_isi_bool_str, ↓f_isi_bool_list, ↓f_isi_tuple_int, ↓f_isi_tuple_bool, ↓f_isi_tuple_tuple, ↓f_isi_tuple_str, ↓f_isi_tuple_list, ↓f_isi_str_int, ↓f_isi_str_bool, ↓f_isi_str_tuple, ↓f_isi_str_str, ↓f_isi_str_list, ↓f_isi_list_int, ↓f_isi_list_bool, ↓f_isi_list_tuple, ↓f_isi_list_str, ↓f_isi_list_list, ↓h_pop, ↓h_pop0, ↓f_rngI, ↓f_ixl0, ↓f_ixl1, ↓f_ixl2, ↓f_ixl3, ↓f_ixl4, ↓f_ixl5, ↓f_ixt0, ↓f_ixt1, ↓f_ixt2, ↓f_ixt3, ↓f_ixt4, ↓f_ixt5, ↓f_sd0, ↓f_sd1, ↓f_sd2, ↓f_sd3, ↓f_sd4, ↓f_sd5, nd_none, nd_bool, nd_int, nd_str, nd_list, nd_tuple, h, h2, ↓pow18]
      generalize hz : (if x < 0 then -x else x) = z
      by_cases hy : (1000000000000000000 : Int) ≤ z
      · simp only [decide_eq_true hy, eq_self, Int.reduceLT, Int.reduceLE, Nat.reduceLT, Nat.reduceLeDiff, Int.reduceToNat, Int.toNat_natCast, ↓ws_seq, ↓sq_nx, ↓sq_rt, ↓sq_rf, ↓sq_bk, ↓sq_ct, ↓lq_nx, ↓lq_ct, ↓lq_bk, ↓lq_rt, ↓lq_rf, ↓ou_nx, ↓ou_rt, ↓ou_rf, ↓ws_next, ↓ws_break, ↓ws_cont, ↓ws_retNone, ↓ws_drop, ↓ws_ret, ↓ws_retF, ↓ws_set, ↓ws_setF, ↓rn_st, ↓rn_ow, ↓ws_retN, ↓sn_st, ↓sn_ow, ↓ws_setN, ↓ite_t, ↓ite_f, ↓ws_if, ↓ws_asg, ↓ws_store, ↓ws_aug, ↓ws_for, ↓ws_while, ↓we_c, ↓we_n, ↓we_op, ↓we_int, ↓wv_nil, ↓wv_ex, ↓wv_nm, ↓re_nil, ↓re_ex, ↓re_nm, ↓st_st, ↓ow_ow, ↓lk_st, ↓lk_ow, ↓bo_bo, ↓in_in, ↓wt_test, ↓wt_tru, ↓tr_bo, ↓tr_in, ↓tr_li, ↓tr_tu, ↓tr_no, ↓wt_not, ↓wt_and, ↓wt_or, ↓we_and, ↓we_or, ↓we_not, ↓we_if, ↓di_nil, ↓di_1, ↓di_2, ↓di_3, ↓di_4, ↓di_5, ↓di_6, ↓di_7, ↓di_8, ↓di_9, ↓di_10, ↓di_11, ↓di_12, ↓we_tup, ↓we_lst, ↓wm_nil, ↓wm_cons, ↓wa_nil, ↓wa_ex, ↓wa_st, ↓wa_io, ↓fz_nil, ↓fz_ex, ↓fz_io, ↓fy_st, ↓fy_ow, ↓ar_nil, ↓ar_ex, ↓ar_st, ↓ar_io, ↓pu_nil, ↓pu_cons, ↓we_call, ij_nil, ij_ex, ij_st, ij_io, ↓wg_nm, ↓wg_tu, ↓wg_tl, ↓wgs_nil, ↓wgs_cons, ↓we_methS', ↓ls_li, ↓we_meth, ↓we_chain, ↓we_rg1, ↓we_dict0, ↓we_get, ↓isd_d, ↓we_get2, ↓ws_put, ↓we_val, ↓wi_seq, ↓wi_rng, ↓wi_enum, ↓fq_seqL, ↓fq_seqT, ↓wt_yes, ↓rs_nil, ↓rs_cons, ↓wp_nil, ↓wp_cons, ↓we_comp, ↓we_compD, ↓we_comp2, ↓we_sset, ↓we_lset, ↓we_rev, ↓rv_l, ↓rv_t, ↓f_zip, ↓iq_nil, ↓iq_cons, ↓get_0, ↓set_0, ↓slot_0, ↓fz_0, ↓get_1, ↓set_1, ↓slot_1, ↓fz_1, ↓get_2, ↓set_2, ↓slot_2, ↓fz_2, ↓get_3, ↓set_3, ↓slot_3, ↓fz_3, ↓get_4, ↓set_4, ↓slot_4, ↓fz_4, ↓get_5, ↓set_5, ↓slot_5, ↓fz_5, ↓get_6, ↓set_6, ↓slot_6, ↓fz_6, ↓get_7, ↓set_7, ↓slot_7, ↓fz_7, ↓get_8, ↓set_8, ↓slot_8, ↓fz_8, ↓get_9, ↓set_9, ↓slot_9, ↓fz_9, ↓get_10, ↓set_10, ↓slot_10, ↓fz_10, ↓get_11, ↓set_11, ↓slot_11, ↓fz_11, ↓get_12, ↓set_12, ↓slot_12, ↓fz_12, ↓get_13, ↓set_13, ↓slot_13, ↓fz_13, ↓get_14, ↓set_14, ↓slot_14, ↓fz_14, ↓get_15, ↓set_15, ↓slot_15, ↓fz_15, ↓get_16, ↓set_16, ↓slot_16, ↓fz_16, ↓get_17, ↓set_17, ↓slot_17, ↓fz_17, ↓get_18, ↓set_18, ↓slot_18, ↓fz_18, ↓get_19, ↓set_19, ↓slot_19, ↓fz_19, ↓get_20, ↓set_20, ↓slot_20, ↓fz_20, ↓get_21, ↓set_21, ↓slot_21, ↓fz_21, ↓get_22, ↓set_22, ↓slot_22, ↓fz_22, ↓get_23, ↓set_23, ↓slot_23, ↓fz_23, ↓get_24, ↓set_24, ↓slot_24, ↓fz_24, ↓get_25, ↓set_25, ↓slot_25, ↓fz_25, ↓f_sub, ↓f_lt, ↓f_le, ↓f_gt, ↓f_ge, ↓f_add, ↓f_mod, ↓f_fdiv, ↓f_mulL, ↓f_mulR, ↓f_neg, ↓f_abs, ↓f_intI, ↓f_intB, ↓f_lenL, ↓f_lenT, ↓f_tupL, ↓f_tupT, ↓f_lisL, ↓f_lisT, ↓f_isB, ↓f_isNotB, ↓f_isN, ↓f_isNotN, ↓f_all, ↓f_any, ↓f_sum, ↓f_isi_int_int, ↓f_isi_int_bool, ↓f_isi_int_tuple, ↓f_isi_int_str, ↓f_isi_int_list, ↓f_isi_bool_int, ↓f_isi_bool_bool, ↓f_isi_bool_tuple, ↓f_isi_bool_str, ↓f_isi_bool_list, ↓f_isi_tuple_int, ↓f_isi_tuple_bool, ↓f_isi_tuple_tuple, ↓f_isi_tuple_str, ↓f_isi_tuple_list, ↓f_isi_str_int, ↓f_isi_str_bool, ↓f_isi_str_tuple, ↓f_isi_str_str, ↓f_isi_str_list, ↓f_isi_list_int, ↓f_isi_list_bool, ↓f_isi_list_tuple, ↓f_isi_list_str, ↓f_isi_list_list, ↓h_pop, ↓h_pop0, ↓f_rngI, ↓f_ixl0, ↓f_ixl1, ↓f_ixl2, ↓f_ixl3, ↓f_ixl4, ↓f_ixl5, ↓f_ixt0, ↓f_ixt1, ↓f_ixt2, ↓f_ixt3, ↓f_ixt4, ↓f_ixt5, ↓f_sd0, ↓f_sd1, ↓f_sd2, ↓f_sd3, ↓f_sd4, ↓f_sd5, nd_none, nd_bool, nd_int, nd_str, nd_list, nd_tuple, h, h2, k1, k2, k3]
        exact fin _ ⟨sc, a + 1, _, c + 1⟩
      · simp only [decide_eq_false hy, eq_self, Int.reduceLT, Int.reduceLE, Nat.reduceLT, Nat.reduceLeDiff, Int.reduceToNat, Int.toNat_natCast, ↓ws_seq, ↓sq_nx, ↓sq_rt, ↓sq_rf, ↓sq_bk, ↓sq_ct, ↓lq_nx, ↓lq_ct, ↓lq_bk, ↓lq_rt, ↓lq_rf, ↓ou_nx, ↓ou_rt, ↓ou_rf, ↓ws_next, ↓ws_break, ↓ws_cont, ↓ws_retNone, ↓ws_drop, ↓ws_ret, ↓ws_retF, ↓ws_set, ↓ws_setF, ↓rn_st, ↓rn_ow, ↓ws_retN, ↓sn_st, ↓sn_ow, ↓ws_setN, ↓ite_t, ↓ite_f, ↓ws_if, ↓ws_asg, ↓ws_store, ↓ws_aug, ↓ws_for, ↓ws_while, ↓we_c, ↓we_n, ↓we_op, ↓we_int, ↓wv_nil, ↓wv_ex, ↓wv_nm, ↓re_nil, ↓re_ex, ↓re_nm, ↓st_st, ↓ow_ow, ↓lk_st, ↓lk_ow, ↓bo_bo, ↓in_in, ↓wt_test, ↓wt_tru, ↓tr_bo, ↓tr_in, ↓tr_li, ↓tr_tu, ↓tr_no, ↓wt_not, ↓wt_and, ↓wt_or, ↓we_and, ↓we_or, ↓we_not, ↓we_if, ↓di_nil, ↓di_1, ↓di_2, ↓di_3, ↓di_4, ↓di_5, ↓di_6, ↓di_7, ↓di_8, ↓di_9, ↓di_10, ↓di_11, ↓di_12, ↓we_tup, ↓we_lst, ↓wm_nil, ↓wm_cons, ↓wa_nil, ↓wa_ex, ↓wa_st, ↓wa_io, ↓fz_nil, ↓fz_ex, ↓fz_io, ↓fy_st, ↓fy_ow, ↓ar_nil, ↓ar_ex, ↓ar_st, ↓ar_io, ↓pu_nil, ↓pu_cons, ↓we_call, ij_nil, ij_ex, ij_st, ij_io, ↓wg_nm, ↓wg_tu, ↓wg_tl, ↓wgs_nil, ↓wgs_cons, ↓we_methS', ↓ls_li, ↓we_meth, ↓we_chain, ↓we_rg1, ↓we_dict0, ↓we_get, ↓isd_d, ↓we_get2, ↓ws_put, ↓we_val, ↓wi_seq, ↓wi_rng, ↓wi_enum, ↓fq_seqL, ↓fq_seqT, ↓wt_yes, ↓rs_nil, ↓rs_cons, ↓wp_nil, ↓wp_cons, ↓we_comp, ↓we_compD, ↓we_comp2, ↓we_sset, ↓we_lset, ↓we_rev, ↓rv_l, ↓rv_t, ↓f_zip, ↓iq_nil, ↓iq_cons, ↓get_0, ↓set_0, ↓slot_0, ↓fz_0, ↓get_1, ↓set_1, ↓slot_1, ↓fz_1, ↓get_2, ↓set_2, ↓slot_2, ↓fz_2, ↓get_3, ↓set_3, ↓slot_3, ↓fz_3, ↓get_4, ↓set_4, ↓slot_4, ↓fz_4, ↓get_5, ↓set_5, ↓slot_5, ↓fz_5, ↓get_6, ↓set_6, ↓slot_6, ↓fz_6, ↓get_7, ↓set_7, ↓slot_7, ↓fz_7, ↓get_8, ↓set_8, ↓slot_8, ↓fz_8, ↓get_9, ↓set_9, ↓slot_9, ↓fz_9, ↓get_10, ↓set_10, ↓slot_10, ↓fz_10, ↓get_11, ↓set_11, ↓slot_11, ↓fz_11, ↓get_12, ↓set_12, ↓slot_12, ↓fz_12, ↓get_13, ↓set_13, ↓slot_13, ↓fz_13, ↓get_14, ↓set_14, ↓slot_14, ↓fz_14, ↓get_15, ↓set_15, ↓slot_15, ↓fz_15, ↓get_16, ↓set_16, ↓slot_16, ↓fz_16, ↓get_17, ↓set_17, ↓slot_17, ↓fz_17, ↓get_18, ↓set_18, ↓slot_18, ↓fz_18, ↓get_19, ↓set_19, ↓slot_19, ↓fz_19, ↓get_20, ↓set_20, ↓slot_20, ↓fz_20, ↓get_21, ↓set_21, ↓slot_21, ↓fz_21, ↓get_22, ↓set_22, ↓slot_22, ↓fz_22, ↓get_23, ↓set_23, ↓slot_23, ↓fz_23, ↓get_24, ↓set_24, ↓slot_24, ↓fz_24, ↓get_25, ↓set_25, ↓slot_25, ↓fz_25, ↓f_sub, ↓f_lt, ↓f_le, ↓f_gt, ↓f_ge, ↓f_add, ↓f_mod, ↓f_fdiv, ↓f_mulL, ↓f_mulR, ↓f_neg, ↓f_abs, ↓f_intI, ↓f_intB, ↓f_lenL, ↓f_lenT, ↓f_tupL, ↓f_tupT, ↓f_lisL, ↓f_lisT, ↓f_isB, ↓f_isNotB, ↓f_isN, ↓f_isNotN, ↓f_all, ↓f_any, ↓f_sum, ↓f_isi_int_int, ↓f_isi_int_bool, ↓f_isi_int_tuple, ↓f_isi_int_str, ↓f_isi_int_list, ↓f_isi_bool_int, ↓f_isi_bool_bool, ↓f_isi_bool_tuple, ↓f_isi_bool_str, ↓f_isi_bool_list, ↓f_isi_tuple_int, ↓f_isi_tuple_bool, ↓f_isi_tuple_tuple, ↓f_isi_tuple_str, ↓f_isi_tuple_list, ↓f_isi_str_int, ↓f_isi_str_bool, ↓f_isi_str_tuple, ↓f_isi_str_str, ↓f_isi_str_list, ↓f_isi_list_int, ↓f_isi_list_bool, ↓f_isi_list_tuple, ↓f_isi_list_str, ↓f_isi_list_list, ↓h_pop, ↓h_pop0, ↓f_rngI, ↓f_ixl0, ↓f_ixl1, ↓f_ixl2, ↓f_ixl3, ↓f_ixl4, ↓f_ixl5, ↓f_ixt0, ↓f_ixt1, ↓f_ixt2, ↓f_ixt3, ↓f_ixt4, ↓f_ixt5, ↓f_sd0, ↓f_sd1, ↓f_sd2, ↓f_sd3, ↓f_sd4, ↓f_sd5, nd_none, nd_bool, nd_int, nd_str, nd_list, nd_tuple, h, h2, k1, k2, k3]
        exact fin _ ⟨sc, a + 1, b, c + 1⟩
    · have hl1 : ¬ (0 : Int) < (sc.length : Nat) := by omega
      have hy : ¬ (1000000000000000000 : Int) ≤ 0 := by omega
      simp only [decide_eq_false hl1, eq_self, Int.reduceLT, Int.reduceLE, Nat.reduceLT, Nat.reduceLeDiff, Int.reduceToNat, Int.toNat_natCast, ↓ws_seq, ↓sq_nx, ↓sq_rt, ↓sq_rf, ↓sq_bk, ↓sq_ct, ↓lq_nx, ↓lq_ct, ↓lq_bk, ↓lq_rt, ↓lq_rf, ↓ou_nx, ↓ou_rt, ↓ou_rf, ↓ws_next, ↓ws_break, ↓ws_cont, ↓ws_retNone, ↓ws_drop, ↓ws_ret, ↓ws_retF, ↓ws_set, ↓ws_setF, ↓rn_st, ↓rn_ow, ↓ws_retN, ↓sn_st, ↓sn_ow, ↓ws_setN, ↓ite_t, ↓ite_f, ↓ws_if, ↓ws_asg, ↓ws_store, ↓ws_aug, ↓ws_for, ↓ws_while, ↓we_c, ↓we_n, ↓we_op, ↓we_int, ↓wv_nil, ↓wv_ex, ↓wv_nm, ↓re_nil, ↓re_ex, ↓re_nm, ↓st_st, ↓ow_ow, ↓lk_st, ↓lk_ow, ↓bo_bo, ↓in_in, ↓wt_test, ↓wt_tru, ↓tr_bo, ↓tr_in, ↓tr_li, ↓tr_tu, ↓tr_no, ↓wt_not, ↓wt_and, ↓wt_or, ↓we_and, ↓we_or, ↓we_not, ↓we_if, ↓di_nil, ↓di_1, ↓di_2, ↓di_3, ↓di_4, ↓di_5, ↓di_6, ↓di_7, ↓di_8, ↓di_9, ↓di_10, ↓di_11, ↓di_12, ↓we_tup, ↓we_lst, ↓wm_nil, ↓wm_cons, ↓wa_nil, ↓wa_ex, ↓wa_st, ↓wa_io, ↓fz_nil, ↓fz_ex, ↓fz_io, ↓fy_st, ↓fy_ow, ↓ar_nil, ↓ar_ex, ↓ar_st, ↓ar_io, ↓pu_nil, ↓pu_cons, ↓we_call, ij_nil, ij_ex, ij_st, ij_io, ↓wg_nm, ↓wg_tu, ↓wg_tl, ↓wgs_nil, ↓wgs_cons, ↓we_methS', ↓ls_li, ↓we_meth, ↓we_chain, ↓we_rg1, ↓we_dict0, ↓we_get, ↓isd_d, ↓we_get2, ↓ws_put, ↓we_val, ↓wi_seq, ↓wi_rng, ↓wi_enum, ↓fq_seqL, ↓fq_seqT, ↓wt_yes, ↓rs_nil, ↓rs_cons, ↓wp_nil, ↓wp_cons, ↓we_comp, ↓we_compD, ↓we_comp2, ↓we_sset, ↓we_lset, ↓we_rev, ↓rv_l, ↓rv_t, ↓f_zip, ↓iq_nil, ↓iq_cons, ↓get_0, ↓set_0, ↓slot_0, ↓fz_0, ↓get_1, ↓set_1, ↓slot_1, ↓fz_1, ↓get_2, ↓set_2, ↓slot_2, ↓fz_2, ↓get_3, ↓set_3, ↓slot_3, ↓fz_3, ↓get_4, ↓set_4, ↓slot_4, ↓fz_4, ↓get_5, ↓set_5, ↓slot_5, ↓fz_5, ↓get_6, ↓set_6, ↓slot_6, ↓fz_6, ↓get_7, ↓set_7, ↓slot_7, ↓fz_7, ↓get_8, ↓set_8, ↓slot_8, ↓fz_8, ↓get_9, ↓set_9, ↓slot_9, ↓fz_9, ↓get_10, ↓set_10, ↓slot_10, ↓fz_10, ↓get_11, ↓set_11, ↓slot_11, ↓fz_11, ↓get_12, ↓set_12, ↓slot_12, ↓fz_12, ↓get_13, ↓set_13, ↓slot_13, ↓fz_13, ↓get_14, ↓set_14, ↓slot_14, ↓fz_14, ↓get_15, ↓set_15, ↓slot_15, ↓fz_15, ↓get_16, ↓set_16, ↓slot_16, ↓fz_16, ↓get_17, ↓set_17, ↓slot_17, ↓fz_17, ↓get_18, ↓set_18, ↓slot_18, ↓fz_18, ↓get_19, ↓set_19, ↓slot_19, ↓fz_19, ↓get_20, ↓set_20, ↓slot_20, ↓fz_20, ↓get_21, ↓set_21, ↓slot_21, ↓fz_21, ↓get_22, ↓set_22, ↓slot_22, ↓fz_22, ↓get_23, ↓set_23, ↓slot_23, ↓fz_23, ↓get_24, ↓set_24, ↓slot_24, ↓fz_24, ↓get_25, ↓set_25, ↓slot_25, ↓fz_25, ↓f_sub, ↓f_lt, ↓f_le, ↓f_gt, ↓f_ge, ↓f_add, ↓f_mod, ↓f_fdiv, ↓f_mulL, ↓f_mulR, ↓f_neg, ↓f_abs, ↓f_intI, ↓f_intB, ↓f_lenL, ↓f_lenT, ↓f_tupL, ↓f_tupT, ↓f_lisL, ↓f_lisT, ↓f_isB, ↓f_isNotB, ↓f_isN, ↓f_isNotN, ↓f_all, ↓f_any, ↓f_sum, ↓f_isi_int_int, ↓f_isi_int_bool, ↓f_isi_int_tuple, ↓f_isi_int_str, ↓f_isi_int_list, ↓f_isi_bool_int, ↓f_isi_bool_bool, ↓f_isi_bool_tuple, ↓f_isi_bool_str, ↓f_isi_bool_list, ↓f_isi_tuple_int, ↓f_isi_tuple_bool, ↓f_isi_tuple_tuple, ↓f_isi_tuple_str, ↓f_isi_tuple_list, ↓f_isi_str_int, ↓f_isi_str_bool, ↓f_isi_str_tuple, ↓f_isi_str_str, ↓f_isi_str_list, ↓f_isi_list_int, ↓f_isi_list_bool, ↓f_isi_list_tuple, ↓f_isi_list_str, ↓f_isi_list_list, ↓h_pop, ↓h_pop0, ↓f_rngI, ↓f_ixl0, ↓f_ixl1, ↓f_ixl2, ↓f_ixl3, ↓f_ixl4, ↓f_ixl5, ↓f_ixt0, ↓f_ixt1, ↓f_ixt2, ↓f_ixt3, ↓f_ixt4, ↓f_ixt5, ↓f_sd0, ↓f_sd1, ↓f_sd2, ↓f_sd3, ↓f_sd4, ↓f_sd5, nd_none, nd_bool, nd_int, nd_str, nd_list, nd_tuple, h, h2, ↓pow18, decide_eq_false hy, k1, k2, k3]
      exact fin _ ⟨sc, a + 1, b, c + 1⟩
/-- what a draw gives, and what it leaves -/
theorem draw_all : ∃ f : DS → Nat → Nat × DS, ∀ (s : DS) (n : Nat), 0 < n → n < 1073741824 → F_draw [dsD s, .int (n : Int)] = some (.int ((f s n).1 : Nat), [dsD (f s n).2]) ∧ (f s n).1 < n := by
  have h : ∀ p : DS × Nat, ∃ r : Nat × DS, 0 < p.2 → p.2 < 1073741824 → F_draw [dsD p.1, .int (p.2 : Int)] = some (.int (r.1 : Nat), [dsD r.2]) ∧ r.1 < p.2 := fun p => by
    by_cases hp : 0 < p.2 ∧ p.2 < 1073741824
    · obtain ⟨v, s', h1, h2⟩ := draw_ex p.1 p.2 (by omega) (by omega)
      exact ⟨(v, s'), fun _ _ => ⟨h1, by show v < p.2; omega⟩⟩
    · exact ⟨(0, p.1), fun a b => absurd ⟨a, b⟩ hp⟩
  exact ⟨fun s n => Classical.choose (h (s, n)), fun s n a b => Classical.choose_spec (h (s, n)) a b⟩
noncomputable def drawP : DS → Nat → Nat × DS := Classical.choose draw_all
noncomputable def dv (s : DS) (n : Nat) : Nat := (drawP s n).1
noncomputable def dn (s : DS) (n : Nat) : DS := (drawP s n).2
theorem draw_spec (s : DS) (n : Nat) (h : 0 < n) (h2 : n < 1073741824) : F_draw [dsD s, .int (n : Int)] = some (.int (dv s n : Nat), [dsD (dn s n)]) ∧ dv s n < n := Classical.choose_spec draw_all s n h h2
theorem dv_lt {s : DS} {n : Nat} (h : 0 < n) (h2 : n < 1073741824) : dv s n < n := (draw_spec s n h h2).2
theorem wf_draw {s : DS} {n : Nat} {R : D → List D → Prop} (h : 0 < n) (h2 : n < 1073741824) : @WF F_draw [dsD s, .int (n : Int)] R = R (.int (dv s n : Nat)) [dsD (dn s n)] := WF.of (draw_spec s n h h2).1
theorem wf_drawI {s : DS} {n : Int} {R : D → List D → Prop} (h : 0 < n) (h2 : n < 1073741824) : @WF F_draw [dsD s, .int n] R = R (.int (dv s n.toNat : Nat)) [dsD (dn s n.toNat)] := by
  obtain ⟨m, rfl⟩ := Int.eq_ofNat_of_zero_le (Int.le_of_lt h)
  exact wf_draw (by omega) (by omega)
theorem nd_ds {s : DS} : noDict (dsD s) = true := of_eq_true (eq_true rfl)
def F_start : List D → Option (D × List D) := runF (1 : Nat) 1 [] true (mRetF (mLst [(mOp listD [(.nm 0)]), (mC (.int 0)), (mC (.int 0)), (mC (.int 0))]))
theorem wf_start {ns : List Int} {R : D → List D → Prop} : @WF F_start [.list (ns.map .int)] R = R (dsD ⟨ns, 0, 0, 0⟩) [] := by
  refine (wf_run (np := 1) rfl).trans ?_
  show @WS _ [some (.st (.list (ns.map .int)))] (fun _ => _) = _
  simp only [eq_self, Int.reduceLT, Int.reduceLE, Nat.reduceLT, Nat.reduceLeDiff, Int.reduceToNat, Int.toNat_natCast, ↓ws_seq, ↓sq_nx, ↓sq_rt, ↓sq_rf, ↓sq_bk, ↓sq_ct, ↓lq_nx, ↓lq_ct, ↓lq_bk, ↓lq_rt, ↓lq_rf, ↓ou_nx, ↓ou_rt, ↓ou_rf, ↓ws_next, ↓ws_break, ↓ws_cont, ↓ws_retNone, ↓ws_drop, ↓ws_ret, ↓ws_retF, ↓ws_set, ↓ws_setF, ↓rn_st, ↓rn_ow, ↓ws_retN, ↓sn_st, ↓sn_ow, ↓ws_setN, ↓ite_t, ↓ite_f, ↓ws_if, ↓ws_asg, ↓ws_store, ↓ws_aug, ↓ws_for, ↓ws_while, ↓we_c, ↓we_n, ↓we_op, ↓we_int, ↓wv_nil, ↓wv_ex, ↓wv_nm, ↓re_nil, ↓re_ex, ↓re_nm, ↓st_st, ↓ow_ow, ↓lk_st, ↓lk_ow, ↓bo_bo, ↓in_in, ↓wt_test, ↓wt_tru, ↓tr_bo, ↓tr_in, ↓tr_li, ↓tr_tu, ↓tr_no, ↓wt_not, ↓wt_and, ↓wt_or, ↓we_and, ↓we_or, ↓we_not, ↓we_if, ↓di_nil, ↓di_1, ↓di_2, ↓di_3, ↓di_4, ↓di_5, ↓di_6, ↓di_7, ↓di_8, ↓di_9, ↓di_10, ↓di_11, ↓di_12, ↓we_tup, ↓we_lst, ↓wm_nil, ↓wm_cons, ↓wa_nil, ↓wa_ex, ↓wa_st, ↓wa_io, ↓fz_nil, ↓fz_ex, ↓fz_io, ↓fy_st, ↓fy_ow, ↓ar_nil, ↓ar_ex, ↓ar_st, ↓ar_io, ↓pu_nil, ↓pu_cons, ↓we_call, ij_nil, ij_ex, ij_st, ij_io, ↓wg_nm, ↓wg_tu, ↓wg_tl, ↓wgs_nil, ↓wgs_cons, ↓we_methS', ↓ls_li, ↓we_meth, ↓we_chain, ↓we_rg1, ↓we_dict0, ↓we_get, ↓isd_d, ↓we_get2, ↓ws_put, ↓we_val, ↓wi_seq, ↓wi_rng, ↓wi_enum, ↓fq_seqL, ↓fq_seqT, ↓wt_yes, ↓rs_nil, ↓rs_cons, ↓wp_nil, ↓wp_cons, ↓we_comp, ↓we_compD, ↓we_comp2, ↓we_sset, ↓we_lset, ↓we_rev, ↓rv_l, ↓rv_t, ↓f_zip, ↓iq_nil, ↓iq_cons, ↓get_0, ↓set_0, ↓slot_0, ↓fz_0, ↓get_1, ↓set_1, ↓slot_1, ↓fz_1, ↓get_2, ↓set_2, ↓slot_2, ↓fz_2, ↓get_3, ↓set_3, ↓slot_3, ↓fz_3, ↓get_4, ↓set_4, ↓slot_4, ↓fz_4, ↓get_5, ↓set_5, ↓slot_5, ↓fz_5, ↓get_6, ↓set_6, ↓slot_6, ↓fz_6, ↓get_7, ↓set_7, ↓slot_7, ↓fz_7, ↓get_8, ↓set_8, ↓slot_8, ↓fz_8, ↓get_9, ↓set_9, ↓slot_9, ↓fz_9, ↓get_10, ↓set_10, ↓slot_10, ↓fz_10, ↓get_11, ↓set_11, ↓slot_11, ↓fz_11, ↓get_12, ↓set_12, ↓slot_12, ↓fz_12, ↓get_13, ↓set_13, ↓slot_13, ↓fz_13, ↓get_14, ↓set_14, ↓slot_14, ↓fz_14, ↓get_15, ↓set_15, ↓slot_15, ↓fz_15, ↓get_16, ↓set_16, ↓slot_16, ↓fz_16, ↓get_17, ↓set_17, ↓slot_17, ↓fz_17, ↓get_18, ↓set_18, ↓slot_18, ↓fz_18, ↓get_19, ↓set_19, ↓slot_19, ↓fz_19, ↓get_20, ↓set_20, ↓slot_20, ↓fz_20, ↓get_21, ↓set_21, ↓slot_21, ↓fz_21, ↓get_22, ↓set_22, ↓slot_22, ↓fz_22, ↓get_23, ↓set_23, ↓slot_23, ↓fz_23, ↓get_24, ↓set_24, ↓slot_24, ↓fz_24, ↓get_25, ↓set_25, ↓slot_25, ↓fz_25, ↓f_sub, ↓f_lt, ↓f_le, ↓f_gt, ↓f_ge, ↓f_add, ↓f_mod, ↓f_fdiv, ↓f_mulL, ↓f_mulR, ↓f_neg, ↓f_abs, ↓f_intI, ↓f_intB, ↓f_lenL, ↓f_lenT, ↓f_tupL, ↓f_tupT, ↓f_lisL, ↓f_lisT, ↓f_isB, ↓f_isNotB, ↓f_isN, ↓f_isNotN, ↓f_all, ↓f_any, ↓f_sum, ↓f_isi_int_int, ↓f_isi_int_bool, ↓f_isi_int_tuple, ↓f_isi_int_str, ↓f_isi_int_list, ↓f_isi_bool_int, ↓f_isi_bool_bool, ↓f_isi_bool_tuple, ↓f_isi_bool_str, ↓f_isi_bool_list, ↓f_isi_tuple_int, ↓f_isi_tuple_bool, ↓f_isi_tuple_tuple, ↓f_isi_tuple_str, ↓f_isi_tuple_list, ↓f_isi_str_int, ↓f_isi_str_bool, ↓f_isi_str_tuple, ↓f_isi_str_str, ↓f_isi_str_list, ↓f_isi_list_int, ↓f_isi_list_bool, ↓f_isi_list_tuple, ↓f_isi_list_str, ↓f_isi_list_list, ↓h_pop, ↓h_pop0, ↓f_rngI, ↓f_ixl0, ↓f_ixl1, ↓f_ixl2, ↓f_ixl3, ↓f_ixl4, ↓f_ixl5, ↓f_ixt0, ↓f_ixt1, ↓f_ixt2, ↓f_ixt3, ↓f_ixt4, ↓f_ixt5, ↓f_sd0, ↓f_sd1, ↓f_sd2, ↓f_sd3, ↓f_sd4, ↓f_sd5, nd_none, nd_bool, nd_int, nd_str, nd_list, nd_tuple]
  rfl

end VS

set_option Elab.async false
set_option linter.all false
set_option maxRecDepth 100000
/-! what the defs that the laws share do -/
namespace VK
open PySem PySem.Spec PyProof.Rows L2 VS
noncomputable section
def b1_heard : MS :=
    (mSeq (mAsg (.tu [5, 1]) (mOp ixD [(.ex (mOp ixD [(.nm 0), (.nm 1)])), (.nm 4)]))
    (mDrop (mMethS "list" 3 appendD [(mN 5)])))
def m_heard : MS :=
    (mSeq (mSetF 3 (mLst []))
    (mSeq (mFor (.nm 4) (mSeqI (.st 2)) b1_heard)
    (mRet (mTup [(mOp tupleD [(.nm 3)]), (mN 1)]))))
theorem ex_heard : ∃ f : List D → Option (D × List D), f = runF (6 : Nat) 3 [] false m_heard := ⟨_, rfl⟩
noncomputable def F_heard : List D → Option (D × List D) := Classical.choose ex_heard
theorem def_heard : F_heard = runF (6 : Nat) 3 [] false m_heard := Classical.choose_spec ex_heard
theorem run_heard {a0 a1 a2 : D} {R : D → List D → Prop} : @WF F_heard [a0, a1, a2] R = @WS m_heard [some (.st a0), some (.st a1), some (.st a2), none, none, none] (outQ [] false R) := by
  rw [def_heard]
  exact wf_run rfl
def b1_row_apart : MS :=
    (mSeq (mSet 11 (mOp ixD [(.ex (mOp ixD [(.nm 2), (.nm 7)])), (.nm 9)]))
    (mSeq (mIfS (mTest (mOp neD [(.ex (mOp ixD [(.nm 10), (.ex (mC (.int 0)))])), (.ex (mOp ixD [(.nm 11), (.ex (mC (.int 0)))]))]))
    (mRet (mTup [(mOp addD [(.nm 8), (.ex (mTup [(mN 9)]))])]))
    mNext)
    (mIfS (mTest (mOp notInD [(.ex (mTup [(mOp ixD [(.nm 10), (.ex (mC (.int 1)))]), (mOp ixD [(.nm 11), (.ex (mC (.int 1)))])])), (.nm 4)]))
    (mSeq (mDrop (mMethS "list" 4 appendD [(mTup [(mOp ixD [(.nm 10), (.ex (mC (.int 1)))]), (mOp ixD [(.nm 11), (.ex (mC (.int 1)))])])]))
    (mDrop (mMethS "list" 5 appendD [(mTup [(mOp ixD [(.nm 10), (.ex (mC (.int 1)))]), (mOp ixD [(.nm 11), (.ex (mC (.int 1)))]), (mOp addD [(.nm 8), (.ex (mTup [(mN 9)]))])])])))
    mNext)))
def b2_row_apart : MS :=
    (mSeq (mAsg (.tu [6, 7, 8]) (mMethS "list" 5 popAtD [(mC (.int 0))]))
    (mFor (.tu [9, 10]) (mEnum (.ex (mOp ixD [(.nm 0), (.nm 6)]))) b1_row_apart))
def m_row_apart : MS :=
    (mSeq (mSetF 4 (mLst [(mTup [(mN 1), (mN 3)])]))
    (mSeq (mSetF 5 (mLst [(mTup [(mN 1), (mN 3), (mTup [])])]))
    (mSeq (whileN (mTru (.nm 5)) b2_row_apart FUEL)
    (mRet (mTup [])))))
theorem ex_row_apart : ∃ f : List D → Option (D × List D), f = runF (12 : Nat) 4 [] false m_row_apart := ⟨_, rfl⟩
noncomputable def F_row_apart : List D → Option (D × List D) := Classical.choose ex_row_apart
theorem def_row_apart : F_row_apart = runF (12 : Nat) 4 [] false m_row_apart := Classical.choose_spec ex_row_apart
theorem run_row_apart {a0 a1 a2 a3 : D} {R : D → List D → Prop} : @WF F_row_apart [a0, a1, a2, a3] R = @WS m_row_apart [some (.st a0), some (.st a1), some (.st a2), some (.st a3), none, none, none, none, none, none, none, none] (outQ [] false R) := by
  rw [def_row_apart]
  exact wf_run rfl
def m_law_start : MS :=
    (mRetF (mLst [(mOp listD [(.nm 0)]), (mC (.int 0)), (mC (.int 0)), (mC (.int 0))]))
theorem ex_law_start : ∃ f : List D → Option (D × List D), f = runF (1 : Nat) 1 [] true m_law_start := ⟨_, rfl⟩
noncomputable def F_law_start : List D → Option (D × List D) := Classical.choose ex_law_start
theorem def_law_start : F_law_start = runF (1 : Nat) 1 [] true m_law_start := Classical.choose_spec ex_law_start
theorem run_law_start {a0 : D} {R : D → List D → Prop} : @WF F_law_start [a0] R = @WS m_law_start [some (.st a0)] (outQ [] true R) := by
  rw [def_law_start]
  exact wf_run rfl
def m_law_draw : MS :=
    (mSeq (mStore 0 (mC (.int 3)) (mOp addD [(.ex (mOp ixD [(.nm 0), (.ex (mC (.int 3)))])), (.ex (mC (.int 1)))]))
    (mSeq (mIfS (mTest (mOp gtI [(.ex (mOp ixD [(.nm 0), (.ex (mC (.int 2)))])), (.ex (mC (.int 0)))]))
    (mSeq (mSet 2 (mOp modD [(.ex (mOp intD [(.ex (mOp ixD [(.nm 0), (.ex (mC (.int 2)))]))])), (.nm 1)]))
    (mSeq (mStore 0 (mC (.int 2)) (mOp fdivD [(.ex (mOp ixD [(.nm 0), (.ex (mC (.int 2)))])), (.nm 1)]))
    (mRetN 2)))
    mNext)
    (mSeq (mSet 3 (mC (.int 0)))
    (mSeq (mIfS (mTest (mOp gtI [(.ex (mOp lenD [(.ex (mOp ixD [(.nm 0), (.ex (mC (.int 0)))]))])), (.ex (mC (.int 0)))]))
    (mSet 3 (mOp absD [(.ex (mOp ixD [(.ex (mOp ixD [(.nm 0), (.ex (mC (.int 0)))])), (.ex (mOp modD [(.ex (mOp intD [(.ex (mOp ixD [(.nm 0), (.ex (mC (.int 1)))]))])), (.ex (mOp lenD [(.ex (mOp ixD [(.nm 0), (.ex (mC (.int 0)))]))]))]))]))]))
    mNext)
    (mSeq (mStore 0 (mC (.int 1)) (mOp addD [(.ex (mOp ixD [(.nm 0), (.ex (mC (.int 1)))])), (.ex (mC (.int 1)))]))
    (mSeq (mIfS (mTest (mOp geI [(.nm 3), (.ex (mOp powD [(.ex (mC (.int 10))), (.ex (mC (.int 18)))]))]))
    (mSeq (mStore 0 (mC (.int 2)) (mOp fdivD [(.nm 3), (.nm 1)]))
    (mRet (mOp modD [(.ex (mOp intD [(.nm 3)])), (.nm 1)])))
    mNext)
    (mSeq (mSet 4 (mOp modD [(.ex (mOp intD [(.ex (mOp addD [(.ex (mOp mulD [(.ex (mOp addD [(.nm 3), (.ex (mC (.int 1)))])), (.ex (mC (.int 48271)))])), (.ex (mOp mulD [(.ex (mOp ixD [(.nm 0), (.ex (mC (.int 3)))])), (.ex (mC (.int 69621)))]))]))])), (.ex (mC (.int 2147483647)))]))
    (mSeq (mSet 4 (mOp modD [(.ex (mOp intD [(.ex (mOp addD [(.ex (mOp addD [(.ex (mOp mulD [(.nm 4), (.ex (mC (.int 16807)))])), (.ex (mOp fdivD [(.nm 3), (.ex (mC (.int 97)))]))])), (.ex (mOp ixD [(.nm 0), (.ex (mC (.int 3)))]))]))])), (.ex (mC (.int 2147483629)))]))
    (mRet (mOp modD [(.ex (mOp fdivD [(.nm 4), (.ex (mC (.int 11)))])), (.nm 1)]))))))))))
theorem ex_law_draw : ∃ f : List D → Option (D × List D), f = runF (5 : Nat) 2 [0] false m_law_draw := ⟨_, rfl⟩
noncomputable def F_law_draw : List D → Option (D × List D) := Classical.choose ex_law_draw
theorem def_law_draw : F_law_draw = runF (5 : Nat) 2 [0] false m_law_draw := Classical.choose_spec ex_law_draw
theorem run_law_draw {a0 a1 : D} {R : D → List D → Prop} : @WF F_law_draw [a0, a1] R = @WS m_law_draw [some (.ow a0), some (.st a1), none, none, none] (outQ [0] false R) := by
  rw [def_law_draw]
  exact wf_run rfl
def m_law_is_int : MS :=
    (mRet (mAndV (mOp (isiD "int") [(.nm 0)]) (mNotV (mOp (isiD "bool") [(.nm 0)]))))
theorem ex_law_is_int : ∃ f : List D → Option (D × List D), f = runF (1 : Nat) 1 [] false m_law_is_int := ⟨_, rfl⟩
noncomputable def F_law_is_int : List D → Option (D × List D) := Classical.choose ex_law_is_int
theorem def_law_is_int : F_law_is_int = runF (1 : Nat) 1 [] false m_law_is_int := Classical.choose_spec ex_law_is_int
theorem run_law_is_int {a0 : D} {R : D → List D → Prop} : @WF F_law_is_int [a0] R = @WS m_law_is_int [some (.st a0)] (outQ [] false R) := by
  rw [def_law_is_int]
  exact wf_run rfl
def m_law_same (r : List D → Option (D × List D)) : MS :=
    (mSeq (mIfS (mTest (mOp (isiD "tuple") [(.nm 1)]))
    (mSeq (mIfS (mOr (mNot (mTest (mOp (isiD "tuple") [(.nm 0)]))) (mTest (mOp neD [(.ex (mOp lenD [(.nm 0)])), (.ex (mOp lenD [(.nm 1)]))])))
    (mRet (mC (.bool false)))
    mNext)
    (mRet (mOp allD [(.ex (mComp [2] (.nm 2) (mRng rng1F [(.ex (mOp lenD [(.nm 1)]))]) mYes (mCall r [.ex (mOp ixD [(.nm 0), (.nm 2)]), .ex (mOp ixD [(.nm 1), (.nm 2)])])))])))
    mNext)
    (mSeq (mIfS (mTest (mOp (isiD "str") [(.nm 1)]))
    (mRet (mAndV (mOp (isiD "str") [(.nm 0)]) (mOp eqD [(.nm 0), (.nm 1)])))
    mNext)
    (mRet (mAndV (mCall F_law_is_int [.st 0]) (mOp eqD [(.nm 0), (.nm 1)])))))
def G_law_same : Nat → List D → Option (D × List D)
  | 0 => fun _ => none
  | n + 1 => runF (3 : Nat) 2 [] false (m_law_same (G_law_same n))
theorem ex_law_same : ∃ f : Nat → List D → Option (D × List D), f = G_law_same := ⟨_, rfl⟩
noncomputable def F_law_same : Nat → List D → Option (D × List D) := Classical.choose ex_law_same
theorem def_law_same {n : Nat} : F_law_same (n + 1) = runF (3 : Nat) 2 [] false (m_law_same (F_law_same n)) := by
  rw [show F_law_same = G_law_same from Classical.choose_spec ex_law_same]
  rfl
theorem def0_law_same : F_law_same 0 = fun _ => none := by
  rw [show F_law_same = G_law_same from Classical.choose_spec ex_law_same]
  rfl
theorem run_law_same {n : Nat} {a0 a1 : D} {R : D → List D → Prop} : @WF (F_law_same (n + 1)) [a0, a1] R = @WS (m_law_same (F_law_same n)) [some (.st a0), some (.st a1), none] (outQ [] false R) := by
  rw [def_law_same]
  exact wf_run rfl
def b1_law_machine : MS :=
    (mSeq (mSet 8 (mOp tupleD [(.ex (mComp [10] (.nm 10) (mRng rng1F [(.nm 7)]) mYes (mCall F_law_draw [.io 0, .ex (mC (.int 2))])))]))
    (mDrop (mMethS "list" 6 appendD [(mTup [(mN 8), (mCall F_law_draw [.io 0, .st 1])])])))
def b2_law_machine : MS :=
    (mSeq (mSetF 6 (mLst []))
    (mSeq (mFor (.nm 7) (mSeqI (.st 3)) b1_law_machine)
    (mDrop (mMethS "list" 4 appendD [(mOp tupleD [(.nm 6)])]))))
def m_law_machine : MS :=
    (mSeq (mSetF 3 (mComp [9] (.nm 9) (mRng rng1F [(.nm 2)]) mYes (mCall F_law_draw [.io 0, .ex (mC (.int 3))])))
    (mSeq (mSetF 4 (mLst []))
    (mSeq (mFor (.nm 5) (mRng rng1F [(.nm 1)]) b2_law_machine)
    (mRet (mOp tupleD [(.nm 4)])))))
theorem ex_law_machine : ∃ f : List D → Option (D × List D), f = runF (11 : Nat) 3 [0] false m_law_machine := ⟨_, rfl⟩
noncomputable def F_law_machine : List D → Option (D × List D) := Classical.choose ex_law_machine
theorem def_law_machine : F_law_machine = runF (11 : Nat) 3 [0] false m_law_machine := Classical.choose_spec ex_law_machine
theorem run_law_machine {a0 a1 a2 : D} {R : D → List D → Prop} : @WF F_law_machine [a0, a1, a2] R = @WS m_law_machine [some (.ow a0), some (.st a1), some (.st a2), none, none, none, none, none, none, none, none] (outQ [0] false R) := by
  rw [def_law_machine]
  exact wf_run rfl
def b1_law_heard : MS :=
    (mSeq (mAsg (.tu [5, 1]) (mOp ixD [(.ex (mOp ixD [(.nm 0), (.nm 1)])), (.nm 4)]))
    (mSet 3 (mOp addD [(.nm 3), (.ex (mTup [(mN 5)]))])))
def m_law_heard : MS :=
    (mSeq (mSet 3 (mTup []))
    (mSeq (mFor (.nm 4) (mSeqI (.st 2)) b1_law_heard)
    (mRet (mTup [(mN 3), (mN 1)]))))
theorem ex_law_heard : ∃ f : List D → Option (D × List D), f = runF (6 : Nat) 3 [] false m_law_heard := ⟨_, rfl⟩
noncomputable def F_law_heard : List D → Option (D × List D) := Classical.choose ex_law_heard
theorem def_law_heard : F_law_heard = runF (6 : Nat) 3 [] false m_law_heard := Classical.choose_spec ex_law_heard
theorem run_law_heard {a0 a1 a2 : D} {R : D → List D → Prop} : @WF F_law_heard [a0, a1, a2] R = @WS m_law_heard [some (.st a0), some (.st a1), some (.st a2), none, none, none] (outQ [] false R) := by
  rw [def_law_heard]
  exact wf_run rfl
def b1_law_row_apart : MS :=
    (mSeq (mIfS (mTest (mOp neD [(.ex (mOp ixD [(.ex (mOp ixD [(.ex (mOp ixD [(.nm 0), (.nm 7)])), (.nm 10)])), (.ex (mC (.int 0)))])), (.ex (mOp ixD [(.ex (mOp ixD [(.ex (mOp ixD [(.nm 2), (.nm 8)])), (.nm 10)])), (.ex (mC (.int 0)))]))]))
    (mRet (mTup [(mOp addD [(.nm 9), (.ex (mTup [(mN 10)]))])]))
    mNext)
    (mSeq (mSet 11 (mTup [(mOp ixD [(.ex (mOp ixD [(.ex (mOp ixD [(.nm 0), (.nm 7)])), (.nm 10)])), (.ex (mC (.int 1)))]), (mOp ixD [(.ex (mOp ixD [(.ex (mOp ixD [(.nm 2), (.nm 8)])), (.nm 10)])), (.ex (mC (.int 1)))])]))
    (mIfS (mTest (mOp notInD [(.nm 11), (.nm 5)]))
    (mSeq (mDrop (mMethS "list" 5 appendD [(mN 11)]))
    (mDrop (mMethS "list" 4 appendD [(mOp addD [(.nm 11), (.ex (mTup [(mOp addD [(.nm 9), (.ex (mTup [(mN 10)]))])]))])])))
    mNext)))
def b2_law_row_apart : MS :=
    (mIfS (mTest (mOp ltI [(.nm 6), (.ex (mOp lenD [(.nm 4)]))]))
    (mSeq (mAsg (.tu [7, 8, 9]) (mOp ixD [(.nm 4), (.nm 6)]))
    (mFor (.nm 10) (mRng rng1F [(.ex (mOp lenD [(.ex (mOp ixD [(.nm 0), (.nm 7)]))]))]) b1_law_row_apart))
    mNext)
def m_law_row_apart : MS :=
    (mSeq (mSetF 4 (mLst [(mTup [(mN 1), (mN 3), (mTup [])])]))
    (mSeq (mSetF 5 (mLst [(mTup [(mN 1), (mN 3)])]))
    (mSeq (mFor (.nm 6) (mRng rng1F [(.ex (mOp mulD [(.ex (mOp lenD [(.nm 0)])), (.ex (mOp lenD [(.nm 2)]))]))]) b2_law_row_apart)
    (mRet (mTup [])))))
theorem ex_law_row_apart : ∃ f : List D → Option (D × List D), f = runF (12 : Nat) 4 [] false m_law_row_apart := ⟨_, rfl⟩
noncomputable def F_law_row_apart : List D → Option (D × List D) := Classical.choose ex_law_row_apart
theorem def_law_row_apart : F_law_row_apart = runF (12 : Nat) 4 [] false m_law_row_apart := Classical.choose_spec ex_law_row_apart
theorem run_law_row_apart {a0 a1 a2 a3 : D} {R : D → List D → Prop} : @WF F_law_row_apart [a0, a1, a2, a3] R = @WS m_law_row_apart [some (.st a0), some (.st a1), some (.st a2), some (.st a3), none, none, none, none, none, none, none, none] (outQ [] false R) := by
  rw [def_law_row_apart]
  exact wf_run rfl
end
end VK

set_option Elab.async false
set_option linter.all false
set_option maxRecDepth 100000
/-! VsN: values of a type: numbers, pairs, tuples of alike values; and the shared small defs. -/
namespace VS
open PySem PySem.Spec PyProof.Rows L2 VK

/-- how the values of a type look -/
class Enc (α : Type) where
  e : α → D
  nd : ∀ a, noDict (e a) = true
  dep : Nat
  lay : ∀ a, (e a).canLay0 = true
  hd : ∀ a, (e a).depth ≤ dep
  eq : ∀ a b, PyData.eqv (e a) (e b) = true ↔ a = b
open Enc (e)
theorem canAll {α : Type} [Enc α] : ∀ xs : List α, PyData.canLayAll0 (xs.map e) = true
  | [] => rfl
  | x :: xs => by
    show (PyData.canLay0 (e x) && PyData.canLayAll0 (xs.map e)) = true
    rw [Enc.lay x, canAll xs]
    rfl
theorem depAll {α : Type} [Enc α] : ∀ xs : List α, PyData.depthAll (xs.map e) ≤ Enc.dep α
  | [] => Nat.zero_le _
  | x :: xs => Nat.max_le.mpr ⟨Enc.hd x, depAll xs⟩
theorem eqAll {α : Type} [Enc α] : ∀ xs ys : List α, PyData.eqvAll (xs.map e) (ys.map e) = true ↔ xs = ys
  | [], [] => ⟨fun _ => rfl, fun _ => rfl⟩
  | [], y :: ys => ⟨fun h => (by cases h), fun h => (by cases h)⟩
  | x :: xs, [] => ⟨fun h => (by cases h), fun h => (by cases h)⟩
  | x :: xs, y :: ys => by
    show (PyData.eqv (e x) (e y) && PyData.eqvAll (xs.map e) (ys.map e)) = true ↔ _
    rw [Bool.and_eq_true, Enc.eq x y, eqAll xs ys, List.cons.injEq]
instance encInt : Enc Int where
  e i := .int i
  nd _ := rfl
  dep := 0
  lay _ := rfl
  hd _ := Nat.le_refl _
  eq a b := by
    show (a == b) = true ↔ _
    rw [beq_iff_eq]
instance encNat : Enc Nat where
  e i := .int (i : Int)
  nd _ := rfl
  dep := 0
  lay _ := rfl
  hd _ := Nat.le_refl _
  eq a b := by
    show ((a : Int) == (b : Int)) = true ↔ _
    rw [beq_iff_eq, Int.natCast_inj]
instance encBool : Enc Bool where
  e i := .bool i
  nd _ := rfl
  dep := 0
  lay _ := rfl
  hd _ := Nat.le_refl _
  eq a b := by
    show (a == b) = true ↔ _
    rw [beq_iff_eq]
instance encList {α : Type} [Enc α] : Enc (List α) where
  e xs := .tuple (xs.map e)
  nd _ := rfl
  dep := Enc.dep α + 1
  lay xs := canAll xs
  hd xs := Nat.succ_le_succ (depAll xs)
  eq a b := eqAll a b
instance encPair {α β : Type} [Enc α] [Enc β] : Enc (α × β) where
  e p := .tuple [e p.1, e p.2]
  nd _ := rfl
  dep := max (Enc.dep α) (Enc.dep β) + 1
  lay p := by
    show (PyData.canLay0 (e p.1) && (PyData.canLay0 (e p.2) && true)) = true
    rw [Enc.lay, Enc.lay]
    rfl
  hd p := by
    have h1 := Enc.hd p.1
    have h2 := Enc.hd p.2
    show max (PyData.depth (e p.1)) (max (PyData.depth (e p.2)) 0) + 1 ≤ _
    omega
  eq a b := by
    show (PyData.eqv (e a.1) (e b.1) && (PyData.eqv (e a.2) (e b.2) && true)) = true ↔ _
    rw [Bool.and_eq_true, Bool.and_eq_true, Enc.eq, Enc.eq, Prod.ext_iff]
    simp
structure T3 (α β γ : Type) where
  a : α
  b : β
  c : γ
  deriving DecidableEq, Inhabited
instance encT3 {α β γ : Type} [Enc α] [Enc β] [Enc γ] : Enc (T3 α β γ) where
  e p := .tuple [e p.a, e p.b, e p.c]
  nd _ := rfl
  dep := max (Enc.dep α) (max (Enc.dep β) (Enc.dep γ)) + 1
  lay p := by
    show (PyData.canLay0 (e p.a) && (PyData.canLay0 (e p.b) && (PyData.canLay0 (e p.c) && true))) = true
    rw [Enc.lay, Enc.lay, Enc.lay]
    rfl
  hd p := by
    have h1 := Enc.hd p.a
    have h2 := Enc.hd p.b
    have h3 := Enc.hd p.c
    show max (PyData.depth (e p.a)) (max (PyData.depth (e p.b)) (max (PyData.depth (e p.c)) 0)) + 1 ≤ _
    omega
  eq a b := by
    show (PyData.eqv (e a.a) (e b.a) && (PyData.eqv (e a.b) (e b.b) && (PyData.eqv (e a.c) (e b.c) && true))) = true ↔ _
    rw [Bool.and_eq_true, Bool.and_eq_true, Bool.and_eq_true, Enc.eq, Enc.eq, Enc.eq]
    cases a
    cases b
    simp
section
variable {α β γ : Type} [Enc α] [Enc β] [Enc γ]
theorem dep_int : Enc.dep Int = 0 := no_rfl rfl
theorem dep_nat : Enc.dep Nat = 0 := no_rfl rfl
theorem dep_bool : Enc.dep Bool = 0 := no_rfl rfl
theorem dep_list : Enc.dep (List α) = Enc.dep α + 1 := no_rfl rfl
theorem dep_pair : Enc.dep (α × β) = max (Enc.dep α) (Enc.dep β) + 1 := no_rfl rfl
theorem dep_t3 : Enc.dep (T3 α β γ) = max (Enc.dep α) (max (Enc.dep β) (Enc.dep γ)) + 1 := no_rfl rfl
theorem en_nat {n : Nat} : e n = PyData.int (n : Int) := no_rfl rfl
theorem en_int {n : Int} : e n = PyData.int n := no_rfl rfl
theorem en_bool {b : Bool} : e b = PyData.bool b := no_rfl rfl
theorem en_list {xs : List α} : e xs = PyData.tuple (xs.map e) := no_rfl rfl
theorem en_pair {p : α × β} : e p = PyData.tuple [e p.1, e p.2] := no_rfl rfl
theorem en_t3 {p : T3 α β γ} : e p = PyData.tuple [e p.a, e p.b, e p.c] := no_rfl rfl
theorem en_nd {a : α} : noDict (e a) = true := Enc.nd a
theorem shp_e {a : α} (h : Enc.dep α ≤ 64) : shp (e a) = true := by
  show (PyData.canLay0 (e a) && decide ((e a).depth ≤ 64)) = true
  rw [Enc.lay a, decide_eq_true (Nat.le_trans (Enc.hd a) h)]
  rfl
theorem shp_l {xs : List α} (h : Enc.dep α + 1 ≤ 64) : shp (.list (xs.map e)) = true := by
  show (PyData.canLayAll0 (xs.map e) && decide (PyData.depthAll (xs.map e) + 1 ≤ 64)) = true
  rw [canAll xs, decide_eq_true (Nat.le_trans (Nat.succ_le_succ (depAll xs)) h)]
  rfl
theorem shp_t {xs : List α} (h : Enc.dep α + 1 ≤ 64) : shp (.tuple (xs.map e)) = true := shp_e (a := xs) h
theorem eqv_e [DecidableEq α] {a b : α} : PyData.eqv (e a) (e b) = decide (a = b) := by
  rw [Bool.eq_iff_iff, Enc.eq, decide_eq_true_eq]
theorem any_e [DecidableEq α] {xs : List α} {a : α} : ((xs.map e).any fun z => PyData.eqv z (e a)) = decide (a ∈ xs) := by
  rw [Bool.eq_iff_iff, List.any_map, List.any_eq_true, decide_eq_true_eq]
  constructor
  · rintro ⟨x, hx, h⟩
    rw [(Enc.eq x a).mp h] at hx
    exact hx
  · exact fun h => ⟨a, h, (Enc.eq a a).mpr rfl⟩
variable {K : D → Prop} {KL : List D → Prop} {KM : D → D → Prop}
theorem q_ix [Inhabited α] {xs : List α} {k : Nat} (h : k < xs.length) : @fQ _ ixD [e xs, .int (k : Int)] K = K (e xs[k]!) := f_mapT h
theorem q_ixl [Inhabited α] {xs : List α} {k : Nat} (h : k < xs.length) : @fQ _ ixD [.list (xs.map e), .int (k : Int)] K = K (e xs[k]!) := f_mapL h
theorem q_p0 {p : α × β} : @fQ _ ixD [e p, .int 0] K = K (e p.1) := f_ixt0
theorem q_p1 {p : α × β} : @fQ _ ixD [e p, .int 1] K = K (e p.2) := f_ixt1
theorem q_t0 {p : T3 α β γ} : @fQ _ ixD [e p, .int 0] K = K (e p.a) := f_ixt0
theorem q_t1 {p : T3 α β γ} : @fQ _ ixD [e p, .int 1] K = K (e p.b) := f_ixt1
theorem q_t2 {p : T3 α β γ} : @fQ _ ixD [e p, .int 2] K = K (e p.c) := f_ixt2
theorem q_len {xs : List α} : @fQ _ lenD [e xs] K = K (.int (xs.length : Nat)) := by
  rw [en_list, f_lenT, List.length_map]
theorem q_lenl {xs : List α} : @fQ _ lenD [.list (xs.map e)] K = K (.int (xs.length : Nat)) := by
  rw [f_lenL, List.length_map]
theorem q_tup {xs : List α} : @fQ _ tupleD [.list (xs.map e)] K = K (e xs) := f_tupL
theorem q_tupT {xs : List α} : @fQ _ tupleD [e xs] K = K (e xs) := f_tupT
theorem q_seq {xs : List α} : @fQ _ (one1 seqD) [e xs] KL = KL (xs.map e) := fq_seqT
theorem q_eq [DecidableEq α] {a b : α} (h : Enc.dep α ≤ 64) : @fQ _ eqD [e a, e b] K = K (.bool (decide (a = b))) := by
  rw [f_eq en_nd en_nd (shp_e h) (shp_e h), eqv_e]
theorem q_ne [DecidableEq α] {a b : α} (h : Enc.dep α ≤ 64) : @fQ _ neD [e a, e b] K = K (.bool (decide (a ≠ b))) := by
  rw [f_ne en_nd en_nd (shp_e h) (shp_e h), eqv_e, decide_not]
theorem q_eqi {a b : Int} : @fQ _ eqD [.int a, .int b] K = K (.bool (decide (a = b))) := q_eq (α := Int) (by decide)
theorem q_nei {a b : Int} : @fQ _ neD [.int a, .int b] K = K (.bool (decide (a ≠ b))) := q_ne (α := Int) (by decide)
theorem q_eqN {xs : List α} (h : Enc.dep α + 1 ≤ 64) : @fQ _ eqD [e xs, .tuple []] K = K (.bool xs.isEmpty) := by
  rw [f_eq en_nd rfl (shp_e h) (by decide)]
  cases xs <;> rfl
theorem q_neN {xs : List α} (h : Enc.dep α + 1 ≤ 64) : @fQ _ neD [e xs, .tuple []] K = K (.bool (!xs.isEmpty)) := by
  rw [f_ne en_nd rfl (shp_e h) (by decide)]
  cases xs <;> rfl
theorem q_in [DecidableEq α] {a : α} {xs : List α} (h : Enc.dep α + 1 ≤ 64) : @fQ _ inD [e a, .list (xs.map e)] K = K (.bool (decide (a ∈ xs))) := by
  rw [f_inL en_nd (shp_e (by omega)) (shp_l h), any_e]
theorem q_inT [DecidableEq α] {a : α} {xs : List α} (h : Enc.dep α + 1 ≤ 64) : @fQ _ inD [e a, e xs] K = K (.bool (decide (a ∈ xs))) := by
  rw [en_list, f_inT en_nd (shp_e (by omega)) (shp_t h), any_e]
theorem q_nin [DecidableEq α] {a : α} {xs : List α} (h : Enc.dep α + 1 ≤ 64) : @fQ _ notInD [e a, .list (xs.map e)] K = K (.bool (decide (a ∉ xs))) := by
  rw [f_ninL en_nd (shp_e (by omega)) (shp_l h), any_e, decide_not]
theorem q_ninT [DecidableEq α] {a : α} {xs : List α} (h : Enc.dep α + 1 ≤ 64) : @fQ _ notInD [e a, e xs] K = K (.bool (decide (a ∉ xs))) := by
  rw [en_list, f_ninT en_nd (shp_e (by omega)) (shp_t h), any_e, decide_not]
theorem firstEq_e [DecidableEq α] {a : α} : ∀ {xs : List α}, a ∈ xs → firstEq (e a) (xs.map e) = some (xs.idxOf a)
  | [], h => by cases h
  | x :: xs, h => by
    unfold firstEq
    rw [List.map_cons]
    show (if PyData.eqv (e x) (e a) = true then some 0 else (firstEq (e a) (xs.map e)).map (· + 1)) = _
    by_cases hx : x = a
    · subst hx
      rw [if_pos ((Enc.eq x x).mpr rfl), List.idxOf_cons_self]
    · rw [if_neg fun h => hx ((Enc.eq x a).mp h)]
      have ha : a ∈ xs := by
        rcases List.mem_cons.mp h with h | h
        · exact absurd h.symm hx
        · exact h
      rw [firstEq_e ha, List.idxOf_cons, show (x == a) = false from beq_eq_false_iff_ne.mpr hx]
      rfl
theorem q_idx [DecidableEq α] {a : α} {xs : List α} (h : Enc.dep α + 1 ≤ 64) (hm : a ∈ xs) : @fQ _ indexD [.list (xs.map e), e a] K = K (.int (xs.idxOf a : Nat)) := by
  show @oQ _ (if (noDict (e a) && shp (e a) && shp (.list (xs.map e))) = true then _ else _) K = _
  rw [en_nd, shp_e (by omega), shp_l h, firstEq_e hm]
  rfl
theorem q_app {xs : List α} {a : α} (h : xs.length < sizeLine) : @hQ appendD (.list (xs.map e)) [e a] KM = KM .none (.list ((xs ++ [a]).map e)) := by
  rw [h_append en_nd (by rw [List.length_map]; exact h), List.map_append]
  rfl
theorem q_app0 {a : α} : @hQ appendD (.list []) [e a] KM = KM .none (.list ([a].map e)) := h_append en_nd (by decide)
theorem q_cat {xs ys : List α} (h : xs.length + ys.length ≤ sizeLine) : @fQ _ addD [e xs, e ys] K = K (e (xs ++ ys)) := by
  rw [en_list, en_list, f_addT (by rw [List.length_map, List.length_map]; exact h), en_list, List.map_append]
theorem q_cat1 {xs : List α} {a : α} (h : xs.length < sizeLine) : @fQ _ addD [e xs, .tuple [e a]] K = K (e (xs ++ [a])) := q_cat (ys := [a]) h
theorem q_cat1n {xs : List Nat} {a : Nat} (h : xs.length < sizeLine) : @fQ _ addD [e xs, .tuple [.int (a : Int)]] K = K (e (xs ++ [a])) := q_cat (ys := [a]) h
theorem q_isiT {xs : List α} : @fQ _ (isiD "tuple") [e xs] K = K (.bool true) := f_isi_tuple_tuple
theorem q_isiP {p : α × β} : @fQ _ (isiD "tuple") [e p] K = K (.bool true) := f_isi_tuple_tuple
theorem q_trT {xs : List α} {K : Bool → Prop} : @truQ [e xs] K = K (!xs.isEmpty) := by
  rw [en_list, tr_tu]
  cases xs <;> rfl
theorem q_trL {xs : List α} {K : Bool → Prop} : @truQ [.list (xs.map e)] K = K (!xs.isEmpty) := by
  rw [tr_li]
  cases xs <;> rfl
theorem q_pop0 {a : α} {xs : List α} : @hQ popAtD (.list ((a :: xs).map e)) [.int 0] KM = KM (e a) (.list (xs.map e)) := h_pop0
theorem q_wgp {i j : Nat} {p : α × β} {ρ : Env'} {KE : Env' → Prop} : @WG (.tu [i, j]) (e p) ρ KE = @setQ ρ i (some (.st (e p.1))) fun ρ' => @setQ ρ' j (some (.st (e p.2))) KE := no_rfl rfl
theorem q_wgt {i j k : Nat} {p : T3 α β γ} {ρ : Env'} {KE : Env' → Prop} : @WG (.tu [i, j, k]) (e p) ρ KE = @setQ ρ i (some (.st (e p.a))) fun ρ' => @setQ ρ' j (some (.st (e p.b))) fun ρ2 => @setQ ρ2 k (some (.st (e p.c))) KE := no_rfl rfl
end
end VS

set_option Elab.async false
set_option linter.all false
set_option maxRecDepth 100000
/-! VsO: the defs that the laws share, in plain terms. -/
namespace VK
open PySem PySem.Spec PyProof.Rows L2 VS
open VS.Enc (e)

theorem draw_eq : F_law_draw = F_draw := def_law_draw
theorem start_eq : F_law_start = F_start := def_law_start
section
variable {R : D → List D → Prop}
theorem w_draw {s : DS} {n : Nat} (h : 0 < n) (h2 : n < 1073741824) : @WF F_law_draw [dsD s, .int (n : Int)] R = R (.int (dv s n : Nat)) [dsD (dn s n)] := by rw [draw_eq]; exact wf_draw h h2
theorem w_drawI {s : DS} {n : Int} (h : 0 < n) (h2 : n < 1073741824) : @WF F_law_draw [dsD s, .int n] R = R (.int (dv s n.toNat : Nat)) [dsD (dn s n.toNat)] := by rw [draw_eq]; exact wf_drawI h h2
theorem w_start {ns : List Int} : @WF F_law_start [.list (ns.map .int)] R = R (dsD ⟨ns, 0, 0, 0⟩) [] := by rw [start_eq]; exact wf_start
theorem w_isint {i : Int} : @WF F_law_is_int [.int i] R = R (.bool true) [] := by
  rw [run_law_is_int]
  unfold m_law_is_int
  simp only [eq_self, Int.reduceLT, Int.reduceLE, Nat.reduceLT, Nat.reduceLeDiff, Int.reduceToNat, Int.toNat_natCast, ↓ws_seq, ↓sq_nx, ↓sq_rt, ↓sq_rf, ↓sq_bk, ↓sq_ct, ↓lq_nx, ↓lq_ct, ↓lq_bk, ↓lq_rt, ↓lq_rf, ↓ou_nx, ↓ou_rt, ↓ou_rf, ↓ws_next, ↓ws_break, ↓ws_cont, ↓ws_retNone, ↓ws_drop, ↓ws_ret, ↓ws_retF, ↓ws_set, ↓ws_setF, ↓rn_st, ↓rn_ow, ↓ws_retN, ↓sn_st, ↓sn_ow, ↓ws_setN, ↓ite_t, ↓ite_f, ↓ws_if, ↓ws_asg, ↓ws_store, ↓ws_aug, ↓ws_for, ↓ws_while, ↓we_c, ↓we_n, ↓we_op, ↓we_int, ↓wv_nil, ↓wv_ex, ↓wv_nm, ↓re_nil, ↓re_ex, ↓re_nm, ↓st_st, ↓ow_ow, ↓lk_st, ↓lk_ow, ↓bo_bo, ↓in_in, ↓wt_test, ↓wt_tru, ↓tr_bo, ↓tr_in, ↓tr_li, ↓tr_tu, ↓tr_no, ↓wt_not, ↓wt_and, ↓wt_or, ↓we_and, ↓we_or, ↓we_not, ↓we_if, ↓di_nil, ↓di_1, ↓di_2, ↓di_3, ↓di_4, ↓di_5, ↓di_6, ↓di_7, ↓di_8, ↓di_9, ↓di_10, ↓di_11, ↓di_12, ↓we_tup, ↓we_lst, ↓wm_nil, ↓wm_cons, ↓wa_nil, ↓wa_ex, ↓wa_st, ↓wa_io, ↓fz_nil, ↓fz_ex, ↓fz_io, ↓fy_st, ↓fy_ow, ↓ar_nil, ↓ar_ex, ↓ar_st, ↓ar_io, ↓pu_nil, ↓pu_cons, ↓we_call, ij_nil, ij_ex, ij_st, ij_io, ↓wg_nm, ↓wg_tu, ↓wg_tl, ↓wgs_nil, ↓wgs_cons, ↓we_methS', ↓ls_li, ↓we_meth, ↓we_chain, ↓we_rg1, ↓we_dict0, ↓we_get, ↓isd_d, ↓we_get2, ↓ws_put, ↓we_val, ↓wi_seq, ↓wi_rng, ↓wi_enum, ↓fq_seqL, ↓fq_seqT, ↓wt_yes, ↓rs_nil, ↓rs_cons, ↓wp_nil, ↓wp_cons, ↓we_comp, ↓we_compD, ↓we_comp2, ↓we_sset, ↓we_lset, ↓we_rev, ↓rv_l, ↓rv_t, ↓f_zip, ↓iq_nil, ↓iq_cons, ↓get_0, ↓set_0, ↓slot_0, ↓fz_0, ↓get_1, ↓set_1, ↓slot_1, ↓fz_1, ↓get_2, ↓set_2, ↓slot_2, ↓fz_2, ↓get_3, ↓set_3, ↓slot_3, ↓fz_3, ↓get_4, ↓set_4, ↓slot_4, ↓fz_4, ↓get_5, ↓set_5, ↓slot_5, ↓fz_5, ↓get_6, ↓set_6, ↓slot_6, ↓fz_6, ↓get_7, ↓set_7, ↓slot_7, ↓fz_7, ↓get_8, ↓set_8, ↓slot_8, ↓fz_8, ↓get_9, ↓set_9, ↓slot_9, ↓fz_9, ↓get_10, ↓set_10, ↓slot_10, ↓fz_10, ↓get_11, ↓set_11, ↓slot_11, ↓fz_11, ↓get_12, ↓set_12, ↓slot_12, ↓fz_12, ↓get_13, ↓set_13, ↓slot_13, ↓fz_13, ↓get_14, ↓set_14, ↓slot_14, ↓fz_14, ↓get_15, ↓set_15, ↓slot_15, ↓fz_15, ↓get_16, ↓set_16, ↓slot_16, ↓fz_16, ↓get_17, ↓set_17, ↓slot_17, ↓fz_17, ↓get_18, ↓set_18, ↓slot_18, ↓fz_18, ↓get_19, ↓set_19, ↓slot_19, ↓fz_19, ↓get_20, ↓set_20, ↓slot_20, ↓fz_20, ↓get_21, ↓set_21, ↓slot_21, ↓fz_21, ↓get_22, ↓set_22, ↓slot_22, ↓fz_22, ↓get_23, ↓set_23, ↓slot_23, ↓fz_23, ↓get_24, ↓set_24, ↓slot_24, ↓fz_24, ↓get_25, ↓set_25, ↓slot_25, ↓fz_25, ↓f_sub, ↓f_lt, ↓f_le, ↓f_gt, ↓f_ge, ↓f_add, ↓f_mod, ↓f_fdiv, ↓f_mulL, ↓f_mulR, ↓f_neg, ↓f_abs, ↓f_intI, ↓f_intB, ↓f_lenL, ↓f_lenT, ↓f_tupL, ↓f_tupT, ↓f_lisL, ↓f_lisT, ↓f_isB, ↓f_isNotB, ↓f_isN, ↓f_isNotN, ↓f_all, ↓f_any, ↓f_sum, ↓f_isi_int_int, ↓f_isi_int_bool, ↓f_isi_int_tuple, ↓f_isi_int_str, ↓f_isi_int_list, ↓f_isi_bool_int, ↓f_isi_bool_bool, ↓f_isi_bool_tuple, ↓f_isi_bool_str, ↓f_isi_bool_list, ↓f_isi_tuple_int, ↓f_isi_tuple_bool, ↓f_isi_tuple_tuple, ↓f_isi_tuple_str, ↓f_isi_tuple_list, ↓f_isi_str_int, ↓f_isi_str_bool, ↓f_isi_str_tuple, ↓f_isi_str_str, ↓f_isi_str_list, ↓f_isi_list_int, ↓f_isi_list_bool, ↓f_isi_list_tuple, ↓f_isi_list_str, ↓f_isi_list_list, ↓h_pop, ↓h_pop0, ↓f_rngI, ↓f_ixl0, ↓f_ixl1, ↓f_ixl2, ↓f_ixl3, ↓f_ixl4, ↓f_ixl5, ↓f_ixt0, ↓f_ixt1, ↓f_ixt2, ↓f_ixt3, ↓f_ixt4, ↓f_ixt5, ↓f_sd0, ↓f_sd1, ↓f_sd2, ↓f_sd3, ↓f_sd4, ↓f_sd5, nd_none, nd_bool, nd_int, nd_str, nd_list, nd_tuple, Bool.not_false]
def pl : Nat → D → Prop
  | 0, _ => False
  | _ + 1, .int _ => True
  | _ + 1, .str x => shp (.str x) = true
  | n + 1, .tuple ds => ds.length ≤ sizeLine ∧ ∀ d ∈ ds, pl n d
  | _ + 1, _ => False
theorem same_eq : ∀ (n : Nat) (d : D), pl n d → F_law_same n [d, d] = some (.bool true, [])
  | 0, _, h => h.elim
  | n + 1, .int i, _ => wf_eq (by
    rw [run_law_same]
    unfold m_law_same
    simp only [eq_self, Int.reduceLT, Int.reduceLE, Nat.reduceLT, Nat.reduceLeDiff, Int.reduceToNat, Int.toNat_natCast, ↓ws_seq, ↓sq_nx, ↓sq_rt, ↓sq_rf, ↓sq_bk, ↓sq_ct, ↓lq_nx, ↓lq_ct, ↓lq_bk, ↓lq_rt, ↓lq_rf, ↓ou_nx, ↓ou_rt, ↓ou_rf, ↓ws_next, ↓ws_break, ↓ws_cont, ↓ws_retNone, ↓ws_drop, ↓ws_ret, ↓ws_retF, ↓ws_set, ↓ws_setF, ↓rn_st, ↓rn_ow, ↓ws_retN, ↓sn_st, ↓sn_ow, ↓ws_setN, ↓ite_t, ↓ite_f, ↓ws_if, ↓ws_asg, ↓ws_store, ↓ws_aug, ↓ws_for, ↓ws_while, ↓we_c, ↓we_n, ↓we_op, ↓we_int, ↓wv_nil, ↓wv_ex, ↓wv_nm, ↓re_nil, ↓re_ex, ↓re_nm, ↓st_st, ↓ow_ow, ↓lk_st, ↓lk_ow, ↓bo_bo, ↓in_in, ↓wt_test, ↓wt_tru, ↓tr_bo, ↓tr_in, ↓tr_li, ↓tr_tu, ↓tr_no, ↓wt_not, ↓wt_and, ↓wt_or, ↓we_and, ↓we_or, ↓we_not, ↓we_if, ↓di_nil, ↓di_1, ↓di_2, ↓di_3, ↓di_4, ↓di_5, ↓di_6, ↓di_7, ↓di_8, ↓di_9, ↓di_10, ↓di_11, ↓di_12, ↓we_tup, ↓we_lst, ↓wm_nil, ↓wm_cons, ↓wa_nil, ↓wa_ex, ↓wa_st, ↓wa_io, ↓fz_nil, ↓fz_ex, ↓fz_io, ↓fy_st, ↓fy_ow, ↓ar_nil, ↓ar_ex, ↓ar_st, ↓ar_io, ↓pu_nil, ↓pu_cons, ↓we_call, ij_nil, ij_ex, ij_st, ij_io, ↓wg_nm, ↓wg_tu, ↓wg_tl, ↓wgs_nil, ↓wgs_cons, ↓we_methS', ↓ls_li, ↓we_meth, ↓we_chain, ↓we_rg1, ↓we_dict0, ↓we_get, ↓isd_d, ↓we_get2, ↓ws_put, ↓we_val, ↓wi_seq, ↓wi_rng, ↓wi_enum, ↓fq_seqL, ↓fq_seqT, ↓wt_yes, ↓rs_nil, ↓rs_cons, ↓wp_nil, ↓wp_cons, ↓we_comp, ↓we_compD, ↓we_comp2, ↓we_sset, ↓we_lset, ↓we_rev, ↓rv_l, ↓rv_t, ↓f_zip, ↓iq_nil, ↓iq_cons, ↓get_0, ↓set_0, ↓slot_0, ↓fz_0, ↓get_1, ↓set_1, ↓slot_1, ↓fz_1, ↓get_2, ↓set_2, ↓slot_2, ↓fz_2, ↓get_3, ↓set_3, ↓slot_3, ↓fz_3, ↓get_4, ↓set_4, ↓slot_4, ↓fz_4, ↓get_5, ↓set_5, ↓slot_5, ↓fz_5, ↓get_6, ↓set_6, ↓slot_6, ↓fz_6, ↓get_7, ↓set_7, ↓slot_7, ↓fz_7, ↓get_8, ↓set_8, ↓slot_8, ↓fz_8, ↓get_9, ↓set_9, ↓slot_9, ↓fz_9, ↓get_10, ↓set_10, ↓slot_10, ↓fz_10, ↓get_11, ↓set_11, ↓slot_11, ↓fz_11, ↓get_12, ↓set_12, ↓slot_12, ↓fz_12, ↓get_13, ↓set_13, ↓slot_13, ↓fz_13, ↓get_14, ↓set_14, ↓slot_14, ↓fz_14, ↓get_15, ↓set_15, ↓slot_15, ↓fz_15, ↓get_16, ↓set_16, ↓slot_16, ↓fz_16, ↓get_17, ↓set_17, ↓slot_17, ↓fz_17, ↓get_18, ↓set_18, ↓slot_18, ↓fz_18, ↓get_19, ↓set_19, ↓slot_19, ↓fz_19, ↓get_20, ↓set_20, ↓slot_20, ↓fz_20, ↓get_21, ↓set_21, ↓slot_21, ↓fz_21, ↓get_22, ↓set_22, ↓slot_22, ↓fz_22, ↓get_23, ↓set_23, ↓slot_23, ↓fz_23, ↓get_24, ↓set_24, ↓slot_24, ↓fz_24, ↓get_25, ↓set_25, ↓slot_25, ↓fz_25, ↓f_sub, ↓f_lt, ↓f_le, ↓f_gt, ↓f_ge, ↓f_add, ↓f_mod, ↓f_fdiv, ↓f_mulL, ↓f_mulR, ↓f_neg, ↓f_abs, ↓f_intI, ↓f_intB, ↓f_lenL, ↓f_lenT, ↓f_tupL, ↓f_tupT, ↓f_lisL, ↓f_lisT, ↓f_isB, ↓f_isNotB, ↓f_isN, ↓f_isNotN, ↓f_all, ↓f_any, ↓f_sum, ↓f_isi_int_int, ↓f_isi_int_bool, ↓f_isi_int_tuple, ↓f_isi_int_str, ↓f_isi_int_list, ↓f_isi_bool_int, ↓f_isi_bool_bool, ↓f_isi_bool_tuple, ↓f_isi_bool_str, ↓f_isi_bool_list, ↓f_isi_tuple_int, ↓f_isi_tuple_bool, ↓f_isi_tuple_tuple, ↓f_isi_tuple_str, ↓f_isi_tuple_list, ↓f_isi_str_int, ↓f_isi_str_bool, ↓f_isi_str_tuple, ↓f_isi_str_str, ↓f_isi_str_list, ↓f_isi_list_int, ↓f_isi_list_bool, ↓f_isi_list_tuple, ↓f_isi_list_str, ↓f_isi_list_list, ↓h_pop, ↓h_pop0, ↓f_rngI, ↓f_ixl0, ↓f_ixl1, ↓f_ixl2, ↓f_ixl3, ↓f_ixl4, ↓f_ixl5, ↓f_ixt0, ↓f_ixt1, ↓f_ixt2, ↓f_ixt3, ↓f_ixt4, ↓f_ixt5, ↓f_sd0, ↓f_sd1, ↓f_sd2, ↓f_sd3, ↓f_sd4, ↓f_sd5, nd_none, nd_bool, nd_int, nd_str, nd_list, nd_tuple, w_isint, ↓q_eqi, decide_true]
    exact ⟨trivial, trivial⟩)
  | n + 1, .str x, h => wf_eq (by
    rw [run_law_same]
    unfold m_law_same
    have h : shp (.str x) = true := h
    simp only [eq_self, Int.reduceLT, Int.reduceLE, Nat.reduceLT, Nat.reduceLeDiff, Int.reduceToNat, Int.toNat_natCast, ↓ws_seq, ↓sq_nx, ↓sq_rt, ↓sq_rf, ↓sq_bk, ↓sq_ct, ↓lq_nx, ↓lq_ct, ↓lq_bk, ↓lq_rt, ↓lq_rf, ↓ou_nx, ↓ou_rt, ↓ou_rf, ↓ws_next, ↓ws_break, ↓ws_cont, ↓ws_retNone, ↓ws_drop, ↓ws_ret, ↓ws_retF, ↓ws_set, ↓ws_setF, ↓rn_st, ↓rn_ow, ↓ws_retN, ↓sn_st, ↓sn_ow, ↓ws_setN, ↓ite_t, ↓ite_f, ↓ws_if, ↓ws_asg, ↓ws_store, ↓ws_aug, ↓ws_for, ↓ws_while, ↓we_c, ↓we_n, ↓we_op, ↓we_int, ↓wv_nil, ↓wv_ex, ↓wv_nm, ↓re_nil, ↓re_ex, ↓re_nm, ↓st_st, ↓ow_ow, ↓lk_st, ↓lk_ow, ↓bo_bo, ↓in_in, ↓wt_test, ↓wt_tru, ↓tr_bo, ↓tr_in, ↓tr_li, ↓tr_tu, ↓tr_no, ↓wt_not, ↓wt_and, ↓wt_or, ↓we_and, ↓we_or, ↓we_not, ↓we_if, ↓di_nil, ↓di_1, ↓di_2, ↓di_3, ↓di_4, ↓di_5, ↓di_6, ↓di_7, ↓di_8, ↓di_9, ↓di_10, ↓di_11, ↓di_12, ↓we_tup, ↓we_lst, ↓wm_nil, ↓wm_cons, ↓wa_nil, ↓wa_ex, ↓wa_st, ↓wa_io, ↓fz_nil, ↓fz_ex, ↓fz_io, ↓fy_st, ↓fy_ow, ↓ar_nil, ↓ar_ex, ↓ar_st, ↓ar_io, ↓pu_nil, ↓pu_cons, ↓we_call, ij_nil, ij_ex, ij_st, ij_io, ↓wg_nm, ↓wg_tu, ↓wg_tl, ↓wgs_nil, ↓wgs_cons, ↓we_methS', ↓ls_li, ↓we_meth, ↓we_chain, ↓we_rg1, ↓we_dict0, ↓we_get, ↓isd_d, ↓we_get2, ↓ws_put, ↓we_val, ↓wi_seq, ↓wi_rng, ↓wi_enum, ↓fq_seqL, ↓fq_seqT, ↓wt_yes, ↓rs_nil, ↓rs_cons, ↓wp_nil, ↓wp_cons, ↓we_comp, ↓we_compD, ↓we_comp2, ↓we_sset, ↓we_lset, ↓we_rev, ↓rv_l, ↓rv_t, ↓f_zip, ↓iq_nil, ↓iq_cons, ↓get_0, ↓set_0, ↓slot_0, ↓fz_0, ↓get_1, ↓set_1, ↓slot_1, ↓fz_1, ↓get_2, ↓set_2, ↓slot_2, ↓fz_2, ↓get_3, ↓set_3, ↓slot_3, ↓fz_3, ↓get_4, ↓set_4, ↓slot_4, ↓fz_4, ↓get_5, ↓set_5, ↓slot_5, ↓fz_5, ↓get_6, ↓set_6, ↓slot_6, ↓fz_6, ↓get_7, ↓set_7, ↓slot_7, ↓fz_7, ↓get_8, ↓set_8, ↓slot_8, ↓fz_8, ↓get_9, ↓set_9, ↓slot_9, ↓fz_9, ↓get_10, ↓set_10, ↓slot_10, ↓fz_10, ↓get_11, ↓set_11, ↓slot_11, ↓fz_11, ↓get_12, ↓set_12, ↓slot_12, ↓fz_12, ↓get_13, ↓set_13, ↓slot_13, ↓fz_13, ↓get_14, ↓set_14, ↓slot_14, ↓fz_14, ↓get_15, ↓set_15, ↓slot_15, ↓fz_15, ↓get_16, ↓set_16, ↓slot_16, ↓fz_16, ↓get_17, ↓set_17, ↓slot_17, ↓fz_17, ↓get_18, ↓set_18, ↓slot_18, ↓fz_18, ↓get_19, ↓set_19, ↓slot_19, ↓fz_19, ↓get_20, ↓set_20, ↓slot_20, ↓fz_20, ↓get_21, ↓set_21, ↓slot_21, ↓fz_21, ↓get_22, ↓set_22, ↓slot_22, ↓fz_22, ↓get_23, ↓set_23, ↓slot_23, ↓fz_23, ↓get_24, ↓set_24, ↓slot_24, ↓fz_24, ↓get_25, ↓set_25, ↓slot_25, ↓fz_25, ↓f_sub, ↓f_lt, ↓f_le, ↓f_gt, ↓f_ge, ↓f_add, ↓f_mod, ↓f_fdiv, ↓f_mulL, ↓f_mulR, ↓f_neg, ↓f_abs, ↓f_intI, ↓f_intB, ↓f_lenL, ↓f_lenT, ↓f_tupL, ↓f_tupT, ↓f_lisL, ↓f_lisT, ↓f_isB, ↓f_isNotB, ↓f_isN, ↓f_isNotN, ↓f_all, ↓f_any, ↓f_sum, ↓f_isi_int_int, ↓f_isi_int_bool, ↓f_isi_int_tuple, ↓f_isi_int_str, ↓f_isi_int_list, ↓f_isi_bool_int, ↓f_isi_bool_bool, ↓f_isi_bool_tuple, ↓f_isi_bool_str, ↓f_isi_bool_list, ↓f_isi_tuple_int, ↓f_isi_tuple_bool, ↓f_isi_tuple_tuple, ↓f_isi_tuple_str, ↓f_isi_tuple_list, ↓f_isi_str_int, ↓f_isi_str_bool, ↓f_isi_str_tuple, ↓f_isi_str_str, ↓f_isi_str_list, ↓f_isi_list_int, ↓f_isi_list_bool, ↓f_isi_list_tuple, ↓f_isi_list_str, ↓f_isi_list_list, ↓h_pop, ↓h_pop0, ↓f_rngI, ↓f_ixl0, ↓f_ixl1, ↓f_ixl2, ↓f_ixl3, ↓f_ixl4, ↓f_ixl5, ↓f_ixt0, ↓f_ixt1, ↓f_ixt2, ↓f_ixt3, ↓f_ixt4, ↓f_ixt5, ↓f_sd0, ↓f_sd1, ↓f_sd2, ↓f_sd3, ↓f_sd4, ↓f_sd5, nd_none, nd_bool, nd_int, nd_str, nd_list, nd_tuple, ↓f_eq (a := .str x) (b := .str x) rfl rfl h h]
    exact ⟨congrArg PyData.bool (beq_self_eq_true x), trivial⟩)
  | n + 1, .tuple ds, h => wf_eq (by
    rw [run_law_same]
    unfold m_law_same
    obtain ⟨h1, h2⟩ := h
    simp only [eq_self, Int.reduceLT, Int.reduceLE, Nat.reduceLT, Nat.reduceLeDiff, Int.reduceToNat, Int.toNat_natCast, ↓ws_seq, ↓sq_nx, ↓sq_rt, ↓sq_rf, ↓sq_bk, ↓sq_ct, ↓lq_nx, ↓lq_ct, ↓lq_bk, ↓lq_rt, ↓lq_rf, ↓ou_nx, ↓ou_rt, ↓ou_rf, ↓ws_next, ↓ws_break, ↓ws_cont, ↓ws_retNone, ↓ws_drop, ↓ws_ret, ↓ws_retF, ↓ws_set, ↓ws_setF, ↓rn_st, ↓rn_ow, ↓ws_retN, ↓sn_st, ↓sn_ow, ↓ws_setN, ↓ite_t, ↓ite_f, ↓ws_if, ↓ws_asg, ↓ws_store, ↓ws_aug, ↓ws_for, ↓ws_while, ↓we_c, ↓we_n, ↓we_op, ↓we_int, ↓wv_nil, ↓wv_ex, ↓wv_nm, ↓re_nil, ↓re_ex, ↓re_nm, ↓st_st, ↓ow_ow, ↓lk_st, ↓lk_ow, ↓bo_bo, ↓in_in, ↓wt_test, ↓wt_tru, ↓tr_bo, ↓tr_in, ↓tr_li, ↓tr_tu, ↓tr_no, ↓wt_not, ↓wt_and, ↓wt_or, ↓we_and, ↓we_or, ↓we_not, ↓we_if, ↓di_nil, ↓di_1, ↓di_2, ↓di_3, ↓di_4, ↓di_5, ↓di_6, ↓di_7, ↓di_8, ↓di_9, ↓di_10, ↓di_11, ↓di_12, ↓we_tup, ↓we_lst, ↓wm_nil, ↓wm_cons, ↓wa_nil, ↓wa_ex, ↓wa_st, ↓wa_io, ↓fz_nil, ↓fz_ex, ↓fz_io, ↓fy_st, ↓fy_ow, ↓ar_nil, ↓ar_ex, ↓ar_st, ↓ar_io, ↓pu_nil, ↓pu_cons, ↓we_call, ij_nil, ij_ex, ij_st, ij_io, ↓wg_nm, ↓wg_tu, ↓wg_tl, ↓wgs_nil, ↓wgs_cons, ↓we_methS', ↓ls_li, ↓we_meth, ↓we_chain, ↓we_rg1, ↓we_dict0, ↓we_get, ↓isd_d, ↓we_get2, ↓ws_put, ↓we_val, ↓wi_seq, ↓wi_rng, ↓wi_enum, ↓fq_seqL, ↓fq_seqT, ↓wt_yes, ↓rs_nil, ↓rs_cons, ↓wp_nil, ↓wp_cons, ↓we_comp, ↓we_compD, ↓we_comp2, ↓we_sset, ↓we_lset, ↓we_rev, ↓rv_l, ↓rv_t, ↓f_zip, ↓iq_nil, ↓iq_cons, ↓get_0, ↓set_0, ↓slot_0, ↓fz_0, ↓get_1, ↓set_1, ↓slot_1, ↓fz_1, ↓get_2, ↓set_2, ↓slot_2, ↓fz_2, ↓get_3, ↓set_3, ↓slot_3, ↓fz_3, ↓get_4, ↓set_4, ↓slot_4, ↓fz_4, ↓get_5, ↓set_5, ↓slot_5, ↓fz_5, ↓get_6, ↓set_6, ↓slot_6, ↓fz_6, ↓get_7, ↓set_7, ↓slot_7, ↓fz_7, ↓get_8, ↓set_8, ↓slot_8, ↓fz_8, ↓get_9, ↓set_9, ↓slot_9, ↓fz_9, ↓get_10, ↓set_10, ↓slot_10, ↓fz_10, ↓get_11, ↓set_11, ↓slot_11, ↓fz_11, ↓get_12, ↓set_12, ↓slot_12, ↓fz_12, ↓get_13, ↓set_13, ↓slot_13, ↓fz_13, ↓get_14, ↓set_14, ↓slot_14, ↓fz_14, ↓get_15, ↓set_15, ↓slot_15, ↓fz_15, ↓get_16, ↓set_16, ↓slot_16, ↓fz_16, ↓get_17, ↓set_17, ↓slot_17, ↓fz_17, ↓get_18, ↓set_18, ↓slot_18, ↓fz_18, ↓get_19, ↓set_19, ↓slot_19, ↓fz_19, ↓get_20, ↓set_20, ↓slot_20, ↓fz_20, ↓get_21, ↓set_21, ↓slot_21, ↓fz_21, ↓get_22, ↓set_22, ↓slot_22, ↓fz_22, ↓get_23, ↓set_23, ↓slot_23, ↓fz_23, ↓get_24, ↓set_24, ↓slot_24, ↓fz_24, ↓get_25, ↓set_25, ↓slot_25, ↓fz_25, ↓f_sub, ↓f_lt, ↓f_le, ↓f_gt, ↓f_ge, ↓f_add, ↓f_mod, ↓f_fdiv, ↓f_mulL, ↓f_mulR, ↓f_neg, ↓f_abs, ↓f_intI, ↓f_intB, ↓f_lenL, ↓f_lenT, ↓f_tupL, ↓f_tupT, ↓f_lisL, ↓f_lisT, ↓f_isB, ↓f_isNotB, ↓f_isN, ↓f_isNotN, ↓f_all, ↓f_any, ↓f_sum, ↓f_isi_int_int, ↓f_isi_int_bool, ↓f_isi_int_tuple, ↓f_isi_int_str, ↓f_isi_int_list, ↓f_isi_bool_int, ↓f_isi_bool_bool, ↓f_isi_bool_tuple, ↓f_isi_bool_str, ↓f_isi_bool_list, ↓f_isi_tuple_int, ↓f_isi_tuple_bool, ↓f_isi_tuple_tuple, ↓f_isi_tuple_str, ↓f_isi_tuple_list, ↓f_isi_str_int, ↓f_isi_str_bool, ↓f_isi_str_tuple, ↓f_isi_str_str, ↓f_isi_str_list, ↓f_isi_list_int, ↓f_isi_list_bool, ↓f_isi_list_tuple, ↓f_isi_list_str, ↓f_isi_list_list, ↓h_pop, ↓h_pop0, ↓f_rngI, ↓f_ixl0, ↓f_ixl1, ↓f_ixl2, ↓f_ixl3, ↓f_ixl4, ↓f_ixl5, ↓f_ixt0, ↓f_ixt1, ↓f_ixt2, ↓f_ixt3, ↓f_ixt4, ↓f_ixt5, ↓f_sd0, ↓f_sd1, ↓f_sd2, ↓f_sd3, ↓f_sd4, ↓f_sd5, nd_none, nd_bool, nd_int, nd_str, nd_list, nd_tuple, ↓q_nei, ne_eq, not_true_eq_false, decide_false, Bool.not_true]
    rw [f_rng1 (Nat.lt_of_le_of_lt h1 (by decide))]
    refine ⟨⟨rfl, by rw [rngD_len]; exact h1⟩, ?_⟩
    refine wc_pure (fun _ => .bool true) (fun _ _ => trivial) (fun ρ => ∃ x, ρ = [some (.st (.tuple ds)), some (.st (.tuple ds)), x]) ⟨none, rfl⟩ (fun k d ρ e z => ?_) fun ρ z => ?_
    · obtain ⟨x, rfl⟩ := z
      obtain ⟨hk, rfl⟩ := rngD_get e
      rw [Int.zero_add]
      have e1 : ds[k]? = some ds[k] := List.getElem?_eq_getElem hk
      show @WG _ _ [some (.st (.tuple ds)), some (.st (.tuple ds)), none] (fun _ => _)
      simp only [eq_self, Int.reduceLT, Int.reduceLE, Nat.reduceLT, Nat.reduceLeDiff, Int.reduceToNat, Int.toNat_natCast, ↓ws_seq, ↓sq_nx, ↓sq_rt, ↓sq_rf, ↓sq_bk, ↓sq_ct, ↓lq_nx, ↓lq_ct, ↓lq_bk, ↓lq_rt, ↓lq_rf, ↓ou_nx, ↓ou_rt, ↓ou_rf, ↓ws_next, ↓ws_break, ↓ws_cont, ↓ws_retNone, ↓ws_drop, ↓ws_ret, ↓ws_retF, ↓ws_set, ↓ws_setF, ↓rn_st, ↓rn_ow, ↓ws_retN, ↓sn_st, ↓sn_ow, ↓ws_setN, ↓ite_t, ↓ite_f, ↓ws_if, ↓ws_asg, ↓ws_store, ↓ws_aug, ↓ws_for, ↓ws_while, ↓we_c, ↓we_n, ↓we_op, ↓we_int, ↓wv_nil, ↓wv_ex, ↓wv_nm, ↓re_nil, ↓re_ex, ↓re_nm, ↓st_st, ↓ow_ow, ↓lk_st, ↓lk_ow, ↓bo_bo, ↓in_in, ↓wt_test, ↓wt_tru, ↓tr_bo, ↓tr_in, ↓tr_li, ↓tr_tu, ↓tr_no, ↓wt_not, ↓wt_and, ↓wt_or, ↓we_and, ↓we_or, ↓we_not, ↓we_if, ↓di_nil, ↓di_1, ↓di_2, ↓di_3, ↓di_4, ↓di_5, ↓di_6, ↓di_7, ↓di_8, ↓di_9, ↓di_10, ↓di_11, ↓di_12, ↓we_tup, ↓we_lst, ↓wm_nil, ↓wm_cons, ↓wa_nil, ↓wa_ex, ↓wa_st, ↓wa_io, ↓fz_nil, ↓fz_ex, ↓fz_io, ↓fy_st, ↓fy_ow, ↓ar_nil, ↓ar_ex, ↓ar_st, ↓ar_io, ↓pu_nil, ↓pu_cons, ↓we_call, ij_nil, ij_ex, ij_st, ij_io, ↓wg_nm, ↓wg_tu, ↓wg_tl, ↓wgs_nil, ↓wgs_cons, ↓we_methS', ↓ls_li, ↓we_meth, ↓we_chain, ↓we_rg1, ↓we_dict0, ↓we_get, ↓isd_d, ↓we_get2, ↓ws_put, ↓we_val, ↓wi_seq, ↓wi_rng, ↓wi_enum, ↓fq_seqL, ↓fq_seqT, ↓wt_yes, ↓rs_nil, ↓rs_cons, ↓wp_nil, ↓wp_cons, ↓we_comp, ↓we_compD, ↓we_comp2, ↓we_sset, ↓we_lset, ↓we_rev, ↓rv_l, ↓rv_t, ↓f_zip, ↓iq_nil, ↓iq_cons, ↓get_0, ↓set_0, ↓slot_0, ↓fz_0, ↓get_1, ↓set_1, ↓slot_1, ↓fz_1, ↓get_2, ↓set_2, ↓slot_2, ↓fz_2, ↓get_3, ↓set_3, ↓slot_3, ↓fz_3, ↓get_4, ↓set_4, ↓slot_4, ↓fz_4, ↓get_5, ↓set_5, ↓slot_5, ↓fz_5, ↓get_6, ↓set_6, ↓slot_6, ↓fz_6, ↓get_7, ↓set_7, ↓slot_7, ↓fz_7, ↓get_8, ↓set_8, ↓slot_8, ↓fz_8, ↓get_9, ↓set_9, ↓slot_9, ↓fz_9, ↓get_10, ↓set_10, ↓slot_10, ↓fz_10, ↓get_11, ↓set_11, ↓slot_11, ↓fz_11, ↓get_12, ↓set_12, ↓slot_12, ↓fz_12, ↓get_13, ↓set_13, ↓slot_13, ↓fz_13, ↓get_14, ↓set_14, ↓slot_14, ↓fz_14, ↓get_15, ↓set_15, ↓slot_15, ↓fz_15, ↓get_16, ↓set_16, ↓slot_16, ↓fz_16, ↓get_17, ↓set_17, ↓slot_17, ↓fz_17, ↓get_18, ↓set_18, ↓slot_18, ↓fz_18, ↓get_19, ↓set_19, ↓slot_19, ↓fz_19, ↓get_20, ↓set_20, ↓slot_20, ↓fz_20, ↓get_21, ↓set_21, ↓slot_21, ↓fz_21, ↓get_22, ↓set_22, ↓slot_22, ↓fz_22, ↓get_23, ↓set_23, ↓slot_23, ↓fz_23, ↓get_24, ↓set_24, ↓slot_24, ↓fz_24, ↓get_25, ↓set_25, ↓slot_25, ↓fz_25, ↓f_sub, ↓f_lt, ↓f_le, ↓f_gt, ↓f_ge, ↓f_add, ↓f_mod, ↓f_fdiv, ↓f_mulL, ↓f_mulR, ↓f_neg, ↓f_abs, ↓f_intI, ↓f_intB, ↓f_lenL, ↓f_lenT, ↓f_tupL, ↓f_tupT, ↓f_lisL, ↓f_lisT, ↓f_isB, ↓f_isNotB, ↓f_isN, ↓f_isNotN, ↓f_all, ↓f_any, ↓f_sum, ↓f_isi_int_int, ↓f_isi_int_bool, ↓f_isi_int_tuple, ↓f_isi_int_str, ↓f_isi_int_list, ↓f_isi_bool_int, ↓f_isi_bool_bool, ↓f_isi_bool_tuple, ↓f_isi_bool_str, ↓f_isi_bool_list, ↓f_isi_tuple_int, ↓f_isi_tuple_bool, ↓f_isi_tuple_tuple, ↓f_isi_tuple_str, ↓f_isi_tuple_list, ↓f_isi_str_int, ↓f_isi_str_bool, ↓f_isi_str_tuple, ↓f_isi_str_str, ↓f_isi_str_list, ↓f_isi_list_int, ↓f_isi_list_bool, ↓f_isi_list_tuple, ↓f_isi_list_str, ↓f_isi_list_list, ↓h_pop, ↓h_pop0, ↓f_rngI, ↓f_ixl0, ↓f_ixl1, ↓f_ixl2, ↓f_ixl3, ↓f_ixl4, ↓f_ixl5, ↓f_ixt0, ↓f_ixt1, ↓f_ixt2, ↓f_ixt3, ↓f_ixt4, ↓f_ixt5, ↓f_sd0, ↓f_sd1, ↓f_sd2, ↓f_sd3, ↓f_sd4, ↓f_sd5, nd_none, nd_bool, nd_int, nd_str, nd_list, nd_tuple, ↓f_ixT e1, WF.of (same_eq n ds[k] (h2 _ (List.getElem_mem hk)))]
      exact ⟨trivial, trivial, trivial, _, rfl⟩
    · have e : (List.range (rngD 0 ds.length).length).map (fun _ => PyData.bool true) = (List.replicate ds.length true).map PyData.bool := by
        rw [rngD_len, List.map_replicate, List.map_const']
        simp
      rw [e, f_all]
      exact ⟨by simp, trivial⟩)
  | n + 1, .none, h => h.elim
  | n + 1, .bool _, h => h.elim
  | n + 1, .list _, h => h.elim
  | n + 1, .dict _, h => h.elim
theorem w_same {n : Nat} {d : D} (h : pl n d) : @WF (F_law_same n) [d, d] R = R (.bool true) [] := WF.of (same_eq n d h)
theorem pl_nat {n k : Nat} : pl (n + 1) (e k) := trivial
theorem pl_int {n : Nat} {k : Int} : pl (n + 1) (e k) := trivial
theorem pl_list {α : Type} [Enc α] {n : Nat} {xs : List α} (h : xs.length ≤ sizeLine) (g : ∀ x ∈ xs, pl n (e x)) : pl (n + 1) (e xs) := by
  refine ⟨by rw [List.length_map]; exact h, fun d hd => ?_⟩
  obtain ⟨x, hx, rfl⟩ := List.mem_map.mp hd
  exact g x hx
theorem pl_pair {α β : Type} [Enc α] [Enc β] {n : Nat} {p : α × β} (h : pl n (e p.1)) (g : pl n (e p.2)) : pl (n + 1) (e p) := by
  refine ⟨show 2 ≤ sizeLine by decide, fun d hd => ?_⟩
  rcases List.mem_cons.mp hd with rfl | hd
  · exact h
  · rcases List.mem_cons.mp hd with rfl | hd
    · exact g
    · cases hd

/-! ### machines -/
abbrev Cell := List Nat × Nat
abbrev Mach := List (List Cell)
/-- a drawn machine: its words, its kinds -/
structure MOk (M : Mach) (words kinds : Nat) : Prop where
  len : M.length = kinds
  row : ∀ r ∈ M, r.length = words
  tgt : ∀ r ∈ M, ∀ c ∈ r, c.2 < kinds
  ans : ∀ r ∈ M, ∀ c ∈ r, c.1.length ≤ 2 ∧ ∀ x ∈ c.1, x < 2
theorem machine_ex (s : DS) (kinds words : Nat) (hk : 0 < kinds) (hk2 : kinds ≤ 100) (hw : words ≤ 100) : ∃ M s', F_law_machine [dsD s, .int (kinds : Int), .int (words : Int)] = some (e M, [dsD s']) ∧ MOk M words kinds := by
  suffices hs : @WF F_law_machine [dsD s, .int (kinds : Int), .int (words : Int)] fun d ns => ∃ (M : Mach) (s' : DS), d = e M ∧ ns = [dsD s'] ∧ MOk M words kinds by
    obtain ⟨d, ns, h, M, s', rfl, rfl, hv⟩ := hs.ex
    exact ⟨M, s', h, hv⟩
  rw [run_law_machine]
  unfold m_law_machine
  have hb : words < 2 ^ 62 := by omega
  have hb2 : kinds < 2 ^ 62 := by omega
  simp only [eq_self, Int.reduceLT, Int.reduceLE, Nat.reduceLT, Nat.reduceLeDiff, Int.reduceToNat, Int.toNat_natCast, ↓ws_seq, ↓sq_nx, ↓sq_rt, ↓sq_rf, ↓sq_bk, ↓sq_ct, ↓lq_nx, ↓lq_ct, ↓lq_bk, ↓lq_rt, ↓lq_rf, ↓ou_nx, ↓ou_rt, ↓ou_rf, ↓ws_next, ↓ws_break, ↓ws_cont, ↓ws_retNone, ↓ws_drop, ↓ws_ret, ↓ws_retF, ↓ws_set, ↓ws_setF, ↓rn_st, ↓rn_ow, ↓ws_retN, ↓sn_st, ↓sn_ow, ↓ws_setN, ↓ite_t, ↓ite_f, ↓ws_if, ↓ws_asg, ↓ws_store, ↓ws_aug, ↓ws_for, ↓ws_while, ↓we_c, ↓we_n, ↓we_op, ↓we_int, ↓wv_nil, ↓wv_ex, ↓wv_nm, ↓re_nil, ↓re_ex, ↓re_nm, ↓st_st, ↓ow_ow, ↓lk_st, ↓lk_ow, ↓bo_bo, ↓in_in, ↓wt_test, ↓wt_tru, ↓tr_bo, ↓tr_in, ↓tr_li, ↓tr_tu, ↓tr_no, ↓wt_not, ↓wt_and, ↓wt_or, ↓we_and, ↓we_or, ↓we_not, ↓we_if, ↓di_nil, ↓di_1, ↓di_2, ↓di_3, ↓di_4, ↓di_5, ↓di_6, ↓di_7, ↓di_8, ↓di_9, ↓di_10, ↓di_11, ↓di_12, ↓we_tup, ↓we_lst, ↓wm_nil, ↓wm_cons, ↓wa_nil, ↓wa_ex, ↓wa_st, ↓wa_io, ↓fz_nil, ↓fz_ex, ↓fz_io, ↓fy_st, ↓fy_ow, ↓ar_nil, ↓ar_ex, ↓ar_st, ↓ar_io, ↓pu_nil, ↓pu_cons, ↓we_call, ij_nil, ij_ex, ij_st, ij_io, ↓wg_nm, ↓wg_tu, ↓wg_tl, ↓wgs_nil, ↓wgs_cons, ↓we_methS', ↓ls_li, ↓we_meth, ↓we_chain, ↓we_rg1, ↓we_dict0, ↓we_get, ↓isd_d, ↓we_get2, ↓ws_put, ↓we_val, ↓wi_seq, ↓wi_rng, ↓wi_enum, ↓fq_seqL, ↓fq_seqT, ↓wt_yes, ↓rs_nil, ↓rs_cons, ↓wp_nil, ↓wp_cons, ↓we_comp, ↓we_compD, ↓we_comp2, ↓we_sset, ↓we_lset, ↓we_rev, ↓rv_l, ↓rv_t, ↓f_zip, ↓iq_nil, ↓iq_cons, ↓get_0, ↓set_0, ↓slot_0, ↓fz_0, ↓get_1, ↓set_1, ↓slot_1, ↓fz_1, ↓get_2, ↓set_2, ↓slot_2, ↓fz_2, ↓get_3, ↓set_3, ↓slot_3, ↓fz_3, ↓get_4, ↓set_4, ↓slot_4, ↓fz_4, ↓get_5, ↓set_5, ↓slot_5, ↓fz_5, ↓get_6, ↓set_6, ↓slot_6, ↓fz_6, ↓get_7, ↓set_7, ↓slot_7, ↓fz_7, ↓get_8, ↓set_8, ↓slot_8, ↓fz_8, ↓get_9, ↓set_9, ↓slot_9, ↓fz_9, ↓get_10, ↓set_10, ↓slot_10, ↓fz_10, ↓get_11, ↓set_11, ↓slot_11, ↓fz_11, ↓get_12, ↓set_12, ↓slot_12, ↓fz_12, ↓get_13, ↓set_13, ↓slot_13, ↓fz_13, ↓get_14, ↓set_14, ↓slot_14, ↓fz_14, ↓get_15, ↓set_15, ↓slot_15, ↓fz_15, ↓get_16, ↓set_16, ↓slot_16, ↓fz_16, ↓get_17, ↓set_17, ↓slot_17, ↓fz_17, ↓get_18, ↓set_18, ↓slot_18, ↓fz_18, ↓get_19, ↓set_19, ↓slot_19, ↓fz_19, ↓get_20, ↓set_20, ↓slot_20, ↓fz_20, ↓get_21, ↓set_21, ↓slot_21, ↓fz_21, ↓get_22, ↓set_22, ↓slot_22, ↓fz_22, ↓get_23, ↓set_23, ↓slot_23, ↓fz_23, ↓get_24, ↓set_24, ↓slot_24, ↓fz_24, ↓get_25, ↓set_25, ↓slot_25, ↓fz_25, ↓f_sub, ↓f_lt, ↓f_le, ↓f_gt, ↓f_ge, ↓f_add, ↓f_mod, ↓f_fdiv, ↓f_mulL, ↓f_mulR, ↓f_neg, ↓f_abs, ↓f_intI, ↓f_intB, ↓f_lenL, ↓f_lenT, ↓f_tupL, ↓f_tupT, ↓f_lisL, ↓f_lisT, ↓f_isB, ↓f_isNotB, ↓f_isN, ↓f_isNotN, ↓f_all, ↓f_any, ↓f_sum, ↓f_isi_int_int, ↓f_isi_int_bool, ↓f_isi_int_tuple, ↓f_isi_int_str, ↓f_isi_int_list, ↓f_isi_bool_int, ↓f_isi_bool_bool, ↓f_isi_bool_tuple, ↓f_isi_bool_str, ↓f_isi_bool_list, ↓f_isi_tuple_int, ↓f_isi_tuple_bool, ↓f_isi_tuple_tuple, ↓f_isi_tuple_str, ↓f_isi_tuple_list, ↓f_isi_str_int, ↓f_isi_str_bool, ↓f_isi_str_tuple, ↓f_isi_str_str, ↓f_isi_str_list, ↓f_isi_list_int, ↓f_isi_list_bool, ↓f_isi_list_tuple, ↓f_isi_list_str, ↓f_isi_list_list, ↓h_pop, ↓h_pop0, ↓f_rngI, ↓f_ixl0, ↓f_ixl1, ↓f_ixl2, ↓f_ixl3, ↓f_ixl4, ↓f_ixl5, ↓f_ixt0, ↓f_ixt1, ↓f_ixt2, ↓f_ixt3, ↓f_ixt4, ↓f_ixt5, ↓f_sd0, ↓f_sd1, ↓f_sd2, ↓f_sd3, ↓f_sd4, ↓f_sd5, nd_none, nd_bool, nd_int, nd_str, nd_list, nd_tuple, ↓f_rng1 hb]
  refine ⟨⟨rfl, by rw [rngD_len]; exact Nat.le_trans hw (by decide)⟩, ?_⟩
  refine wc_inv (fun k ys ρ => ∃ (l : List Nat) (s' : DS) (x : Option SV), ys = l.map e ∧ l.length = k ∧ (∀ z ∈ l, z < 3) ∧ ρ = [some (.ow (dsD s')), some (.st (.int ↑kinds)), some (.st (.int ↑words)), none, none, none, none, none, none, x, none]) [] ⟨[], s, none, rfl, rfl, by simp, rfl⟩ (fun k d ys ρ ge z => ?_) fun zs ρ z => ?_
  · obtain ⟨l, s', x, rfl, hl, hz, rfl⟩ := z
    simp only [eq_self, Int.reduceLT, Int.reduceLE, Nat.reduceLT, Nat.reduceLeDiff, Int.reduceToNat, Int.toNat_natCast, ↓ws_seq, ↓sq_nx, ↓sq_rt, ↓sq_rf, ↓sq_bk, ↓sq_ct, ↓lq_nx, ↓lq_ct, ↓lq_bk, ↓lq_rt, ↓lq_rf, ↓ou_nx, ↓ou_rt, ↓ou_rf, ↓ws_next, ↓ws_break, ↓ws_cont, ↓ws_retNone, ↓ws_drop, ↓ws_ret, ↓ws_retF, ↓ws_set, ↓ws_setF, ↓rn_st, ↓rn_ow, ↓ws_retN, ↓sn_st, ↓sn_ow, ↓ws_setN, ↓ite_t, ↓ite_f, ↓ws_if, ↓ws_asg, ↓ws_store, ↓ws_aug, ↓ws_for, ↓ws_while, ↓we_c, ↓we_n, ↓we_op, ↓we_int, ↓wv_nil, ↓wv_ex, ↓wv_nm, ↓re_nil, ↓re_ex, ↓re_nm, ↓st_st, ↓ow_ow, ↓lk_st, ↓lk_ow, ↓bo_bo, ↓in_in, ↓wt_test, ↓wt_tru, ↓tr_bo, ↓tr_in, ↓tr_li, ↓tr_tu, ↓tr_no, ↓wt_not, ↓wt_and, ↓wt_or, ↓we_and, ↓we_or, ↓we_not, ↓we_if, ↓di_nil, ↓di_1, ↓di_2, ↓di_3, ↓di_4, ↓di_5, ↓di_6, ↓di_7, ↓di_8, ↓di_9, ↓di_10, ↓di_11, ↓di_12, ↓we_tup, ↓we_lst, ↓wm_nil, ↓wm_cons, ↓wa_nil, ↓wa_ex, ↓wa_st, ↓wa_io, ↓fz_nil, ↓fz_ex, ↓fz_io, ↓fy_st, ↓fy_ow, ↓ar_nil, ↓ar_ex, ↓ar_st, ↓ar_io, ↓pu_nil, ↓pu_cons, ↓we_call, ij_nil, ij_ex, ij_st, ij_io, ↓wg_nm, ↓wg_tu, ↓wg_tl, ↓wgs_nil, ↓wgs_cons, ↓we_methS', ↓ls_li, ↓we_meth, ↓we_chain, ↓we_rg1, ↓we_dict0, ↓we_get, ↓isd_d, ↓we_get2, ↓ws_put, ↓we_val, ↓wi_seq, ↓wi_rng, ↓wi_enum, ↓fq_seqL, ↓fq_seqT, ↓wt_yes, ↓rs_nil, ↓rs_cons, ↓wp_nil, ↓wp_cons, ↓we_comp, ↓we_compD, ↓we_comp2, ↓we_sset, ↓we_lset, ↓we_rev, ↓rv_l, ↓rv_t, ↓f_zip, ↓iq_nil, ↓iq_cons, ↓get_0, ↓set_0, ↓slot_0, ↓fz_0, ↓get_1, ↓set_1, ↓slot_1, ↓fz_1, ↓get_2, ↓set_2, ↓slot_2, ↓fz_2, ↓get_3, ↓set_3, ↓slot_3, ↓fz_3, ↓get_4, ↓set_4, ↓slot_4, ↓fz_4, ↓get_5, ↓set_5, ↓slot_5, ↓fz_5, ↓get_6, ↓set_6, ↓slot_6, ↓fz_6, ↓get_7, ↓set_7, ↓slot_7, ↓fz_7, ↓get_8, ↓set_8, ↓slot_8, ↓fz_8, ↓get_9, ↓set_9, ↓slot_9, ↓fz_9, ↓get_10, ↓set_10, ↓slot_10, ↓fz_10, ↓get_11, ↓set_11, ↓slot_11, ↓fz_11, ↓get_12, ↓set_12, ↓slot_12, ↓fz_12, ↓get_13, ↓set_13, ↓slot_13, ↓fz_13, ↓get_14, ↓set_14, ↓slot_14, ↓fz_14, ↓get_15, ↓set_15, ↓slot_15, ↓fz_15, ↓get_16, ↓set_16, ↓slot_16, ↓fz_16, ↓get_17, ↓set_17, ↓slot_17, ↓fz_17, ↓get_18, ↓set_18, ↓slot_18, ↓fz_18, ↓get_19, ↓set_19, ↓slot_19, ↓fz_19, ↓get_20, ↓set_20, ↓slot_20, ↓fz_20, ↓get_21, ↓set_21, ↓slot_21, ↓fz_21, ↓get_22, ↓set_22, ↓slot_22, ↓fz_22, ↓get_23, ↓set_23, ↓slot_23, ↓fz_23, ↓get_24, ↓set_24, ↓slot_24, ↓fz_24, ↓get_25, ↓set_25, ↓slot_25, ↓fz_25, ↓f_sub, ↓f_lt, ↓f_le, ↓f_gt, ↓f_ge, ↓f_add, ↓f_mod, ↓f_fdiv, ↓f_mulL, ↓f_mulR, ↓f_neg, ↓f_abs, ↓f_intI, ↓f_intB, ↓f_lenL, ↓f_lenT, ↓f_tupL, ↓f_tupT, ↓f_lisL, ↓f_lisT, ↓f_isB, ↓f_isNotB, ↓f_isN, ↓f_isNotN, ↓f_all, ↓f_any, ↓f_sum, ↓f_isi_int_int, ↓f_isi_int_bool, ↓f_isi_int_tuple, ↓f_isi_int_str, ↓f_isi_int_list, ↓f_isi_bool_int, ↓f_isi_bool_bool, ↓f_isi_bool_tuple, ↓f_isi_bool_str, ↓f_isi_bool_list, ↓f_isi_tuple_int, ↓f_isi_tuple_bool, ↓f_isi_tuple_tuple, ↓f_isi_tuple_str, ↓f_isi_tuple_list, ↓f_isi_str_int, ↓f_isi_str_bool, ↓f_isi_str_tuple, ↓f_isi_str_str, ↓f_isi_str_list, ↓f_isi_list_int, ↓f_isi_list_bool, ↓f_isi_list_tuple, ↓f_isi_list_str, ↓f_isi_list_list, ↓h_pop, ↓h_pop0, ↓f_rngI, ↓f_ixl0, ↓f_ixl1, ↓f_ixl2, ↓f_ixl3, ↓f_ixl4, ↓f_ixl5, ↓f_ixt0, ↓f_ixt1, ↓f_ixt2, ↓f_ixt3, ↓f_ixt4, ↓f_ixt5, ↓f_sd0, ↓f_sd1, ↓f_sd2, ↓f_sd3, ↓f_sd4, ↓f_sd5, nd_none, nd_bool, nd_int, nd_str, nd_list, nd_tuple, w_drawI]
    refine ⟨trivial, l ++ [dv s' 3], dn s' 3, _, by simp [en_nat], by simp [hl], ?_, rfl⟩
    intro z hz'
    rcases List.mem_append.mp hz' with h | h
    · exact hz z h
    · rw [List.mem_singleton.mp h]
      exact dv_lt (by decide) (by decide)
  obtain ⟨sizes, s1, x, rfl, hl, hz, rfl⟩ := z
  rw [rngD_len] at hl
  simp only [eq_self, Int.reduceLT, Int.reduceLE, Nat.reduceLT, Nat.reduceLeDiff, Int.reduceToNat, Int.toNat_natCast, ↓ws_seq, ↓sq_nx, ↓sq_rt, ↓sq_rf, ↓sq_bk, ↓sq_ct, ↓lq_nx, ↓lq_ct, ↓lq_bk, ↓lq_rt, ↓lq_rf, ↓ou_nx, ↓ou_rt, ↓ou_rf, ↓ws_next, ↓ws_break, ↓ws_cont, ↓ws_retNone, ↓ws_drop, ↓ws_ret, ↓ws_retF, ↓ws_set, ↓ws_setF, ↓rn_st, ↓rn_ow, ↓ws_retN, ↓sn_st, ↓sn_ow, ↓ws_setN, ↓ite_t, ↓ite_f, ↓ws_if, ↓ws_asg, ↓ws_store, ↓ws_aug, ↓ws_for, ↓ws_while, ↓we_c, ↓we_n, ↓we_op, ↓we_int, ↓wv_nil, ↓wv_ex, ↓wv_nm, ↓re_nil, ↓re_ex, ↓re_nm, ↓st_st, ↓ow_ow, ↓lk_st, ↓lk_ow, ↓bo_bo, ↓in_in, ↓wt_test, ↓wt_tru, ↓tr_bo, ↓tr_in, ↓tr_li, ↓tr_tu, ↓tr_no, ↓wt_not, ↓wt_and, ↓wt_or, ↓we_and, ↓we_or, ↓we_not, ↓we_if, ↓di_nil, ↓di_1, ↓di_2, ↓di_3, ↓di_4, ↓di_5, ↓di_6, ↓di_7, ↓di_8, ↓di_9, ↓di_10, ↓di_11, ↓di_12, ↓we_tup, ↓we_lst, ↓wm_nil, ↓wm_cons, ↓wa_nil, ↓wa_ex, ↓wa_st, ↓wa_io, ↓fz_nil, ↓fz_ex, ↓fz_io, ↓fy_st, ↓fy_ow, ↓ar_nil, ↓ar_ex, ↓ar_st, ↓ar_io, ↓pu_nil, ↓pu_cons, ↓we_call, ij_nil, ij_ex, ij_st, ij_io, ↓wg_nm, ↓wg_tu, ↓wg_tl, ↓wgs_nil, ↓wgs_cons, ↓we_methS', ↓ls_li, ↓we_meth, ↓we_chain, ↓we_rg1, ↓we_dict0, ↓we_get, ↓isd_d, ↓we_get2, ↓ws_put, ↓we_val, ↓wi_seq, ↓wi_rng, ↓wi_enum, ↓fq_seqL, ↓fq_seqT, ↓wt_yes, ↓rs_nil, ↓rs_cons, ↓wp_nil, ↓wp_cons, ↓we_comp, ↓we_compD, ↓we_comp2, ↓we_sset, ↓we_lset, ↓we_rev, ↓rv_l, ↓rv_t, ↓f_zip, ↓iq_nil, ↓iq_cons, ↓get_0, ↓set_0, ↓slot_0, ↓fz_0, ↓get_1, ↓set_1, ↓slot_1, ↓fz_1, ↓get_2, ↓set_2, ↓slot_2, ↓fz_2, ↓get_3, ↓set_3, ↓slot_3, ↓fz_3, ↓get_4, ↓set_4, ↓slot_4, ↓fz_4, ↓get_5, ↓set_5, ↓slot_5, ↓fz_5, ↓get_6, ↓set_6, ↓slot_6, ↓fz_6, ↓get_7, ↓set_7, ↓slot_7, ↓fz_7, ↓get_8, ↓set_8, ↓slot_8, ↓fz_8, ↓get_9, ↓set_9, ↓slot_9, ↓fz_9, ↓get_10, ↓set_10, ↓slot_10, ↓fz_10, ↓get_11, ↓set_11, ↓slot_11, ↓fz_11, ↓get_12, ↓set_12, ↓slot_12, ↓fz_12, ↓get_13, ↓set_13, ↓slot_13, ↓fz_13, ↓get_14, ↓set_14, ↓slot_14, ↓fz_14, ↓get_15, ↓set_15, ↓slot_15, ↓fz_15, ↓get_16, ↓set_16, ↓slot_16, ↓fz_16, ↓get_17, ↓set_17, ↓slot_17, ↓fz_17, ↓get_18, ↓set_18, ↓slot_18, ↓fz_18, ↓get_19, ↓set_19, ↓slot_19, ↓fz_19, ↓get_20, ↓set_20, ↓slot_20, ↓fz_20, ↓get_21, ↓set_21, ↓slot_21, ↓fz_21, ↓get_22, ↓set_22, ↓slot_22, ↓fz_22, ↓get_23, ↓set_23, ↓slot_23, ↓fz_23, ↓get_24, ↓set_24, ↓slot_24, ↓fz_24, ↓get_25, ↓set_25, ↓slot_25, ↓fz_25, ↓f_sub, ↓f_lt, ↓f_le, ↓f_gt, ↓f_ge, ↓f_add, ↓f_mod, ↓f_fdiv, ↓f_mulL, ↓f_mulR, ↓f_neg, ↓f_abs, ↓f_intI, ↓f_intB, ↓f_lenL, ↓f_lenT, ↓f_tupL, ↓f_tupT, ↓f_lisL, ↓f_lisT, ↓f_isB, ↓f_isNotB, ↓f_isN, ↓f_isNotN, ↓f_all, ↓f_any, ↓f_sum, ↓f_isi_int_int, ↓f_isi_int_bool, ↓f_isi_int_tuple, ↓f_isi_int_str, ↓f_isi_int_list, ↓f_isi_bool_int, ↓f_isi_bool_bool, ↓f_isi_bool_tuple, ↓f_isi_bool_str, ↓f_isi_bool_list, ↓f_isi_tuple_int, ↓f_isi_tuple_bool, ↓f_isi_tuple_tuple, ↓f_isi_tuple_str, ↓f_isi_tuple_list, ↓f_isi_str_int, ↓f_isi_str_bool, ↓f_isi_str_tuple, ↓f_isi_str_str, ↓f_isi_str_list, ↓f_isi_list_int, ↓f_isi_list_bool, ↓f_isi_list_tuple, ↓f_isi_list_str, ↓f_isi_list_list, ↓h_pop, ↓h_pop0, ↓f_rngI, ↓f_ixl0, ↓f_ixl1, ↓f_ixl2, ↓f_ixl3, ↓f_ixl4, ↓f_ixl5, ↓f_ixt0, ↓f_ixt1, ↓f_ixt2, ↓f_ixt3, ↓f_ixt4, ↓f_ixt5, ↓f_sd0, ↓f_sd1, ↓f_sd2, ↓f_sd3, ↓f_sd4, ↓f_sd5, nd_none, nd_bool, nd_int, nd_str, nd_list, nd_tuple, ↓f_rng1 hb2]
  refine wl_rng (fun k ρ => k ≤ kinds ∧ ∃ (M : Mach) (s' : DS) (sv : SV) (x5 x6 x7 x8 x9 : Option SV), (sv = .ow (.list (sizes.map e)) ∨ sv = .st (.list (sizes.map e))) ∧ M.length = k ∧ (∀ r ∈ M, r.length = words) ∧ (∀ r ∈ M, ∀ c ∈ r, c.2 < kinds) ∧ (∀ r ∈ M, ∀ c ∈ r, c.1.length ≤ 2 ∧ ∀ x ∈ c.1, x < 2) ∧ ρ = [some (.ow (dsD s')), some (.st (.int ↑kinds)), some (.st (.int ↑words)), some sv, some (.ow (.list (M.map e))), x5, x6, x7, x8, x9, none]) ⟨Nat.zero_le _, [], s1, _, _, _, _, _, _, .inl rfl, rfl, by simp, by simp, by simp, rfl⟩ (fun k ρ hkk z => ?_) fun ρ z => ?_
  · obtain ⟨_, M, s', sv, x5, x6, x7, x8, x9, hsv, m1, m2, m3, m4, rfl⟩ := z
    unfold b2_law_machine
    have main : ∀ Q : Out → Prop, (∀ (r : List Cell) (s2 : DS) (x7 x8 x9 : Option SV), r.length = words → (∀ c ∈ r, c.2 < kinds) → (∀ c ∈ r, c.1.length ≤ 2 ∧ ∀ x ∈ c.1, x < 2) →
        Q (.nx [some (.ow (dsD s2)), some (.st (.int ↑kinds)), some (.st (.int ↑words)), some (.st (.list (sizes.map e))), some (.ow (.list (M.map e))), some (.st (.int ↑k)), some (.ow (.list (r.map e))), x7, x8, x9, none])) →
        @WL (.nm 7) b1_law_machine (sizes.map e) [some (.ow (dsD s')), some (.st (.int ↑kinds)), some (.st (.int ↑words)), some (.st (.list (sizes.map e))), some (.ow (.list (M.map e))), some (.st (.int ↑k)), some (.ow (.list [])), x7, x8, x9, none] Q := fun Q q => by
      refine wl_map (fun i ρ => i ≤ sizes.length ∧ ∃ (r : List Cell) (s2 : DS) (x7 x8 x9 : Option SV), r.length = i ∧ (∀ c ∈ r, c.2 < kinds) ∧ (∀ c ∈ r, c.1.length ≤ 2 ∧ ∀ x ∈ c.1, x < 2) ∧
        ρ = [some (.ow (dsD s2)), some (.st (.int ↑kinds)), some (.st (.int ↑words)), some (.st (.list (sizes.map e))), some (.ow (.list (M.map e))), some (.st (.int ↑k)), some (.ow (.list (r.map e))), x7, x8, x9, none]) ⟨Nat.zero_le _, [], s', _, _, _, rfl, by simp, by simp, rfl⟩ (fun i ρ hi z => ?_) fun ρ z => ?_
      · obtain ⟨_, r, s2, x7, x8, x9, r1, r2, r3, rfl⟩ := z
        have hsz : sizes[i]! < 3 := by
          rw [getElem!_pos sizes i hi]
          exact hz _ (List.getElem_mem hi)
        have hs2 : sizes[i]! < 2 ^ 62 := by omega
        unfold b1_law_machine
        simp only [eq_self, Int.reduceLT, Int.reduceLE, Nat.reduceLT, Nat.reduceLeDiff, Int.reduceToNat, Int.toNat_natCast, ↓ws_seq, ↓sq_nx, ↓sq_rt, ↓sq_rf, ↓sq_bk, ↓sq_ct, ↓lq_nx, ↓lq_ct, ↓lq_bk, ↓lq_rt, ↓lq_rf, ↓ou_nx, ↓ou_rt, ↓ou_rf, ↓ws_next, ↓ws_break, ↓ws_cont, ↓ws_retNone, ↓ws_drop, ↓ws_ret, ↓ws_retF, ↓ws_set, ↓ws_setF, ↓rn_st, ↓rn_ow, ↓ws_retN, ↓sn_st, ↓sn_ow, ↓ws_setN, ↓ite_t, ↓ite_f, ↓ws_if, ↓ws_asg, ↓ws_store, ↓ws_aug, ↓ws_for, ↓ws_while, ↓we_c, ↓we_n, ↓we_op, ↓we_int, ↓wv_nil, ↓wv_ex, ↓wv_nm, ↓re_nil, ↓re_ex, ↓re_nm, ↓st_st, ↓ow_ow, ↓lk_st, ↓lk_ow, ↓bo_bo, ↓in_in, ↓wt_test, ↓wt_tru, ↓tr_bo, ↓tr_in, ↓tr_li, ↓tr_tu, ↓tr_no, ↓wt_not, ↓wt_and, ↓wt_or, ↓we_and, ↓we_or, ↓we_not, ↓we_if, ↓di_nil, ↓di_1, ↓di_2, ↓di_3, ↓di_4, ↓di_5, ↓di_6, ↓di_7, ↓di_8, ↓di_9, ↓di_10, ↓di_11, ↓di_12, ↓we_tup, ↓we_lst, ↓wm_nil, ↓wm_cons, ↓wa_nil, ↓wa_ex, ↓wa_st, ↓wa_io, ↓fz_nil, ↓fz_ex, ↓fz_io, ↓fy_st, ↓fy_ow, ↓ar_nil, ↓ar_ex, ↓ar_st, ↓ar_io, ↓pu_nil, ↓pu_cons, ↓we_call, ij_nil, ij_ex, ij_st, ij_io, ↓wg_nm, ↓wg_tu, ↓wg_tl, ↓wgs_nil, ↓wgs_cons, ↓we_methS', ↓ls_li, ↓we_meth, ↓we_chain, ↓we_rg1, ↓we_dict0, ↓we_get, ↓isd_d, ↓we_get2, ↓ws_put, ↓we_val, ↓wi_seq, ↓wi_rng, ↓wi_enum, ↓fq_seqL, ↓fq_seqT, ↓wt_yes, ↓rs_nil, ↓rs_cons, ↓wp_nil, ↓wp_cons, ↓we_comp, ↓we_compD, ↓we_comp2, ↓we_sset, ↓we_lset, ↓we_rev, ↓rv_l, ↓rv_t, ↓f_zip, ↓iq_nil, ↓iq_cons, ↓get_0, ↓set_0, ↓slot_0, ↓fz_0, ↓get_1, ↓set_1, ↓slot_1, ↓fz_1, ↓get_2, ↓set_2, ↓slot_2, ↓fz_2, ↓get_3, ↓set_3, ↓slot_3, ↓fz_3, ↓get_4, ↓set_4, ↓slot_4, ↓fz_4, ↓get_5, ↓set_5, ↓slot_5, ↓fz_5, ↓get_6, ↓set_6, ↓slot_6, ↓fz_6, ↓get_7, ↓set_7, ↓slot_7, ↓fz_7, ↓get_8, ↓set_8, ↓slot_8, ↓fz_8, ↓get_9, ↓set_9, ↓slot_9, ↓fz_9, ↓get_10, ↓set_10, ↓slot_10, ↓fz_10, ↓get_11, ↓set_11, ↓slot_11, ↓fz_11, ↓get_12, ↓set_12, ↓slot_12, ↓fz_12, ↓get_13, ↓set_13, ↓slot_13, ↓fz_13, ↓get_14, ↓set_14, ↓slot_14, ↓fz_14, ↓get_15, ↓set_15, ↓slot_15, ↓fz_15, ↓get_16, ↓set_16, ↓slot_16, ↓fz_16, ↓get_17, ↓set_17, ↓slot_17, ↓fz_17, ↓get_18, ↓set_18, ↓slot_18, ↓fz_18, ↓get_19, ↓set_19, ↓slot_19, ↓fz_19, ↓get_20, ↓set_20, ↓slot_20, ↓fz_20, ↓get_21, ↓set_21, ↓slot_21, ↓fz_21, ↓get_22, ↓set_22, ↓slot_22, ↓fz_22, ↓get_23, ↓set_23, ↓slot_23, ↓fz_23, ↓get_24, ↓set_24, ↓slot_24, ↓fz_24, ↓get_25, ↓set_25, ↓slot_25, ↓fz_25, ↓f_sub, ↓f_lt, ↓f_le, ↓f_gt, ↓f_ge, ↓f_add, ↓f_mod, ↓f_fdiv, ↓f_mulL, ↓f_mulR, ↓f_neg, ↓f_abs, ↓f_intI, ↓f_intB, ↓f_lenL, ↓f_lenT, ↓f_tupL, ↓f_tupT, ↓f_lisL, ↓f_lisT, ↓f_isB, ↓f_isNotB, ↓f_isN, ↓f_isNotN, ↓f_all, ↓f_any, ↓f_sum, ↓f_isi_int_int, ↓f_isi_int_bool, ↓f_isi_int_tuple, ↓f_isi_int_str, ↓f_isi_int_list, ↓f_isi_bool_int, ↓f_isi_bool_bool, ↓f_isi_bool_tuple, ↓f_isi_bool_str, ↓f_isi_bool_list, ↓f_isi_tuple_int, ↓f_isi_tuple_bool, ↓f_isi_tuple_tuple, ↓f_isi_tuple_str, ↓f_isi_tuple_list, ↓f_isi_str_int, ↓f_isi_str_bool, ↓f_isi_str_tuple, ↓f_isi_str_str, ↓f_isi_str_list, ↓f_isi_list_int, ↓f_isi_list_bool, ↓f_isi_list_tuple, ↓f_isi_list_str, ↓f_isi_list_list, ↓h_pop, ↓h_pop0, ↓f_rngI, ↓f_ixl0, ↓f_ixl1, ↓f_ixl2, ↓f_ixl3, ↓f_ixl4, ↓f_ixl5, ↓f_ixt0, ↓f_ixt1, ↓f_ixt2, ↓f_ixt3, ↓f_ixt4, ↓f_ixt5, ↓f_sd0, ↓f_sd1, ↓f_sd2, ↓f_sd3, ↓f_sd4, ↓f_sd5, nd_none, nd_bool, nd_int, nd_str, nd_list, nd_tuple, en_nat, ↓f_rng1 hs2]
        refine ⟨⟨rfl, by rw [rngD_len]; exact Nat.le_trans (Nat.le_of_lt hsz) (by decide)⟩, ?_⟩
        refine wc_inv (fun j ys ρ => ∃ (l : List Nat) (s3 : DS) (x : Option SV), ys = l.map e ∧ l.length = j ∧ (∀ z ∈ l, z < 2) ∧ ρ = [some (.ow (dsD s3)), some (.st (.int ↑kinds)), some (.st (.int ↑words)), some (.st (.list (sizes.map e))), some (.ow (.list (M.map e))), some (.st (.int ↑k)), some (.ow (.list (r.map e))), some (.st (.int ↑sizes[i]!)), x8, x9, x]) [] ⟨[], s2, none, rfl, rfl, by simp, rfl⟩ (fun j d ys ρ ge z => ?_) fun zs ρ z => ?_
        · obtain ⟨l, s3, x, rfl, hl', hz', rfl⟩ := z
          simp only [eq_self, Int.reduceLT, Int.reduceLE, Nat.reduceLT, Nat.reduceLeDiff, Int.reduceToNat, Int.toNat_natCast, ↓ws_seq, ↓sq_nx, ↓sq_rt, ↓sq_rf, ↓sq_bk, ↓sq_ct, ↓lq_nx, ↓lq_ct, ↓lq_bk, ↓lq_rt, ↓lq_rf, ↓ou_nx, ↓ou_rt, ↓ou_rf, ↓ws_next, ↓ws_break, ↓ws_cont, ↓ws_retNone, ↓ws_drop, ↓ws_ret, ↓ws_retF, ↓ws_set, ↓ws_setF, ↓rn_st, ↓rn_ow, ↓ws_retN, ↓sn_st, ↓sn_ow, ↓ws_setN, ↓ite_t, ↓ite_f, ↓ws_if, ↓ws_asg, ↓ws_store, ↓ws_aug, ↓ws_for, ↓ws_while, ↓we_c, ↓we_n, ↓we_op, ↓we_int, ↓wv_nil, ↓wv_ex, ↓wv_nm, ↓re_nil, ↓re_ex, ↓re_nm, ↓st_st, ↓ow_ow, ↓lk_st, ↓lk_ow, ↓bo_bo, ↓in_in, ↓wt_test, ↓wt_tru, ↓tr_bo, ↓tr_in, ↓tr_li, ↓tr_tu, ↓tr_no, ↓wt_not, ↓wt_and, ↓wt_or, ↓we_and, ↓we_or, ↓we_not, ↓we_if, ↓di_nil, ↓di_1, ↓di_2, ↓di_3, ↓di_4, ↓di_5, ↓di_6, ↓di_7, ↓di_8, ↓di_9, ↓di_10, ↓di_11, ↓di_12, ↓we_tup, ↓we_lst, ↓wm_nil, ↓wm_cons, ↓wa_nil, ↓wa_ex, ↓wa_st, ↓wa_io, ↓fz_nil, ↓fz_ex, ↓fz_io, ↓fy_st, ↓fy_ow, ↓ar_nil, ↓ar_ex, ↓ar_st, ↓ar_io, ↓pu_nil, ↓pu_cons, ↓we_call, ij_nil, ij_ex, ij_st, ij_io, ↓wg_nm, ↓wg_tu, ↓wg_tl, ↓wgs_nil, ↓wgs_cons, ↓we_methS', ↓ls_li, ↓we_meth, ↓we_chain, ↓we_rg1, ↓we_dict0, ↓we_get, ↓isd_d, ↓we_get2, ↓ws_put, ↓we_val, ↓wi_seq, ↓wi_rng, ↓wi_enum, ↓fq_seqL, ↓fq_seqT, ↓wt_yes, ↓rs_nil, ↓rs_cons, ↓wp_nil, ↓wp_cons, ↓we_comp, ↓we_compD, ↓we_comp2, ↓we_sset, ↓we_lset, ↓we_rev, ↓rv_l, ↓rv_t, ↓f_zip, ↓iq_nil, ↓iq_cons, ↓get_0, ↓set_0, ↓slot_0, ↓fz_0, ↓get_1, ↓set_1, ↓slot_1, ↓fz_1, ↓get_2, ↓set_2, ↓slot_2, ↓fz_2, ↓get_3, ↓set_3, ↓slot_3, ↓fz_3, ↓get_4, ↓set_4, ↓slot_4, ↓fz_4, ↓get_5, ↓set_5, ↓slot_5, ↓fz_5, ↓get_6, ↓set_6, ↓slot_6, ↓fz_6, ↓get_7, ↓set_7, ↓slot_7, ↓fz_7, ↓get_8, ↓set_8, ↓slot_8, ↓fz_8, ↓get_9, ↓set_9, ↓slot_9, ↓fz_9, ↓get_10, ↓set_10, ↓slot_10, ↓fz_10, ↓get_11, ↓set_11, ↓slot_11, ↓fz_11, ↓get_12, ↓set_12, ↓slot_12, ↓fz_12, ↓get_13, ↓set_13, ↓slot_13, ↓fz_13, ↓get_14, ↓set_14, ↓slot_14, ↓fz_14, ↓get_15, ↓set_15, ↓slot_15, ↓fz_15, ↓get_16, ↓set_16, ↓slot_16, ↓fz_16, ↓get_17, ↓set_17, ↓slot_17, ↓fz_17, ↓get_18, ↓set_18, ↓slot_18, ↓fz_18, ↓get_19, ↓set_19, ↓slot_19, ↓fz_19, ↓get_20, ↓set_20, ↓slot_20, ↓fz_20, ↓get_21, ↓set_21, ↓slot_21, ↓fz_21, ↓get_22, ↓set_22, ↓slot_22, ↓fz_22, ↓get_23, ↓set_23, ↓slot_23, ↓fz_23, ↓get_24, ↓set_24, ↓slot_24, ↓fz_24, ↓get_25, ↓set_25, ↓slot_25, ↓fz_25, ↓f_sub, ↓f_lt, ↓f_le, ↓f_gt, ↓f_ge, ↓f_add, ↓f_mod, ↓f_fdiv, ↓f_mulL, ↓f_mulR, ↓f_neg, ↓f_abs, ↓f_intI, ↓f_intB, ↓f_lenL, ↓f_lenT, ↓f_tupL, ↓f_tupT, ↓f_lisL, ↓f_lisT, ↓f_isB, ↓f_isNotB, ↓f_isN, ↓f_isNotN, ↓f_all, ↓f_any, ↓f_sum, ↓f_isi_int_int, ↓f_isi_int_bool, ↓f_isi_int_tuple, ↓f_isi_int_str, ↓f_isi_int_list, ↓f_isi_bool_int, ↓f_isi_bool_bool, ↓f_isi_bool_tuple, ↓f_isi_bool_str, ↓f_isi_bool_list, ↓f_isi_tuple_int, ↓f_isi_tuple_bool, ↓f_isi_tuple_tuple, ↓f_isi_tuple_str, ↓f_isi_tuple_list, ↓f_isi_str_int, ↓f_isi_str_bool, ↓f_isi_str_tuple, ↓f_isi_str_str, ↓f_isi_str_list, ↓f_isi_list_int, ↓f_isi_list_bool, ↓f_isi_list_tuple, ↓f_isi_list_str, ↓f_isi_list_list, ↓h_pop, ↓h_pop0, ↓f_rngI, ↓f_ixl0, ↓f_ixl1, ↓f_ixl2, ↓f_ixl3, ↓f_ixl4, ↓f_ixl5, ↓f_ixt0, ↓f_ixt1, ↓f_ixt2, ↓f_ixt3, ↓f_ixt4, ↓f_ixt5, ↓f_sd0, ↓f_sd1, ↓f_sd2, ↓f_sd3, ↓f_sd4, ↓f_sd5, nd_none, nd_bool, nd_int, nd_str, nd_list, nd_tuple, w_drawI]
          refine ⟨trivial, l ++ [dv s3 2], dn s3 2, _, by simp [en_nat], by simp [hl'], ?_, rfl⟩
          intro z hz2
          rcases List.mem_append.mp hz2 with h | h
          · exact hz' z h
          · rw [List.mem_singleton.mp h]
            exact dv_lt (by decide) (by decide)
        · obtain ⟨l, s3, x, h1, hl', hz', rfl⟩ := z
          rw [rngD_len] at hl'
          rw [List.nil_append] at h1
          subst h1
          have hk3 : kinds < 1073741824 := by omega
          have hrl : r.length < sizeLine := Nat.lt_of_lt_of_le (show r.length < 101 by omega) (by decide)
          have e1 : PyData.tuple [PyData.tuple (l.map e), PyData.int (dv s3 kinds : Nat)] = e ((l, dv s3 kinds) : Cell) := rfl
          simp only [eq_self, Int.reduceLT, Int.reduceLE, Nat.reduceLT, Nat.reduceLeDiff, Int.reduceToNat, Int.toNat_natCast, ↓ws_seq, ↓sq_nx, ↓sq_rt, ↓sq_rf, ↓sq_bk, ↓sq_ct, ↓lq_nx, ↓lq_ct, ↓lq_bk, ↓lq_rt, ↓lq_rf, ↓ou_nx, ↓ou_rt, ↓ou_rf, ↓ws_next, ↓ws_break, ↓ws_cont, ↓ws_retNone, ↓ws_drop, ↓ws_ret, ↓ws_retF, ↓ws_set, ↓ws_setF, ↓rn_st, ↓rn_ow, ↓ws_retN, ↓sn_st, ↓sn_ow, ↓ws_setN, ↓ite_t, ↓ite_f, ↓ws_if, ↓ws_asg, ↓ws_store, ↓ws_aug, ↓ws_for, ↓ws_while, ↓we_c, ↓we_n, ↓we_op, ↓we_int, ↓wv_nil, ↓wv_ex, ↓wv_nm, ↓re_nil, ↓re_ex, ↓re_nm, ↓st_st, ↓ow_ow, ↓lk_st, ↓lk_ow, ↓bo_bo, ↓in_in, ↓wt_test, ↓wt_tru, ↓tr_bo, ↓tr_in, ↓tr_li, ↓tr_tu, ↓tr_no, ↓wt_not, ↓wt_and, ↓wt_or, ↓we_and, ↓we_or, ↓we_not, ↓we_if, ↓di_nil, ↓di_1, ↓di_2, ↓di_3, ↓di_4, ↓di_5, ↓di_6, ↓di_7, ↓di_8, ↓di_9, ↓di_10, ↓di_11, ↓di_12, ↓we_tup, ↓we_lst, ↓wm_nil, ↓wm_cons, ↓wa_nil, ↓wa_ex, ↓wa_st, ↓wa_io, ↓fz_nil, ↓fz_ex, ↓fz_io, ↓fy_st, ↓fy_ow, ↓ar_nil, ↓ar_ex, ↓ar_st, ↓ar_io, ↓pu_nil, ↓pu_cons, ↓we_call, ij_nil, ij_ex, ij_st, ij_io, ↓wg_nm, ↓wg_tu, ↓wg_tl, ↓wgs_nil, ↓wgs_cons, ↓we_methS', ↓ls_li, ↓we_meth, ↓we_chain, ↓we_rg1, ↓we_dict0, ↓we_get, ↓isd_d, ↓we_get2, ↓ws_put, ↓we_val, ↓wi_seq, ↓wi_rng, ↓wi_enum, ↓fq_seqL, ↓fq_seqT, ↓wt_yes, ↓rs_nil, ↓rs_cons, ↓wp_nil, ↓wp_cons, ↓we_comp, ↓we_compD, ↓we_comp2, ↓we_sset, ↓we_lset, ↓we_rev, ↓rv_l, ↓rv_t, ↓f_zip, ↓iq_nil, ↓iq_cons, ↓get_0, ↓set_0, ↓slot_0, ↓fz_0, ↓get_1, ↓set_1, ↓slot_1, ↓fz_1, ↓get_2, ↓set_2, ↓slot_2, ↓fz_2, ↓get_3, ↓set_3, ↓slot_3, ↓fz_3, ↓get_4, ↓set_4, ↓slot_4, ↓fz_4, ↓get_5, ↓set_5, ↓slot_5, ↓fz_5, ↓get_6, ↓set_6, ↓slot_6, ↓fz_6, ↓get_7, ↓set_7, ↓slot_7, ↓fz_7, ↓get_8, ↓set_8, ↓slot_8, ↓fz_8, ↓get_9, ↓set_9, ↓slot_9, ↓fz_9, ↓get_10, ↓set_10, ↓slot_10, ↓fz_10, ↓get_11, ↓set_11, ↓slot_11, ↓fz_11, ↓get_12, ↓set_12, ↓slot_12, ↓fz_12, ↓get_13, ↓set_13, ↓slot_13, ↓fz_13, ↓get_14, ↓set_14, ↓slot_14, ↓fz_14, ↓get_15, ↓set_15, ↓slot_15, ↓fz_15, ↓get_16, ↓set_16, ↓slot_16, ↓fz_16, ↓get_17, ↓set_17, ↓slot_17, ↓fz_17, ↓get_18, ↓set_18, ↓slot_18, ↓fz_18, ↓get_19, ↓set_19, ↓slot_19, ↓fz_19, ↓get_20, ↓set_20, ↓slot_20, ↓fz_20, ↓get_21, ↓set_21, ↓slot_21, ↓fz_21, ↓get_22, ↓set_22, ↓slot_22, ↓fz_22, ↓get_23, ↓set_23, ↓slot_23, ↓fz_23, ↓get_24, ↓set_24, ↓slot_24, ↓fz_24, ↓get_25, ↓set_25, ↓slot_25, ↓fz_25, ↓f_sub, ↓f_lt, ↓f_le, ↓f_gt, ↓f_ge, ↓f_add, ↓f_mod, ↓f_fdiv, ↓f_mulL, ↓f_mulR, ↓f_neg, ↓f_abs, ↓f_intI, ↓f_intB, ↓f_lenL, ↓f_lenT, ↓f_tupL, ↓f_tupT, ↓f_lisL, ↓f_lisT, ↓f_isB, ↓f_isNotB, ↓f_isN, ↓f_isNotN, ↓f_all, ↓f_any, ↓f_sum, ↓f_isi_int_int, ↓f_isi_int_bool, ↓f_isi_int_tuple, ↓f_isi_int_str, ↓f_isi_int_list, ↓f_isi_bool_int, ↓f_isi_bool_bool, ↓f_isi_bool_tuple, ↓f_isi_bool_str, ↓f_isi_bool_list, ↓f_isi_tuple_int, ↓f_isi_tuple_bool, ↓f_isi_tuple_tuple, ↓f_isi_tuple_str, ↓f_isi_tuple_list, ↓f_isi_str_int, ↓f_isi_str_bool, ↓f_isi_str_tuple, ↓f_isi_str_str, ↓f_isi_str_list, ↓f_isi_list_int, ↓f_isi_list_bool, ↓f_isi_list_tuple, ↓f_isi_list_str, ↓f_isi_list_list, ↓h_pop, ↓h_pop0, ↓f_rngI, ↓f_ixl0, ↓f_ixl1, ↓f_ixl2, ↓f_ixl3, ↓f_ixl4, ↓f_ixl5, ↓f_ixt0, ↓f_ixt1, ↓f_ixt2, ↓f_ixt3, ↓f_ixt4, ↓f_ixt5, ↓f_sd0, ↓f_sd1, ↓f_sd2, ↓f_sd3, ↓f_sd4, ↓f_sd5, nd_none, nd_bool, nd_int, nd_str, nd_list, nd_tuple, w_draw, hk, hk3, e1, ↓q_app hrl]
          refine ⟨hi, r ++ [(l, dv s3 kinds)], dn s3 kinds, _, _, _, by simp [r1], ?_, ?_, rfl⟩
          · intro c hc
            rcases List.mem_append.mp hc with h | h
            · exact r2 c h
            · rw [List.mem_singleton.mp h]
              exact dv_lt hk hk3
          · intro c hc
            rcases List.mem_append.mp hc with h | h
            · exact r3 c h
            · rw [List.mem_singleton.mp h]
              exact ⟨by show l.length ≤ 2; omega, hz'⟩
      · obtain ⟨_, r, s2, x7, x8, x9, r1, r2, r3, rfl⟩ := z
        exact q r s2 _ _ _ (r1.trans hl) r2 r3
    have hml : M.length < sizeLine := Nat.lt_of_lt_of_le (show M.length < 101 by omega) (by decide)
    rcases hsv with rfl | rfl
    all_goals
      simp only [eq_self, Int.reduceLT, Int.reduceLE, Nat.reduceLT, Nat.reduceLeDiff, Int.reduceToNat, Int.toNat_natCast, ↓ws_seq, ↓sq_nx, ↓sq_rt, ↓sq_rf, ↓sq_bk, ↓sq_ct, ↓lq_nx, ↓lq_ct, ↓lq_bk, ↓lq_rt, ↓lq_rf, ↓ou_nx, ↓ou_rt, ↓ou_rf, ↓ws_next, ↓ws_break, ↓ws_cont, ↓ws_retNone, ↓ws_drop, ↓ws_ret, ↓ws_retF, ↓ws_set, ↓ws_setF, ↓rn_st, ↓rn_ow, ↓ws_retN, ↓sn_st, ↓sn_ow, ↓ws_setN, ↓ite_t, ↓ite_f, ↓ws_if, ↓ws_asg, ↓ws_store, ↓ws_aug, ↓ws_for, ↓ws_while, ↓we_c, ↓we_n, ↓we_op, ↓we_int, ↓wv_nil, ↓wv_ex, ↓wv_nm, ↓re_nil, ↓re_ex, ↓re_nm, ↓st_st, ↓ow_ow, ↓lk_st, ↓lk_ow, ↓bo_bo, ↓in_in, ↓wt_test, ↓wt_tru, ↓tr_bo, ↓tr_in, ↓tr_li, ↓tr_tu, ↓tr_no, ↓wt_not, ↓wt_and, ↓wt_or, ↓we_and, ↓we_or, ↓we_not, ↓we_if, ↓di_nil, ↓di_1, ↓di_2, ↓di_3, ↓di_4, ↓di_5, ↓di_6, ↓di_7, ↓di_8, ↓di_9, ↓di_10, ↓di_11, ↓di_12, ↓we_tup, ↓we_lst, ↓wm_nil, ↓wm_cons, ↓wa_nil, ↓wa_ex, ↓wa_st, ↓wa_io, ↓fz_nil, ↓fz_ex, ↓fz_io, ↓fy_st, ↓fy_ow, ↓ar_nil, ↓ar_ex, ↓ar_st, ↓ar_io, ↓pu_nil, ↓pu_cons, ↓we_call, ij_nil, ij_ex, ij_st, ij_io, ↓wg_nm, ↓wg_tu, ↓wg_tl, ↓wgs_nil, ↓wgs_cons, ↓we_methS', ↓ls_li, ↓we_meth, ↓we_chain, ↓we_rg1, ↓we_dict0, ↓we_get, ↓isd_d, ↓we_get2, ↓ws_put, ↓we_val, ↓wi_seq, ↓wi_rng, ↓wi_enum, ↓fq_seqL, ↓fq_seqT, ↓wt_yes, ↓rs_nil, ↓rs_cons, ↓wp_nil, ↓wp_cons, ↓we_comp, ↓we_compD, ↓we_comp2, ↓we_sset, ↓we_lset, ↓we_rev, ↓rv_l, ↓rv_t, ↓f_zip, ↓iq_nil, ↓iq_cons, ↓get_0, ↓set_0, ↓slot_0, ↓fz_0, ↓get_1, ↓set_1, ↓slot_1, ↓fz_1, ↓get_2, ↓set_2, ↓slot_2, ↓fz_2, ↓get_3, ↓set_3, ↓slot_3, ↓fz_3, ↓get_4, ↓set_4, ↓slot_4, ↓fz_4, ↓get_5, ↓set_5, ↓slot_5, ↓fz_5, ↓get_6, ↓set_6, ↓slot_6, ↓fz_6, ↓get_7, ↓set_7, ↓slot_7, ↓fz_7, ↓get_8, ↓set_8, ↓slot_8, ↓fz_8, ↓get_9, ↓set_9, ↓slot_9, ↓fz_9, ↓get_10, ↓set_10, ↓slot_10, ↓fz_10, ↓get_11, ↓set_11, ↓slot_11, ↓fz_11, ↓get_12, ↓set_12, ↓slot_12, ↓fz_12, ↓get_13, ↓set_13, ↓slot_13, ↓fz_13, ↓get_14, ↓set_14, ↓slot_14, ↓fz_14, ↓get_15, ↓set_15, ↓slot_15, ↓fz_15, ↓get_16, ↓set_16, ↓slot_16, ↓fz_16, ↓get_17, ↓set_17, ↓slot_17, ↓fz_17, ↓get_18, ↓set_18, ↓slot_18, ↓fz_18, ↓get_19, ↓set_19, ↓slot_19, ↓fz_19, ↓get_20, ↓set_20, ↓slot_20, ↓fz_20, ↓get_21, ↓set_21, ↓slot_21, ↓fz_21, ↓get_22, ↓set_22, ↓slot_22, ↓fz_22, ↓get_23, ↓set_23, ↓slot_23, ↓fz_23, ↓get_24, ↓set_24, ↓slot_24, ↓fz_24, ↓get_25, ↓set_25, ↓slot_25, ↓fz_25, ↓f_sub, ↓f_lt, ↓f_le, ↓f_gt, ↓f_ge, ↓f_add, ↓f_mod, ↓f_fdiv, ↓f_mulL, ↓f_mulR, ↓f_neg, ↓f_abs, ↓f_intI, ↓f_intB, ↓f_lenL, ↓f_lenT, ↓f_tupL, ↓f_tupT, ↓f_lisL, ↓f_lisT, ↓f_isB, ↓f_isNotB, ↓f_isN, ↓f_isNotN, ↓f_all, ↓f_any, ↓f_sum, ↓f_isi_int_int, ↓f_isi_int_bool, ↓f_isi_int_tuple, ↓f_isi_int_str, ↓f_isi_int_list, ↓f_isi_bool_int, ↓f_isi_bool_bool, ↓f_isi_bool_tuple, ↓f_isi_bool_str, ↓f_isi_bool_list, ↓f_isi_tuple_int, ↓f_isi_tuple_bool, ↓f_isi_tuple_tuple, ↓f_isi_tuple_str, ↓f_isi_tuple_list, ↓f_isi_str_int, ↓f_isi_str_bool, ↓f_isi_str_tuple, ↓f_isi_str_str, ↓f_isi_str_list, ↓f_isi_list_int, ↓f_isi_list_bool, ↓f_isi_list_tuple, ↓f_isi_list_str, ↓f_isi_list_list, ↓h_pop, ↓h_pop0, ↓f_rngI, ↓f_ixl0, ↓f_ixl1, ↓f_ixl2, ↓f_ixl3, ↓f_ixl4, ↓f_ixl5, ↓f_ixt0, ↓f_ixt1, ↓f_ixt2, ↓f_ixt3, ↓f_ixt4, ↓f_ixt5, ↓f_sd0, ↓f_sd1, ↓f_sd2, ↓f_sd3, ↓f_sd4, ↓f_sd5, nd_none, nd_bool, nd_int, nd_str, nd_list, nd_tuple]
      refine main _ fun r s2 x7 x8 x9 r1 r2 r3 => ?_
      have e1 : PyData.tuple (r.map e) = e r := rfl
      simp only [eq_self, Int.reduceLT, Int.reduceLE, Nat.reduceLT, Nat.reduceLeDiff, Int.reduceToNat, Int.toNat_natCast, ↓ws_seq, ↓sq_nx, ↓sq_rt, ↓sq_rf, ↓sq_bk, ↓sq_ct, ↓lq_nx, ↓lq_ct, ↓lq_bk, ↓lq_rt, ↓lq_rf, ↓ou_nx, ↓ou_rt, ↓ou_rf, ↓ws_next, ↓ws_break, ↓ws_cont, ↓ws_retNone, ↓ws_drop, ↓ws_ret, ↓ws_retF, ↓ws_set, ↓ws_setF, ↓rn_st, ↓rn_ow, ↓ws_retN, ↓sn_st, ↓sn_ow, ↓ws_setN, ↓ite_t, ↓ite_f, ↓ws_if, ↓ws_asg, ↓ws_store, ↓ws_aug, ↓ws_for, ↓ws_while, ↓we_c, ↓we_n, ↓we_op, ↓we_int, ↓wv_nil, ↓wv_ex, ↓wv_nm, ↓re_nil, ↓re_ex, ↓re_nm, ↓st_st, ↓ow_ow, ↓lk_st, ↓lk_ow, ↓bo_bo, ↓in_in, ↓wt_test, ↓wt_tru, ↓tr_bo, ↓tr_in, ↓tr_li, ↓tr_tu, ↓tr_no, ↓wt_not, ↓wt_and, ↓wt_or, ↓we_and, ↓we_or, ↓we_not, ↓we_if, ↓di_nil, ↓di_1, ↓di_2, ↓di_3, ↓di_4, ↓di_5, ↓di_6, ↓di_7, ↓di_8, ↓di_9, ↓di_10, ↓di_11, ↓di_12, ↓we_tup, ↓we_lst, ↓wm_nil, ↓wm_cons, ↓wa_nil, ↓wa_ex, ↓wa_st, ↓wa_io, ↓fz_nil, ↓fz_ex, ↓fz_io, ↓fy_st, ↓fy_ow, ↓ar_nil, ↓ar_ex, ↓ar_st, ↓ar_io, ↓pu_nil, ↓pu_cons, ↓we_call, ij_nil, ij_ex, ij_st, ij_io, ↓wg_nm, ↓wg_tu, ↓wg_tl, ↓wgs_nil, ↓wgs_cons, ↓we_methS', ↓ls_li, ↓we_meth, ↓we_chain, ↓we_rg1, ↓we_dict0, ↓we_get, ↓isd_d, ↓we_get2, ↓ws_put, ↓we_val, ↓wi_seq, ↓wi_rng, ↓wi_enum, ↓fq_seqL, ↓fq_seqT, ↓wt_yes, ↓rs_nil, ↓rs_cons, ↓wp_nil, ↓wp_cons, ↓we_comp, ↓we_compD, ↓we_comp2, ↓we_sset, ↓we_lset, ↓we_rev, ↓rv_l, ↓rv_t, ↓f_zip, ↓iq_nil, ↓iq_cons, ↓get_0, ↓set_0, ↓slot_0, ↓fz_0, ↓get_1, ↓set_1, ↓slot_1, ↓fz_1, ↓get_2, ↓set_2, ↓slot_2, ↓fz_2, ↓get_3, ↓set_3, ↓slot_3, ↓fz_3, ↓get_4, ↓set_4, ↓slot_4, ↓fz_4, ↓get_5, ↓set_5, ↓slot_5, ↓fz_5, ↓get_6, ↓set_6, ↓slot_6, ↓fz_6, ↓get_7, ↓set_7, ↓slot_7, ↓fz_7, ↓get_8, ↓set_8, ↓slot_8, ↓fz_8, ↓get_9, ↓set_9, ↓slot_9, ↓fz_9, ↓get_10, ↓set_10, ↓slot_10, ↓fz_10, ↓get_11, ↓set_11, ↓slot_11, ↓fz_11, ↓get_12, ↓set_12, ↓slot_12, ↓fz_12, ↓get_13, ↓set_13, ↓slot_13, ↓fz_13, ↓get_14, ↓set_14, ↓slot_14, ↓fz_14, ↓get_15, ↓set_15, ↓slot_15, ↓fz_15, ↓get_16, ↓set_16, ↓slot_16, ↓fz_16, ↓get_17, ↓set_17, ↓slot_17, ↓fz_17, ↓get_18, ↓set_18, ↓slot_18, ↓fz_18, ↓get_19, ↓set_19, ↓slot_19, ↓fz_19, ↓get_20, ↓set_20, ↓slot_20, ↓fz_20, ↓get_21, ↓set_21, ↓slot_21, ↓fz_21, ↓get_22, ↓set_22, ↓slot_22, ↓fz_22, ↓get_23, ↓set_23, ↓slot_23, ↓fz_23, ↓get_24, ↓set_24, ↓slot_24, ↓fz_24, ↓get_25, ↓set_25, ↓slot_25, ↓fz_25, ↓f_sub, ↓f_lt, ↓f_le, ↓f_gt, ↓f_ge, ↓f_add, ↓f_mod, ↓f_fdiv, ↓f_mulL, ↓f_mulR, ↓f_neg, ↓f_abs, ↓f_intI, ↓f_intB, ↓f_lenL, ↓f_lenT, ↓f_tupL, ↓f_tupT, ↓f_lisL, ↓f_lisT, ↓f_isB, ↓f_isNotB, ↓f_isN, ↓f_isNotN, ↓f_all, ↓f_any, ↓f_sum, ↓f_isi_int_int, ↓f_isi_int_bool, ↓f_isi_int_tuple, ↓f_isi_int_str, ↓f_isi_int_list, ↓f_isi_bool_int, ↓f_isi_bool_bool, ↓f_isi_bool_tuple, ↓f_isi_bool_str, ↓f_isi_bool_list, ↓f_isi_tuple_int, ↓f_isi_tuple_bool, ↓f_isi_tuple_tuple, ↓f_isi_tuple_str, ↓f_isi_tuple_list, ↓f_isi_str_int, ↓f_isi_str_bool, ↓f_isi_str_tuple, ↓f_isi_str_str, ↓f_isi_str_list, ↓f_isi_list_int, ↓f_isi_list_bool, ↓f_isi_list_tuple, ↓f_isi_list_str, ↓f_isi_list_list, ↓h_pop, ↓h_pop0, ↓f_rngI, ↓f_ixl0, ↓f_ixl1, ↓f_ixl2, ↓f_ixl3, ↓f_ixl4, ↓f_ixl5, ↓f_ixt0, ↓f_ixt1, ↓f_ixt2, ↓f_ixt3, ↓f_ixt4, ↓f_ixt5, ↓f_sd0, ↓f_sd1, ↓f_sd2, ↓f_sd3, ↓f_sd4, ↓f_sd5, nd_none, nd_bool, nd_int, nd_str, nd_list, nd_tuple, e1, ↓q_app hml]
      refine ⟨hkk, M ++ [r], s2, _, _, _, _, _, _, .inr rfl, by simp [m1], ?_, ?_, ?_, rfl⟩
      · intro c hc
        rcases List.mem_append.mp hc with h | h
        · exact m2 c h
        · rw [List.mem_singleton.mp h]
          exact r1
      · intro c hc
        rcases List.mem_append.mp hc with h | h
        · exact m3 c h
        · rw [List.mem_singleton.mp h]
          exact r2
      · intro c hc
        rcases List.mem_append.mp hc with h | h
        · exact m4 c h
        · rw [List.mem_singleton.mp h]
          exact r3
  · obtain ⟨_, M, s', sv, x5, x6, x7, x8, x9, hsv, m1, m2, m3, m4, rfl⟩ := z
    simp only [eq_self, Int.reduceLT, Int.reduceLE, Nat.reduceLT, Nat.reduceLeDiff, Int.reduceToNat, Int.toNat_natCast, ↓ws_seq, ↓sq_nx, ↓sq_rt, ↓sq_rf, ↓sq_bk, ↓sq_ct, ↓lq_nx, ↓lq_ct, ↓lq_bk, ↓lq_rt, ↓lq_rf, ↓ou_nx, ↓ou_rt, ↓ou_rf, ↓ws_next, ↓ws_break, ↓ws_cont, ↓ws_retNone, ↓ws_drop, ↓ws_ret, ↓ws_retF, ↓ws_set, ↓ws_setF, ↓rn_st, ↓rn_ow, ↓ws_retN, ↓sn_st, ↓sn_ow, ↓ws_setN, ↓ite_t, ↓ite_f, ↓ws_if, ↓ws_asg, ↓ws_store, ↓ws_aug, ↓ws_for, ↓ws_while, ↓we_c, ↓we_n, ↓we_op, ↓we_int, ↓wv_nil, ↓wv_ex, ↓wv_nm, ↓re_nil, ↓re_ex, ↓re_nm, ↓st_st, ↓ow_ow, ↓lk_st, ↓lk_ow, ↓bo_bo, ↓in_in, ↓wt_test, ↓wt_tru, ↓tr_bo, ↓tr_in, ↓tr_li, ↓tr_tu, ↓tr_no, ↓wt_not, ↓wt_and, ↓wt_or, ↓we_and, ↓we_or, ↓we_not, ↓we_if, ↓di_nil, ↓di_1, ↓di_2, ↓di_3, ↓di_4, ↓di_5, ↓di_6, ↓di_7, ↓di_8, ↓di_9, ↓di_10, ↓di_11, ↓di_12, ↓we_tup, ↓we_lst, ↓wm_nil, ↓wm_cons, ↓wa_nil, ↓wa_ex, ↓wa_st, ↓wa_io, ↓fz_nil, ↓fz_ex, ↓fz_io, ↓fy_st, ↓fy_ow, ↓ar_nil, ↓ar_ex, ↓ar_st, ↓ar_io, ↓pu_nil, ↓pu_cons, ↓we_call, ij_nil, ij_ex, ij_st, ij_io, ↓wg_nm, ↓wg_tu, ↓wg_tl, ↓wgs_nil, ↓wgs_cons, ↓we_methS', ↓ls_li, ↓we_meth, ↓we_chain, ↓we_rg1, ↓we_dict0, ↓we_get, ↓isd_d, ↓we_get2, ↓ws_put, ↓we_val, ↓wi_seq, ↓wi_rng, ↓wi_enum, ↓fq_seqL, ↓fq_seqT, ↓wt_yes, ↓rs_nil, ↓rs_cons, ↓wp_nil, ↓wp_cons, ↓we_comp, ↓we_compD, ↓we_comp2, ↓we_sset, ↓we_lset, ↓we_rev, ↓rv_l, ↓rv_t, ↓f_zip, ↓iq_nil, ↓iq_cons, ↓get_0, ↓set_0, ↓slot_0, ↓fz_0, ↓get_1, ↓set_1, ↓slot_1, ↓fz_1, ↓get_2, ↓set_2, ↓slot_2, ↓fz_2, ↓get_3, ↓set_3, ↓slot_3, ↓fz_3, ↓get_4, ↓set_4, ↓slot_4, ↓fz_4, ↓get_5, ↓set_5, ↓slot_5, ↓fz_5, ↓get_6, ↓set_6, ↓slot_6, ↓fz_6, ↓get_7, ↓set_7, ↓slot_7, ↓fz_7, ↓get_8, ↓set_8, ↓slot_8, ↓fz_8, ↓get_9, ↓set_9, ↓slot_9, ↓fz_9, ↓get_10, ↓set_10, ↓slot_10, ↓fz_10, ↓get_11, ↓set_11, ↓slot_11, ↓fz_11, ↓get_12, ↓set_12, ↓slot_12, ↓fz_12, ↓get_13, ↓set_13, ↓slot_13, ↓fz_13, ↓get_14, ↓set_14, ↓slot_14, ↓fz_14, ↓get_15, ↓set_15, ↓slot_15, ↓fz_15, ↓get_16, ↓set_16, ↓slot_16, ↓fz_16, ↓get_17, ↓set_17, ↓slot_17, ↓fz_17, ↓get_18, ↓set_18, ↓slot_18, ↓fz_18, ↓get_19, ↓set_19, ↓slot_19, ↓fz_19, ↓get_20, ↓set_20, ↓slot_20, ↓fz_20, ↓get_21, ↓set_21, ↓slot_21, ↓fz_21, ↓get_22, ↓set_22, ↓slot_22, ↓fz_22, ↓get_23, ↓set_23, ↓slot_23, ↓fz_23, ↓get_24, ↓set_24, ↓slot_24, ↓fz_24, ↓get_25, ↓set_25, ↓slot_25, ↓fz_25, ↓f_sub, ↓f_lt, ↓f_le, ↓f_gt, ↓f_ge, ↓f_add, ↓f_mod, ↓f_fdiv, ↓f_mulL, ↓f_mulR, ↓f_neg, ↓f_abs, ↓f_intI, ↓f_intB, ↓f_lenL, ↓f_lenT, ↓f_tupL, ↓f_tupT, ↓f_lisL, ↓f_lisT, ↓f_isB, ↓f_isNotB, ↓f_isN, ↓f_isNotN, ↓f_all, ↓f_any, ↓f_sum, ↓f_isi_int_int, ↓f_isi_int_bool, ↓f_isi_int_tuple, ↓f_isi_int_str, ↓f_isi_int_list, ↓f_isi_bool_int, ↓f_isi_bool_bool, ↓f_isi_bool_tuple, ↓f_isi_bool_str, ↓f_isi_bool_list, ↓f_isi_tuple_int, ↓f_isi_tuple_bool, ↓f_isi_tuple_tuple, ↓f_isi_tuple_str, ↓f_isi_tuple_list, ↓f_isi_str_int, ↓f_isi_str_bool, ↓f_isi_str_tuple, ↓f_isi_str_str, ↓f_isi_str_list, ↓f_isi_list_int, ↓f_isi_list_bool, ↓f_isi_list_tuple, ↓f_isi_list_str, ↓f_isi_list_list, ↓h_pop, ↓h_pop0, ↓f_rngI, ↓f_ixl0, ↓f_ixl1, ↓f_ixl2, ↓f_ixl3, ↓f_ixl4, ↓f_ixl5, ↓f_ixt0, ↓f_ixt1, ↓f_ixt2, ↓f_ixt3, ↓f_ixt4, ↓f_ixt5, ↓f_sd0, ↓f_sd1, ↓f_sd2, ↓f_sd3, ↓f_sd4, ↓f_sd5, nd_none, nd_bool, nd_int, nd_str, nd_list, nd_tuple]
    exact ⟨M, s', rfl, rfl, m1, m2, m3, m4⟩
end
end VK

set_option Elab.async false
set_option linter.all false
set_option maxRecDepth 100000
/-! VsP: what a machine answers, and the rows that set kinds apart. -/
namespace VK
open PySem PySem.Spec PyProof.Rows L2 VS
open VS.Enc (e)

theorem t2n {a b : Nat} : PyData.tuple [.int (a : Int), .int (b : Int)] = e ((a, b) : Nat × Nat) := no_rfl rfl
theorem t3n {α : Type} [Enc α] {a b : Nat} {c : α} : PyData.tuple [.int (a : Int), .int (b : Int), e c] = e (T3.mk a b c) := no_rfl rfl
theorem t2e {α β : Type} [Enc α] [Enc β] {a : α} {b : β} : PyData.tuple [e a, e b] = e (a, b) := no_rfl rfl
theorem t2en {α : Type} [Enc α] {a : α} {b : Nat} : PyData.tuple [e a, .int (b : Int)] = e (a, b) := no_rfl rfl
theorem t1e {α : Type} [Enc α] {a : α} : PyData.tuple [e a] = e [a] := no_rfl rfl
theorem q_cat3 {a b : Nat} {c : List Nat} {K : D → Prop} : @fQ _ addD [e (a, b), .tuple [e c]] K = K (e (T3.mk a b c)) := f_addT (a := [.int (a : Int), .int (b : Int)]) (b := [e c]) (show 3 ≤ sizeLine by decide)

section
variable {M A B : Mach} {words kinds ka kb : Nat}
theorem MOk.row' (h : MOk M words kinds) {k : Nat} (hk : k < kinds) : M[k]!.length = words := by
  have hl : k < M.length := by rw [h.len]; exact hk
  rw [getElem!_pos M k hl]
  exact h.row _ (List.getElem_mem hl)
theorem MOk.cell (h : MOk M words kinds) {k w : Nat} (hk : k < kinds) (hw : w < words) : M[k]! ∈ M ∧ M[k]![w]! ∈ M[k]! := by
  have hl : k < M.length := by rw [h.len]; exact hk
  have h1 : M[k]! ∈ M := by
    rw [getElem!_pos M k hl]
    exact List.getElem_mem hl
  have hw' : w < M[k]!.length := by rw [h.row' hk]; exact hw
  refine ⟨h1, ?_⟩
  rw [getElem!_pos M[k]! w hw']
  exact List.getElem_mem hw'
theorem MOk.tgt' (h : MOk M words kinds) {k w : Nat} (hk : k < kinds) (hw : w < words) : (M[k]![w]!).2 < kinds := h.tgt _ (h.cell hk hw).1 _ (h.cell hk hw).2
theorem MOk.ans' (h : MOk M words kinds) {k w : Nat} (hk : k < kinds) (hw : w < words) : (M[k]![w]!).1.length ≤ 2 ∧ ∀ x ∈ (M[k]![w]!).1, x < 2 := h.ans _ (h.cell hk hw).1 _ (h.cell hk hw).2

/-- what is answered along a row, and the kind at its end -/
def hear (M : Mach) : Nat → List Nat → List (List Nat) × Nat
  | k, [] => ([], k)
  | k, w :: ws => ((M[k]![w]!).1 :: (hear M (M[k]![w]!).2 ws).1, (hear M (M[k]![w]!).2 ws).2)
theorem hear_append : ∀ {k : Nat} {r t : List Nat}, hear M k (r ++ t) = ((hear M k r).1 ++ (hear M (hear M k r).2 t).1, (hear M (hear M k r).2 t).2)
  | k, [], t => rfl
  | k, w :: r, t => by
    show ((M[k]![w]!).1 :: (hear M (M[k]![w]!).2 (r ++ t)).1, (hear M (M[k]![w]!).2 (r ++ t)).2) = _
    rw [hear_append]
    rfl
theorem hear_len : ∀ {k : Nat} {r : List Nat}, (hear M k r).1.length = r.length
  | k, [] => rfl
  | k, w :: r => congrArg (· + 1) (hear_len (r := r))
theorem hear_lt (h : MOk M words kinds) : ∀ {k : Nat} {r : List Nat}, k < kinds → (∀ w ∈ r, w < words) → (hear M k r).2 < kinds
  | k, [], hk, _ => hk
  | k, w :: r, hk, hr => hear_lt h (r := r) (h.tgt' hk (hr w List.mem_cons_self)) fun v hv => hr v (List.mem_cons_of_mem _ hv)
theorem hear_ans (h : MOk M words kinds) : ∀ {k : Nat} {r : List Nat}, k < kinds → (∀ w ∈ r, w < words) → ∀ a ∈ (hear M k r).1, a.length ≤ 2
  | k, [], hk, _, a, ha => by cases ha
  | k, w :: r, hk, hr, a, ha => by
    have hw := hr w List.mem_cons_self
    rcases List.mem_cons.mp ha with rfl | ha
    · exact (h.ans' hk hw).1
    · exact hear_ans h (r := r) (h.tgt' hk hw) (fun v hv => hr v (List.mem_cons_of_mem _ hv)) a ha
theorem pl_hear (h : MOk M words kinds) {k n : Nat} {r : List Nat} (hk : k < kinds) (hr : ∀ w ∈ r, w < words) (hl : r.length ≤ 1000) : pl (n + 4) (e (hear M k r)) := by
  refine pl_pair (pl_list (by rw [hear_len]; exact Nat.le_trans hl (by decide)) fun a ha => pl_list (Nat.le_trans (hear_ans h hk hr a ha) (by decide)) fun x hx => pl_nat) pl_nat

theorem heard_eq (h : MOk M words kinds) {k : Nat} {r : List Nat} (hk : k < kinds) (hr : ∀ w ∈ r, w < words) (hl : r.length ≤ 1000) : F_heard [e M, .int (k : Int), e r] = some (e (hear M k r), []) := wf_eq (by
  rw [run_heard]
  unfold m_heard
  have main : ∀ (r : List Nat) (acc : List (List Nat)) (k : Nat) (x0 x4 x5 : Option SV) (Q : Out → Prop), k < kinds → (∀ w ∈ r, w < words) → acc.length + r.length ≤ 1000 →
      (∀ x4 x5, Q (.nx [some (.st (e M)), some (.st (.int ((hear M k r).2 : Nat))), x0, some (.ow (.list ((acc ++ (hear M k r).1).map e))), x4, x5])) →
      @WL (.nm 4) b1_heard (r.map e) [some (.st (e M)), some (.st (.int (k : Int))), x0, some (.ow (.list (acc.map e))), x4, x5] Q := by
    intro r
    induction r with
    | nil =>
      intro acc k x0 x4 x5 Q hk hr hl q
      have := q x4 x5
      rw [show (hear M k []).1 = [] from rfl, List.append_nil] at this
      exact this
    | cons w r ih =>
      intro acc k x0 x4 x5 Q hk hr hl q
      have hw := hr w List.mem_cons_self
      have hk1 : k < M.length := by rw [h.len]; exact hk
      have hw1 : w < M[k]!.length := by rw [h.row' hk]; exact hw
      rw [List.length_cons] at hl
      have ha : acc.length < sizeLine := Nat.lt_of_lt_of_le (show acc.length < 1001 by omega) (by decide)
      rw [List.map_cons, wl_cons]
      unfold b1_heard
      simp only [eq_self, Int.reduceLT, Int.reduceLE, Nat.reduceLT, Nat.reduceLeDiff, Int.reduceToNat, Int.toNat_natCast, ↓ws_seq, ↓sq_nx, ↓sq_rt, ↓sq_rf, ↓sq_bk, ↓sq_ct, ↓lq_nx, ↓lq_ct, ↓lq_bk, ↓lq_rt, ↓lq_rf, ↓ou_nx, ↓ou_rt, ↓ou_rf, ↓ws_next, ↓ws_break, ↓ws_cont, ↓ws_retNone, ↓ws_drop, ↓ws_ret, ↓ws_retF, ↓ws_set, ↓ws_setF, ↓rn_st, ↓rn_ow, ↓ws_retN, ↓sn_st, ↓sn_ow, ↓ws_setN, ↓ite_t, ↓ite_f, ↓ws_if, ↓ws_asg, ↓ws_store, ↓ws_aug, ↓ws_for, ↓ws_while, ↓we_c, ↓we_n, ↓we_op, ↓we_int, ↓wv_nil, ↓wv_ex, ↓wv_nm, ↓re_nil, ↓re_ex, ↓re_nm, ↓st_st, ↓ow_ow, ↓lk_st, ↓lk_ow, ↓bo_bo, ↓in_in, ↓wt_test, ↓wt_tru, ↓tr_bo, ↓tr_in, ↓tr_li, ↓tr_tu, ↓tr_no, ↓wt_not, ↓wt_and, ↓wt_or, ↓we_and, ↓we_or, ↓we_not, ↓we_if, ↓di_nil, ↓di_1, ↓di_2, ↓di_3, ↓di_4, ↓di_5, ↓di_6, ↓di_7, ↓di_8, ↓di_9, ↓di_10, ↓di_11, ↓di_12, ↓we_tup, ↓we_lst, ↓wm_nil, ↓wm_cons, ↓wa_nil, ↓wa_ex, ↓wa_st, ↓wa_io, ↓fz_nil, ↓fz_ex, ↓fz_io, ↓fy_st, ↓fy_ow, ↓ar_nil, ↓ar_ex, ↓ar_st, ↓ar_io, ↓pu_nil, ↓pu_cons, ↓we_call, ij_nil, ij_ex, ij_st, ij_io, ↓wg_nm, ↓wg_tu, ↓wg_tl, ↓wgs_nil, ↓wgs_cons, ↓we_methS', ↓ls_li, ↓we_meth, ↓we_chain, ↓we_rg1, ↓we_dict0, ↓we_get, ↓isd_d, ↓we_get2, ↓ws_put, ↓we_val, ↓wi_seq, ↓wi_rng, ↓wi_enum, ↓fq_seqL, ↓fq_seqT, ↓wt_yes, ↓rs_nil, ↓rs_cons, ↓wp_nil, ↓wp_cons, ↓we_comp, ↓we_compD, ↓we_comp2, ↓we_sset, ↓we_lset, ↓we_rev, ↓rv_l, ↓rv_t, ↓f_zip, ↓iq_nil, ↓iq_cons, ↓get_0, ↓set_0, ↓slot_0, ↓fz_0, ↓get_1, ↓set_1, ↓slot_1, ↓fz_1, ↓get_2, ↓set_2, ↓slot_2, ↓fz_2, ↓get_3, ↓set_3, ↓slot_3, ↓fz_3, ↓get_4, ↓set_4, ↓slot_4, ↓fz_4, ↓get_5, ↓set_5, ↓slot_5, ↓fz_5, ↓get_6, ↓set_6, ↓slot_6, ↓fz_6, ↓get_7, ↓set_7, ↓slot_7, ↓fz_7, ↓get_8, ↓set_8, ↓slot_8, ↓fz_8, ↓get_9, ↓set_9, ↓slot_9, ↓fz_9, ↓get_10, ↓set_10, ↓slot_10, ↓fz_10, ↓get_11, ↓set_11, ↓slot_11, ↓fz_11, ↓get_12, ↓set_12, ↓slot_12, ↓fz_12, ↓get_13, ↓set_13, ↓slot_13, ↓fz_13, ↓get_14, ↓set_14, ↓slot_14, ↓fz_14, ↓get_15, ↓set_15, ↓slot_15, ↓fz_15, ↓get_16, ↓set_16, ↓slot_16, ↓fz_16, ↓get_17, ↓set_17, ↓slot_17, ↓fz_17, ↓get_18, ↓set_18, ↓slot_18, ↓fz_18, ↓get_19, ↓set_19, ↓slot_19, ↓fz_19, ↓get_20, ↓set_20, ↓slot_20, ↓fz_20, ↓get_21, ↓set_21, ↓slot_21, ↓fz_21, ↓get_22, ↓set_22, ↓slot_22, ↓fz_22, ↓get_23, ↓set_23, ↓slot_23, ↓fz_23, ↓get_24, ↓set_24, ↓slot_24, ↓fz_24, ↓get_25, ↓set_25, ↓slot_25, ↓fz_25, ↓f_sub, ↓f_lt, ↓f_le, ↓f_gt, ↓f_ge, ↓f_add, ↓f_mod, ↓f_fdiv, ↓f_mulL, ↓f_mulR, ↓f_neg, ↓f_abs, ↓f_intI, ↓f_intB, ↓f_lenL, ↓f_lenT, ↓f_tupL, ↓f_tupT, ↓f_lisL, ↓f_lisT, ↓f_isB, ↓f_isNotB, ↓f_isN, ↓f_isNotN, ↓f_all, ↓f_any, ↓f_sum, ↓f_isi_int_int, ↓f_isi_int_bool, ↓f_isi_int_tuple, ↓f_isi_int_str, ↓f_isi_int_list, ↓f_isi_bool_int, ↓f_isi_bool_bool, ↓f_isi_bool_tuple, ↓f_isi_bool_str, ↓f_isi_bool_list, ↓f_isi_tuple_int, ↓f_isi_tuple_bool, ↓f_isi_tuple_tuple, ↓f_isi_tuple_str, ↓f_isi_tuple_list, ↓f_isi_str_int, ↓f_isi_str_bool, ↓f_isi_str_tuple, ↓f_isi_str_str, ↓f_isi_str_list, ↓f_isi_list_int, ↓f_isi_list_bool, ↓f_isi_list_tuple, ↓f_isi_list_str, ↓f_isi_list_list, ↓h_pop, ↓h_pop0, ↓f_rngI, ↓f_ixl0, ↓f_ixl1, ↓f_ixl2, ↓f_ixl3, ↓f_ixl4, ↓f_ixl5, ↓f_ixt0, ↓f_ixt1, ↓f_ixt2, ↓f_ixt3, ↓f_ixt4, ↓f_ixt5, ↓f_sd0, ↓f_sd1, ↓f_sd2, ↓f_sd3, ↓f_sd4, ↓f_sd5, nd_none, nd_bool, nd_int, nd_str, nd_list, nd_tuple, en_nat, ↓q_ix hk1, ↓q_ix hw1, ↓q_wgp, ↓q_app ha]
      refine ih _ _ _ _ _ _ (h.tgt' hk hw) (fun v hv => hr v (List.mem_cons_of_mem _ hv)) (by rw [List.length_append]; simp; omega) fun x4 x5 => ?_
      have := q x4 x5
      rw [show acc ++ (hear M k (w :: r)).1 = acc ++ [(M[k]![w]!).1] ++ (hear M (M[k]![w]!).2 r).1 from by simp [hear]] at this
      exact this
  simp only [eq_self, Int.reduceLT, Int.reduceLE, Nat.reduceLT, Nat.reduceLeDiff, Int.reduceToNat, Int.toNat_natCast, ↓ws_seq, ↓sq_nx, ↓sq_rt, ↓sq_rf, ↓sq_bk, ↓sq_ct, ↓lq_nx, ↓lq_ct, ↓lq_bk, ↓lq_rt, ↓lq_rf, ↓ou_nx, ↓ou_rt, ↓ou_rf, ↓ws_next, ↓ws_break, ↓ws_cont, ↓ws_retNone, ↓ws_drop, ↓ws_ret, ↓ws_retF, ↓ws_set, ↓ws_setF, ↓rn_st, ↓rn_ow, ↓ws_retN, ↓sn_st, ↓sn_ow, ↓ws_setN, ↓ite_t, ↓ite_f, ↓ws_if, ↓ws_asg, ↓ws_store, ↓ws_aug, ↓ws_for, ↓ws_while, ↓we_c, ↓we_n, ↓we_op, ↓we_int, ↓wv_nil, ↓wv_ex, ↓wv_nm, ↓re_nil, ↓re_ex, ↓re_nm, ↓st_st, ↓ow_ow, ↓lk_st, ↓lk_ow, ↓bo_bo, ↓in_in, ↓wt_test, ↓wt_tru, ↓tr_bo, ↓tr_in, ↓tr_li, ↓tr_tu, ↓tr_no, ↓wt_not, ↓wt_and, ↓wt_or, ↓we_and, ↓we_or, ↓we_not, ↓we_if, ↓di_nil, ↓di_1, ↓di_2, ↓di_3, ↓di_4, ↓di_5, ↓di_6, ↓di_7, ↓di_8, ↓di_9, ↓di_10, ↓di_11, ↓di_12, ↓we_tup, ↓we_lst, ↓wm_nil, ↓wm_cons, ↓wa_nil, ↓wa_ex, ↓wa_st, ↓wa_io, ↓fz_nil, ↓fz_ex, ↓fz_io, ↓fy_st, ↓fy_ow, ↓ar_nil, ↓ar_ex, ↓ar_st, ↓ar_io, ↓pu_nil, ↓pu_cons, ↓we_call, ij_nil, ij_ex, ij_st, ij_io, ↓wg_nm, ↓wg_tu, ↓wg_tl, ↓wgs_nil, ↓wgs_cons, ↓we_methS', ↓ls_li, ↓we_meth, ↓we_chain, ↓we_rg1, ↓we_dict0, ↓we_get, ↓isd_d, ↓we_get2, ↓ws_put, ↓we_val, ↓wi_seq, ↓wi_rng, ↓wi_enum, ↓fq_seqL, ↓fq_seqT, ↓wt_yes, ↓rs_nil, ↓rs_cons, ↓wp_nil, ↓wp_cons, ↓we_comp, ↓we_compD, ↓we_comp2, ↓we_sset, ↓we_lset, ↓we_rev, ↓rv_l, ↓rv_t, ↓f_zip, ↓iq_nil, ↓iq_cons, ↓get_0, ↓set_0, ↓slot_0, ↓fz_0, ↓get_1, ↓set_1, ↓slot_1, ↓fz_1, ↓get_2, ↓set_2, ↓slot_2, ↓fz_2, ↓get_3, ↓set_3, ↓slot_3, ↓fz_3, ↓get_4, ↓set_4, ↓slot_4, ↓fz_4, ↓get_5, ↓set_5, ↓slot_5, ↓fz_5, ↓get_6, ↓set_6, ↓slot_6, ↓fz_6, ↓get_7, ↓set_7, ↓slot_7, ↓fz_7, ↓get_8, ↓set_8, ↓slot_8, ↓fz_8, ↓get_9, ↓set_9, ↓slot_9, ↓fz_9, ↓get_10, ↓set_10, ↓slot_10, ↓fz_10, ↓get_11, ↓set_11, ↓slot_11, ↓fz_11, ↓get_12, ↓set_12, ↓slot_12, ↓fz_12, ↓get_13, ↓set_13, ↓slot_13, ↓fz_13, ↓get_14, ↓set_14, ↓slot_14, ↓fz_14, ↓get_15, ↓set_15, ↓slot_15, ↓fz_15, ↓get_16, ↓set_16, ↓slot_16, ↓fz_16, ↓get_17, ↓set_17, ↓slot_17, ↓fz_17, ↓get_18, ↓set_18, ↓slot_18, ↓fz_18, ↓get_19, ↓set_19, ↓slot_19, ↓fz_19, ↓get_20, ↓set_20, ↓slot_20, ↓fz_20, ↓get_21, ↓set_21, ↓slot_21, ↓fz_21, ↓get_22, ↓set_22, ↓slot_22, ↓fz_22, ↓get_23, ↓set_23, ↓slot_23, ↓fz_23, ↓get_24, ↓set_24, ↓slot_24, ↓fz_24, ↓get_25, ↓set_25, ↓slot_25, ↓fz_25, ↓f_sub, ↓f_lt, ↓f_le, ↓f_gt, ↓f_ge, ↓f_add, ↓f_mod, ↓f_fdiv, ↓f_mulL, ↓f_mulR, ↓f_neg, ↓f_abs, ↓f_intI, ↓f_intB, ↓f_lenL, ↓f_lenT, ↓f_tupL, ↓f_tupT, ↓f_lisL, ↓f_lisT, ↓f_isB, ↓f_isNotB, ↓f_isN, ↓f_isNotN, ↓f_all, ↓f_any, ↓f_sum, ↓f_isi_int_int, ↓f_isi_int_bool, ↓f_isi_int_tuple, ↓f_isi_int_str, ↓f_isi_int_list, ↓f_isi_bool_int, ↓f_isi_bool_bool, ↓f_isi_bool_tuple, ↓f_isi_bool_str, ↓f_isi_bool_list, ↓f_isi_tuple_int, ↓f_isi_tuple_bool, ↓f_isi_tuple_tuple, ↓f_isi_tuple_str, ↓f_isi_tuple_list, ↓f_isi_str_int, ↓f_isi_str_bool, ↓f_isi_str_tuple, ↓f_isi_str_str, ↓f_isi_str_list, ↓f_isi_list_int, ↓f_isi_list_bool, ↓f_isi_list_tuple, ↓f_isi_list_str, ↓f_isi_list_list, ↓h_pop, ↓h_pop0, ↓f_rngI, ↓f_ixl0, ↓f_ixl1, ↓f_ixl2, ↓f_ixl3, ↓f_ixl4, ↓f_ixl5, ↓f_ixt0, ↓f_ixt1, ↓f_ixt2, ↓f_ixt3, ↓f_ixt4, ↓f_ixt5, ↓f_sd0, ↓f_sd1, ↓f_sd2, ↓f_sd3, ↓f_sd4, ↓f_sd5, nd_none, nd_bool, nd_int, nd_str, nd_list, nd_tuple, ↓q_seq]
  refine main r [] k _ _ _ _ hk hr (by simpa using hl) fun x4 x5 => ?_
  simp only [eq_self, Int.reduceLT, Int.reduceLE, Nat.reduceLT, Nat.reduceLeDiff, Int.reduceToNat, Int.toNat_natCast, ↓ws_seq, ↓sq_nx, ↓sq_rt, ↓sq_rf, ↓sq_bk, ↓sq_ct, ↓lq_nx, ↓lq_ct, ↓lq_bk, ↓lq_rt, ↓lq_rf, ↓ou_nx, ↓ou_rt, ↓ou_rf, ↓ws_next, ↓ws_break, ↓ws_cont, ↓ws_retNone, ↓ws_drop, ↓ws_ret, ↓ws_retF, ↓ws_set, ↓ws_setF, ↓rn_st, ↓rn_ow, ↓ws_retN, ↓sn_st, ↓sn_ow, ↓ws_setN, ↓ite_t, ↓ite_f, ↓ws_if, ↓ws_asg, ↓ws_store, ↓ws_aug, ↓ws_for, ↓ws_while, ↓we_c, ↓we_n, ↓we_op, ↓we_int, ↓wv_nil, ↓wv_ex, ↓wv_nm, ↓re_nil, ↓re_ex, ↓re_nm, ↓st_st, ↓ow_ow, ↓lk_st, ↓lk_ow, ↓bo_bo, ↓in_in, ↓wt_test, ↓wt_tru, ↓tr_bo, ↓tr_in, ↓tr_li, ↓tr_tu, ↓tr_no, ↓wt_not, ↓wt_and, ↓wt_or, ↓we_and, ↓we_or, ↓we_not, ↓we_if, ↓di_nil, ↓di_1, ↓di_2, ↓di_3, ↓di_4, ↓di_5, ↓di_6, ↓di_7, ↓di_8, ↓di_9, ↓di_10, ↓di_11, ↓di_12, ↓we_tup, ↓we_lst, ↓wm_nil, ↓wm_cons, ↓wa_nil, ↓wa_ex, ↓wa_st, ↓wa_io, ↓fz_nil, ↓fz_ex, ↓fz_io, ↓fy_st, ↓fy_ow, ↓ar_nil, ↓ar_ex, ↓ar_st, ↓ar_io, ↓pu_nil, ↓pu_cons, ↓we_call, ij_nil, ij_ex, ij_st, ij_io, ↓wg_nm, ↓wg_tu, ↓wg_tl, ↓wgs_nil, ↓wgs_cons, ↓we_methS', ↓ls_li, ↓we_meth, ↓we_chain, ↓we_rg1, ↓we_dict0, ↓we_get, ↓isd_d, ↓we_get2, ↓ws_put, ↓we_val, ↓wi_seq, ↓wi_rng, ↓wi_enum, ↓fq_seqL, ↓fq_seqT, ↓wt_yes, ↓rs_nil, ↓rs_cons, ↓wp_nil, ↓wp_cons, ↓we_comp, ↓we_compD, ↓we_comp2, ↓we_sset, ↓we_lset, ↓we_rev, ↓rv_l, ↓rv_t, ↓f_zip, ↓iq_nil, ↓iq_cons, ↓get_0, ↓set_0, ↓slot_0, ↓fz_0, ↓get_1, ↓set_1, ↓slot_1, ↓fz_1, ↓get_2, ↓set_2, ↓slot_2, ↓fz_2, ↓get_3, ↓set_3, ↓slot_3, ↓fz_3, ↓get_4, ↓set_4, ↓slot_4, ↓fz_4, ↓get_5, ↓set_5, ↓slot_5, ↓fz_5, ↓get_6, ↓set_6, ↓slot_6, ↓fz_6, ↓get_7, ↓set_7, ↓slot_7, ↓fz_7, ↓get_8, ↓set_8, ↓slot_8, ↓fz_8, ↓get_9, ↓set_9, ↓slot_9, ↓fz_9, ↓get_10, ↓set_10, ↓slot_10, ↓fz_10, ↓get_11, ↓set_11, ↓slot_11, ↓fz_11, ↓get_12, ↓set_12, ↓slot_12, ↓fz_12, ↓get_13, ↓set_13, ↓slot_13, ↓fz_13, ↓get_14, ↓set_14, ↓slot_14, ↓fz_14, ↓get_15, ↓set_15, ↓slot_15, ↓fz_15, ↓get_16, ↓set_16, ↓slot_16, ↓fz_16, ↓get_17, ↓set_17, ↓slot_17, ↓fz_17, ↓get_18, ↓set_18, ↓slot_18, ↓fz_18, ↓get_19, ↓set_19, ↓slot_19, ↓fz_19, ↓get_20, ↓set_20, ↓slot_20, ↓fz_20, ↓get_21, ↓set_21, ↓slot_21, ↓fz_21, ↓get_22, ↓set_22, ↓slot_22, ↓fz_22, ↓get_23, ↓set_23, ↓slot_23, ↓fz_23, ↓get_24, ↓set_24, ↓slot_24, ↓fz_24, ↓get_25, ↓set_25, ↓slot_25, ↓fz_25, ↓f_sub, ↓f_lt, ↓f_le, ↓f_gt, ↓f_ge, ↓f_add, ↓f_mod, ↓f_fdiv, ↓f_mulL, ↓f_mulR, ↓f_neg, ↓f_abs, ↓f_intI, ↓f_intB, ↓f_lenL, ↓f_lenT, ↓f_tupL, ↓f_tupT, ↓f_lisL, ↓f_lisT, ↓f_isB, ↓f_isNotB, ↓f_isN, ↓f_isNotN, ↓f_all, ↓f_any, ↓f_sum, ↓f_isi_int_int, ↓f_isi_int_bool, ↓f_isi_int_tuple, ↓f_isi_int_str, ↓f_isi_int_list, ↓f_isi_bool_int, ↓f_isi_bool_bool, ↓f_isi_bool_tuple, ↓f_isi_bool_str, ↓f_isi_bool_list, ↓f_isi_tuple_int, ↓f_isi_tuple_bool, ↓f_isi_tuple_tuple, ↓f_isi_tuple_str, ↓f_isi_tuple_list, ↓f_isi_str_int, ↓f_isi_str_bool, ↓f_isi_str_tuple, ↓f_isi_str_str, ↓f_isi_str_list, ↓f_isi_list_int, ↓f_isi_list_bool, ↓f_isi_list_tuple, ↓f_isi_list_str, ↓f_isi_list_list, ↓h_pop, ↓h_pop0, ↓f_rngI, ↓f_ixl0, ↓f_ixl1, ↓f_ixl2, ↓f_ixl3, ↓f_ixl4, ↓f_ixl5, ↓f_ixt0, ↓f_ixt1, ↓f_ixt2, ↓f_ixt3, ↓f_ixt4, ↓f_ixt5, ↓f_sd0, ↓f_sd1, ↓f_sd2, ↓f_sd3, ↓f_sd4, ↓f_sd5, nd_none, nd_bool, nd_int, nd_str, nd_list, nd_tuple, ↓q_tup, List.nil_append, en_nd, t2en]
  exact ⟨rfl, trivial⟩)
theorem law_heard_eq (h : MOk M words kinds) {k : Nat} {r : List Nat} (hk : k < kinds) (hr : ∀ w ∈ r, w < words) (hl : r.length ≤ 1000) : F_law_heard [e M, .int (k : Int), e r] = some (e (hear M k r), []) := wf_eq (by
  rw [run_law_heard]
  unfold m_law_heard
  have main : ∀ (r : List Nat) (acc : List (List Nat)) (k : Nat) (x0 x4 x5 : Option SV) (Q : Out → Prop), k < kinds → (∀ w ∈ r, w < words) → acc.length + r.length ≤ 1000 →
      (∀ x4 x5, Q (.nx [some (.st (e M)), some (.st (.int ((hear M k r).2 : Nat))), x0, some (.st (e (acc ++ (hear M k r).1))), x4, x5])) →
      @WL (.nm 4) b1_law_heard (r.map e) [some (.st (e M)), some (.st (.int (k : Int))), x0, some (.st (e acc)), x4, x5] Q := by
    intro r
    induction r with
    | nil =>
      intro acc k x0 x4 x5 Q hk hr hl q
      have := q x4 x5
      rw [show (hear M k []).1 = [] from rfl, List.append_nil] at this
      exact this
    | cons w r ih =>
      intro acc k x0 x4 x5 Q hk hr hl q
      have hw := hr w List.mem_cons_self
      have hk1 : k < M.length := by rw [h.len]; exact hk
      have hw1 : w < M[k]!.length := by rw [h.row' hk]; exact hw
      rw [List.length_cons] at hl
      have ha : acc.length < sizeLine := Nat.lt_of_lt_of_le (show acc.length < 1001 by omega) (by decide)
      rw [List.map_cons, wl_cons]
      unfold b1_law_heard
      simp only [eq_self, Int.reduceLT, Int.reduceLE, Nat.reduceLT, Nat.reduceLeDiff, Int.reduceToNat, Int.toNat_natCast, ↓ws_seq, ↓sq_nx, ↓sq_rt, ↓sq_rf, ↓sq_bk, ↓sq_ct, ↓lq_nx, ↓lq_ct, ↓lq_bk, ↓lq_rt, ↓lq_rf, ↓ou_nx, ↓ou_rt, ↓ou_rf, ↓ws_next, ↓ws_break, ↓ws_cont, ↓ws_retNone, ↓ws_drop, ↓ws_ret, ↓ws_retF, ↓ws_set, ↓ws_setF, ↓rn_st, ↓rn_ow, ↓ws_retN, ↓sn_st, ↓sn_ow, ↓ws_setN, ↓ite_t, ↓ite_f, ↓ws_if, ↓ws_asg, ↓ws_store, ↓ws_aug, ↓ws_for, ↓ws_while, ↓we_c, ↓we_n, ↓we_op, ↓we_int, ↓wv_nil, ↓wv_ex, ↓wv_nm, ↓re_nil, ↓re_ex, ↓re_nm, ↓st_st, ↓ow_ow, ↓lk_st, ↓lk_ow, ↓bo_bo, ↓in_in, ↓wt_test, ↓wt_tru, ↓tr_bo, ↓tr_in, ↓tr_li, ↓tr_tu, ↓tr_no, ↓wt_not, ↓wt_and, ↓wt_or, ↓we_and, ↓we_or, ↓we_not, ↓we_if, ↓di_nil, ↓di_1, ↓di_2, ↓di_3, ↓di_4, ↓di_5, ↓di_6, ↓di_7, ↓di_8, ↓di_9, ↓di_10, ↓di_11, ↓di_12, ↓we_tup, ↓we_lst, ↓wm_nil, ↓wm_cons, ↓wa_nil, ↓wa_ex, ↓wa_st, ↓wa_io, ↓fz_nil, ↓fz_ex, ↓fz_io, ↓fy_st, ↓fy_ow, ↓ar_nil, ↓ar_ex, ↓ar_st, ↓ar_io, ↓pu_nil, ↓pu_cons, ↓we_call, ij_nil, ij_ex, ij_st, ij_io, ↓wg_nm, ↓wg_tu, ↓wg_tl, ↓wgs_nil, ↓wgs_cons, ↓we_methS', ↓ls_li, ↓we_meth, ↓we_chain, ↓we_rg1, ↓we_dict0, ↓we_get, ↓isd_d, ↓we_get2, ↓ws_put, ↓we_val, ↓wi_seq, ↓wi_rng, ↓wi_enum, ↓fq_seqL, ↓fq_seqT, ↓wt_yes, ↓rs_nil, ↓rs_cons, ↓wp_nil, ↓wp_cons, ↓we_comp, ↓we_compD, ↓we_comp2, ↓we_sset, ↓we_lset, ↓we_rev, ↓rv_l, ↓rv_t, ↓f_zip, ↓iq_nil, ↓iq_cons, ↓get_0, ↓set_0, ↓slot_0, ↓fz_0, ↓get_1, ↓set_1, ↓slot_1, ↓fz_1, ↓get_2, ↓set_2, ↓slot_2, ↓fz_2, ↓get_3, ↓set_3, ↓slot_3, ↓fz_3, ↓get_4, ↓set_4, ↓slot_4, ↓fz_4, ↓get_5, ↓set_5, ↓slot_5, ↓fz_5, ↓get_6, ↓set_6, ↓slot_6, ↓fz_6, ↓get_7, ↓set_7, ↓slot_7, ↓fz_7, ↓get_8, ↓set_8, ↓slot_8, ↓fz_8, ↓get_9, ↓set_9, ↓slot_9, ↓fz_9, ↓get_10, ↓set_10, ↓slot_10, ↓fz_10, ↓get_11, ↓set_11, ↓slot_11, ↓fz_11, ↓get_12, ↓set_12, ↓slot_12, ↓fz_12, ↓get_13, ↓set_13, ↓slot_13, ↓fz_13, ↓get_14, ↓set_14, ↓slot_14, ↓fz_14, ↓get_15, ↓set_15, ↓slot_15, ↓fz_15, ↓get_16, ↓set_16, ↓slot_16, ↓fz_16, ↓get_17, ↓set_17, ↓slot_17, ↓fz_17, ↓get_18, ↓set_18, ↓slot_18, ↓fz_18, ↓get_19, ↓set_19, ↓slot_19, ↓fz_19, ↓get_20, ↓set_20, ↓slot_20, ↓fz_20, ↓get_21, ↓set_21, ↓slot_21, ↓fz_21, ↓get_22, ↓set_22, ↓slot_22, ↓fz_22, ↓get_23, ↓set_23, ↓slot_23, ↓fz_23, ↓get_24, ↓set_24, ↓slot_24, ↓fz_24, ↓get_25, ↓set_25, ↓slot_25, ↓fz_25, ↓f_sub, ↓f_lt, ↓f_le, ↓f_gt, ↓f_ge, ↓f_add, ↓f_mod, ↓f_fdiv, ↓f_mulL, ↓f_mulR, ↓f_neg, ↓f_abs, ↓f_intI, ↓f_intB, ↓f_lenL, ↓f_lenT, ↓f_tupL, ↓f_tupT, ↓f_lisL, ↓f_lisT, ↓f_isB, ↓f_isNotB, ↓f_isN, ↓f_isNotN, ↓f_all, ↓f_any, ↓f_sum, ↓f_isi_int_int, ↓f_isi_int_bool, ↓f_isi_int_tuple, ↓f_isi_int_str, ↓f_isi_int_list, ↓f_isi_bool_int, ↓f_isi_bool_bool, ↓f_isi_bool_tuple, ↓f_isi_bool_str, ↓f_isi_bool_list, ↓f_isi_tuple_int, ↓f_isi_tuple_bool, ↓f_isi_tuple_tuple, ↓f_isi_tuple_str, ↓f_isi_tuple_list, ↓f_isi_str_int, ↓f_isi_str_bool, ↓f_isi_str_tuple, ↓f_isi_str_str, ↓f_isi_str_list, ↓f_isi_list_int, ↓f_isi_list_bool, ↓f_isi_list_tuple, ↓f_isi_list_str, ↓f_isi_list_list, ↓h_pop, ↓h_pop0, ↓f_rngI, ↓f_ixl0, ↓f_ixl1, ↓f_ixl2, ↓f_ixl3, ↓f_ixl4, ↓f_ixl5, ↓f_ixt0, ↓f_ixt1, ↓f_ixt2, ↓f_ixt3, ↓f_ixt4, ↓f_ixt5, ↓f_sd0, ↓f_sd1, ↓f_sd2, ↓f_sd3, ↓f_sd4, ↓f_sd5, nd_none, nd_bool, nd_int, nd_str, nd_list, nd_tuple, en_nat, ↓q_ix hk1, ↓q_ix hw1, ↓q_wgp, en_nd, ↓q_cat1 ha]
      refine ih _ _ _ _ _ _ (h.tgt' hk hw) (fun v hv => hr v (List.mem_cons_of_mem _ hv)) (by rw [List.length_append]; simp; omega) fun x4 x5 => ?_
      have := q x4 x5
      rw [show acc ++ (hear M k (w :: r)).1 = acc ++ [(M[k]![w]!).1] ++ (hear M (M[k]![w]!).2 r).1 from by simp [hear]] at this
      exact this
  simp only [eq_self, Int.reduceLT, Int.reduceLE, Nat.reduceLT, Nat.reduceLeDiff, Int.reduceToNat, Int.toNat_natCast, ↓ws_seq, ↓sq_nx, ↓sq_rt, ↓sq_rf, ↓sq_bk, ↓sq_ct, ↓lq_nx, ↓lq_ct, ↓lq_bk, ↓lq_rt, ↓lq_rf, ↓ou_nx, ↓ou_rt, ↓ou_rf, ↓ws_next, ↓ws_break, ↓ws_cont, ↓ws_retNone, ↓ws_drop, ↓ws_ret, ↓ws_retF, ↓ws_set, ↓ws_setF, ↓rn_st, ↓rn_ow, ↓ws_retN, ↓sn_st, ↓sn_ow, ↓ws_setN, ↓ite_t, ↓ite_f, ↓ws_if, ↓ws_asg, ↓ws_store, ↓ws_aug, ↓ws_for, ↓ws_while, ↓we_c, ↓we_n, ↓we_op, ↓we_int, ↓wv_nil, ↓wv_ex, ↓wv_nm, ↓re_nil, ↓re_ex, ↓re_nm, ↓st_st, ↓ow_ow, ↓lk_st, ↓lk_ow, ↓bo_bo, ↓in_in, ↓wt_test, ↓wt_tru, ↓tr_bo, ↓tr_in, ↓tr_li, ↓tr_tu, ↓tr_no, ↓wt_not, ↓wt_and, ↓wt_or, ↓we_and, ↓we_or, ↓we_not, ↓we_if, ↓di_nil, ↓di_1, ↓di_2, ↓di_3, ↓di_4, ↓di_5, ↓di_6, ↓di_7, ↓di_8, ↓di_9, ↓di_10, ↓di_11, ↓di_12, ↓we_tup, ↓we_lst, ↓wm_nil, ↓wm_cons, ↓wa_nil, ↓wa_ex, ↓wa_st, ↓wa_io, ↓fz_nil, ↓fz_ex, ↓fz_io, ↓fy_st, ↓fy_ow, ↓ar_nil, ↓ar_ex, ↓ar_st, ↓ar_io, ↓pu_nil, ↓pu_cons, ↓we_call, ij_nil, ij_ex, ij_st, ij_io, ↓wg_nm, ↓wg_tu, ↓wg_tl, ↓wgs_nil, ↓wgs_cons, ↓we_methS', ↓ls_li, ↓we_meth, ↓we_chain, ↓we_rg1, ↓we_dict0, ↓we_get, ↓isd_d, ↓we_get2, ↓ws_put, ↓we_val, ↓wi_seq, ↓wi_rng, ↓wi_enum, ↓fq_seqL, ↓fq_seqT, ↓wt_yes, ↓rs_nil, ↓rs_cons, ↓wp_nil, ↓wp_cons, ↓we_comp, ↓we_compD, ↓we_comp2, ↓we_sset, ↓we_lset, ↓we_rev, ↓rv_l, ↓rv_t, ↓f_zip, ↓iq_nil, ↓iq_cons, ↓get_0, ↓set_0, ↓slot_0, ↓fz_0, ↓get_1, ↓set_1, ↓slot_1, ↓fz_1, ↓get_2, ↓set_2, ↓slot_2, ↓fz_2, ↓get_3, ↓set_3, ↓slot_3, ↓fz_3, ↓get_4, ↓set_4, ↓slot_4, ↓fz_4, ↓get_5, ↓set_5, ↓slot_5, ↓fz_5, ↓get_6, ↓set_6, ↓slot_6, ↓fz_6, ↓get_7, ↓set_7, ↓slot_7, ↓fz_7, ↓get_8, ↓set_8, ↓slot_8, ↓fz_8, ↓get_9, ↓set_9, ↓slot_9, ↓fz_9, ↓get_10, ↓set_10, ↓slot_10, ↓fz_10, ↓get_11, ↓set_11, ↓slot_11, ↓fz_11, ↓get_12, ↓set_12, ↓slot_12, ↓fz_12, ↓get_13, ↓set_13, ↓slot_13, ↓fz_13, ↓get_14, ↓set_14, ↓slot_14, ↓fz_14, ↓get_15, ↓set_15, ↓slot_15, ↓fz_15, ↓get_16, ↓set_16, ↓slot_16, ↓fz_16, ↓get_17, ↓set_17, ↓slot_17, ↓fz_17, ↓get_18, ↓set_18, ↓slot_18, ↓fz_18, ↓get_19, ↓set_19, ↓slot_19, ↓fz_19, ↓get_20, ↓set_20, ↓slot_20, ↓fz_20, ↓get_21, ↓set_21, ↓slot_21, ↓fz_21, ↓get_22, ↓set_22, ↓slot_22, ↓fz_22, ↓get_23, ↓set_23, ↓slot_23, ↓fz_23, ↓get_24, ↓set_24, ↓slot_24, ↓fz_24, ↓get_25, ↓set_25, ↓slot_25, ↓fz_25, ↓f_sub, ↓f_lt, ↓f_le, ↓f_gt, ↓f_ge, ↓f_add, ↓f_mod, ↓f_fdiv, ↓f_mulL, ↓f_mulR, ↓f_neg, ↓f_abs, ↓f_intI, ↓f_intB, ↓f_lenL, ↓f_lenT, ↓f_tupL, ↓f_tupT, ↓f_lisL, ↓f_lisT, ↓f_isB, ↓f_isNotB, ↓f_isN, ↓f_isNotN, ↓f_all, ↓f_any, ↓f_sum, ↓f_isi_int_int, ↓f_isi_int_bool, ↓f_isi_int_tuple, ↓f_isi_int_str, ↓f_isi_int_list, ↓f_isi_bool_int, ↓f_isi_bool_bool, ↓f_isi_bool_tuple, ↓f_isi_bool_str, ↓f_isi_bool_list, ↓f_isi_tuple_int, ↓f_isi_tuple_bool, ↓f_isi_tuple_tuple, ↓f_isi_tuple_str, ↓f_isi_tuple_list, ↓f_isi_str_int, ↓f_isi_str_bool, ↓f_isi_str_tuple, ↓f_isi_str_str, ↓f_isi_str_list, ↓f_isi_list_int, ↓f_isi_list_bool, ↓f_isi_list_tuple, ↓f_isi_list_str, ↓f_isi_list_list, ↓h_pop, ↓h_pop0, ↓f_rngI, ↓f_ixl0, ↓f_ixl1, ↓f_ixl2, ↓f_ixl3, ↓f_ixl4, ↓f_ixl5, ↓f_ixt0, ↓f_ixt1, ↓f_ixt2, ↓f_ixt3, ↓f_ixt4, ↓f_ixt5, ↓f_sd0, ↓f_sd1, ↓f_sd2, ↓f_sd3, ↓f_sd4, ↓f_sd5, nd_none, nd_bool, nd_int, nd_str, nd_list, nd_tuple, ↓q_seq]
  refine main r [] k _ _ _ _ hk hr (by simpa using hl) fun x4 x5 => ?_
  simp only [eq_self, Int.reduceLT, Int.reduceLE, Nat.reduceLT, Nat.reduceLeDiff, Int.reduceToNat, Int.toNat_natCast, ↓ws_seq, ↓sq_nx, ↓sq_rt, ↓sq_rf, ↓sq_bk, ↓sq_ct, ↓lq_nx, ↓lq_ct, ↓lq_bk, ↓lq_rt, ↓lq_rf, ↓ou_nx, ↓ou_rt, ↓ou_rf, ↓ws_next, ↓ws_break, ↓ws_cont, ↓ws_retNone, ↓ws_drop, ↓ws_ret, ↓ws_retF, ↓ws_set, ↓ws_setF, ↓rn_st, ↓rn_ow, ↓ws_retN, ↓sn_st, ↓sn_ow, ↓ws_setN, ↓ite_t, ↓ite_f, ↓ws_if, ↓ws_asg, ↓ws_store, ↓ws_aug, ↓ws_for, ↓ws_while, ↓we_c, ↓we_n, ↓we_op, ↓we_int, ↓wv_nil, ↓wv_ex, ↓wv_nm, ↓re_nil, ↓re_ex, ↓re_nm, ↓st_st, ↓ow_ow, ↓lk_st, ↓lk_ow, ↓bo_bo, ↓in_in, ↓wt_test, ↓wt_tru, ↓tr_bo, ↓tr_in, ↓tr_li, ↓tr_tu, ↓tr_no, ↓wt_not, ↓wt_and, ↓wt_or, ↓we_and, ↓we_or, ↓we_not, ↓we_if, ↓di_nil, ↓di_1, ↓di_2, ↓di_3, ↓di_4, ↓di_5, ↓di_6, ↓di_7, ↓di_8, ↓di_9, ↓di_10, ↓di_11, ↓di_12, ↓we_tup, ↓we_lst, ↓wm_nil, ↓wm_cons, ↓wa_nil, ↓wa_ex, ↓wa_st, ↓wa_io, ↓fz_nil, ↓fz_ex, ↓fz_io, ↓fy_st, ↓fy_ow, ↓ar_nil, ↓ar_ex, ↓ar_st, ↓ar_io, ↓pu_nil, ↓pu_cons, ↓we_call, ij_nil, ij_ex, ij_st, ij_io, ↓wg_nm, ↓wg_tu, ↓wg_tl, ↓wgs_nil, ↓wgs_cons, ↓we_methS', ↓ls_li, ↓we_meth, ↓we_chain, ↓we_rg1, ↓we_dict0, ↓we_get, ↓isd_d, ↓we_get2, ↓ws_put, ↓we_val, ↓wi_seq, ↓wi_rng, ↓wi_enum, ↓fq_seqL, ↓fq_seqT, ↓wt_yes, ↓rs_nil, ↓rs_cons, ↓wp_nil, ↓wp_cons, ↓we_comp, ↓we_compD, ↓we_comp2, ↓we_sset, ↓we_lset, ↓we_rev, ↓rv_l, ↓rv_t, ↓f_zip, ↓iq_nil, ↓iq_cons, ↓get_0, ↓set_0, ↓slot_0, ↓fz_0, ↓get_1, ↓set_1, ↓slot_1, ↓fz_1, ↓get_2, ↓set_2, ↓slot_2, ↓fz_2, ↓get_3, ↓set_3, ↓slot_3, ↓fz_3, ↓get_4, ↓set_4, ↓slot_4, ↓fz_4, ↓get_5, ↓set_5, ↓slot_5, ↓fz_5, ↓get_6, ↓set_6, ↓slot_6, ↓fz_6, ↓get_7, ↓set_7, ↓slot_7, ↓fz_7, ↓get_8, ↓set_8, ↓slot_8, ↓fz_8, ↓get_9, ↓set_9, ↓slot_9, ↓fz_9, ↓get_10, ↓set_10, ↓slot_10, ↓fz_10, ↓get_11, ↓set_11, ↓slot_11, ↓fz_11, ↓get_12, ↓set_12, ↓slot_12, ↓fz_12, ↓get_13, ↓set_13, ↓slot_13, ↓fz_13, ↓get_14, ↓set_14, ↓slot_14, ↓fz_14, ↓get_15, ↓set_15, ↓slot_15, ↓fz_15, ↓get_16, ↓set_16, ↓slot_16, ↓fz_16, ↓get_17, ↓set_17, ↓slot_17, ↓fz_17, ↓get_18, ↓set_18, ↓slot_18, ↓fz_18, ↓get_19, ↓set_19, ↓slot_19, ↓fz_19, ↓get_20, ↓set_20, ↓slot_20, ↓fz_20, ↓get_21, ↓set_21, ↓slot_21, ↓fz_21, ↓get_22, ↓set_22, ↓slot_22, ↓fz_22, ↓get_23, ↓set_23, ↓slot_23, ↓fz_23, ↓get_24, ↓set_24, ↓slot_24, ↓fz_24, ↓get_25, ↓set_25, ↓slot_25, ↓fz_25, ↓f_sub, ↓f_lt, ↓f_le, ↓f_gt, ↓f_ge, ↓f_add, ↓f_mod, ↓f_fdiv, ↓f_mulL, ↓f_mulR, ↓f_neg, ↓f_abs, ↓f_intI, ↓f_intB, ↓f_lenL, ↓f_lenT, ↓f_tupL, ↓f_tupT, ↓f_lisL, ↓f_lisT, ↓f_isB, ↓f_isNotB, ↓f_isN, ↓f_isNotN, ↓f_all, ↓f_any, ↓f_sum, ↓f_isi_int_int, ↓f_isi_int_bool, ↓f_isi_int_tuple, ↓f_isi_int_str, ↓f_isi_int_list, ↓f_isi_bool_int, ↓f_isi_bool_bool, ↓f_isi_bool_tuple, ↓f_isi_bool_str, ↓f_isi_bool_list, ↓f_isi_tuple_int, ↓f_isi_tuple_bool, ↓f_isi_tuple_tuple, ↓f_isi_tuple_str, ↓f_isi_tuple_list, ↓f_isi_str_int, ↓f_isi_str_bool, ↓f_isi_str_tuple, ↓f_isi_str_str, ↓f_isi_str_list, ↓f_isi_list_int, ↓f_isi_list_bool, ↓f_isi_list_tuple, ↓f_isi_list_str, ↓f_isi_list_list, ↓h_pop, ↓h_pop0, ↓f_rngI, ↓f_ixl0, ↓f_ixl1, ↓f_ixl2, ↓f_ixl3, ↓f_ixl4, ↓f_ixl5, ↓f_ixt0, ↓f_ixt1, ↓f_ixt2, ↓f_ixt3, ↓f_ixt4, ↓f_ixt5, ↓f_sd0, ↓f_sd1, ↓f_sd2, ↓f_sd3, ↓f_sd4, ↓f_sd5, nd_none, nd_bool, nd_int, nd_str, nd_list, nd_tuple, List.nil_append, en_nd, t2en]
  exact ⟨trivial, trivial⟩)

/-! ### the search for a row -/
abbrev Ent := T3 Nat Nat (List Nat)
/-- the words from w on, n of them -/
def inner (A B : Mach) (h t : Nat) (row : List Nat) : Nat → Nat → List (Nat × Nat) → List Ent → Except Nat (List (Nat × Nat) × List Ent)
  | 0, _, met, new => .ok (met, new)
  | n + 1, w, met, new => if (A[h]![w]!).1 ≠ (B[t]![w]!).1 then .error w
    else if ((A[h]![w]!).2, (B[t]![w]!).2) ∉ met then inner A B h t row n (w + 1) (met ++ [((A[h]![w]!).2, (B[t]![w]!).2)]) (new ++ [⟨(A[h]![w]!).2, (B[t]![w]!).2, row ++ [w]⟩])
    else inner A B h t row n (w + 1) met new
def bfs (A B : Mach) (words : Nat) : Nat → List Ent → List (Nat × Nat) → Option (List Nat)
  | 0, _, _ => none
  | _ + 1, [], _ => none
  | k + 1, x :: q, met => match inner A B x.a x.b x.c words 0 met [] with
    | .error w => some (x.c ++ [w])
    | .ok (met', new) => bfs A B words k (q ++ new) met'
/-- what holds within the words of one entry -/
theorem inner_spec {h t : Nat} {row : List Nat} : ∀ {n w : Nat} {met : List (Nat × Nat)} {new : List Ent},
    (∀ v, inner A B h t row n w met new = .error v → w ≤ v ∧ v < w + n ∧ (A[h]![v]!).1 ≠ (B[t]![v]!).1) ∧
    ∀ met' new', inner A B h t row n w met new = .ok (met', new') → ∃ l : List Ent, new' = new ++ l ∧ met' = met ++ l.map (fun x => (x.a, x.b)) ∧ (met.Nodup → met'.Nodup) ∧ (∀ x ∈ l, ∃ v, w ≤ v ∧ v < w + n ∧ x.a = (A[h]![v]!).2 ∧ x.b = (B[t]![v]!).2 ∧ x.c = row ++ [v]) ∧
      ∀ v, w ≤ v → v < w + n → (A[h]![v]!).1 = (B[t]![v]!).1 ∧ ((A[h]![v]!).2, (B[t]![v]!).2) ∈ met'
  | 0, w, met, new => by
    refine ⟨fun v e => (by cases e), fun met' new' e => ?_⟩
    cases e
    exact ⟨[], by simp, by simp, fun h => h, by simp, fun v h1 h2 => by omega⟩
  | n + 1, w, met, new => by
    unfold inner
    by_cases hd : (A[h]![w]!).1 ≠ (B[t]![w]!).1
    · rw [if_pos hd]
      refine ⟨fun v e => ?_, fun _ _ e => (by cases e)⟩
      cases e
      exact ⟨Nat.le_refl _, by omega, hd⟩
    · rw [if_neg hd]
      have hd' := Decidable.not_not.mp hd
      by_cases hm : ((A[h]![w]!).2, (B[t]![w]!).2) ∉ met
      · rw [if_pos hm]
        obtain ⟨h1, h2⟩ := inner_spec (h := h) (t := t) (row := row) (n := n) (w := w + 1) (met := met ++ [((A[h]![w]!).2, (B[t]![w]!).2)]) (new := new ++ [⟨(A[h]![w]!).2, (B[t]![w]!).2, row ++ [w]⟩])
        refine ⟨fun v e => ?_, fun met' new' e => ?_⟩
        · have := h1 v e
          exact ⟨by omega, by omega, this.2.2⟩
        · obtain ⟨l, e1, e2, e3, e4, e5⟩ := h2 met' new' e
          refine ⟨⟨(A[h]![w]!).2, (B[t]![w]!).2, row ++ [w]⟩ :: l, by rw [e1]; simp, by rw [e2]; simp, fun nd => e3 ?_, ?_, fun v g1 g2 => ?_⟩
          · rw [List.nodup_append]
            refine ⟨nd, by simp, fun a ha b hb => ?_⟩
            rw [List.mem_singleton.mp hb]
            exact fun e => hm (e ▸ ha)
          · intro x hx
            rcases List.mem_cons.mp hx with rfl | hx
            · exact ⟨w, Nat.le_refl _, by omega, rfl, rfl, rfl⟩
            · obtain ⟨v, g1, g2, g3⟩ := e4 x hx
              exact ⟨v, by omega, by omega, g3⟩
          · by_cases hv : v = w
            · subst hv
              exact ⟨hd', by rw [e2]; simp⟩
            · exact e5 v (by omega) (by omega)
      · rw [if_neg hm]
        obtain ⟨h1, h2⟩ := inner_spec (h := h) (t := t) (row := row) (n := n) (w := w + 1) (met := met) (new := new)
        refine ⟨fun v e => ?_, fun met' new' e => ?_⟩
        · have := h1 v e
          exact ⟨by omega, by omega, this.2.2⟩
        · obtain ⟨l, e1, e2, e3, e4, e5⟩ := h2 met' new' e
          refine ⟨l, e1, e2, e3, ?_, fun v g1 g2 => ?_⟩
          · intro x hx
            obtain ⟨v, g1, g2, g3⟩ := e4 x hx
            exact ⟨v, by omega, by omega, g3⟩
          · by_cases hv : v = w
            · subst hv
              exact ⟨hd', by rw [e2]; exact List.mem_append_left _ (Decidable.not_not.mp hm)⟩
            · exact e5 v (by omega) (by omega)
theorem sub_len {α : Type} [DecidableEq α] : ∀ {l m : List α}, l.Nodup → (∀ x ∈ l, x ∈ m) → l.length ≤ m.length
  | [], m, _, _ => Nat.zero_le _
  | x :: l, m, nd, h => by
    rw [List.nodup_cons] at nd
    have hx := h x List.mem_cons_self
    have := sub_len (l := l) (m := m.erase x) nd.2 fun y hy => by
      have hne : y ≠ x := fun e => nd.1 (e ▸ hy)
      exact (List.mem_erase_of_ne hne).mpr (h y (List.mem_cons_of_mem _ hy))
    rw [List.length_erase_of_mem hx] at this
    have hp : 0 < m.length := List.length_pos_of_mem hx
    rw [List.length_cons]
    omega
theorem nodup_len {ka kb : Nat} {met : List (Nat × Nat)} (nd : met.Nodup) (h : ∀ p ∈ met, p.1 < ka ∧ p.2 < kb) : met.length ≤ ka * kb := by
  have hs : met.length ≤ ((List.range ka).flatMap fun i => (List.range kb).map fun j => (i, j)).length := by
    refine sub_len nd fun p hp => ?_
    obtain ⟨h1, h2⟩ := h p hp
    exact List.mem_flatMap.mpr ⟨p.1, List.mem_range.mpr h1, List.mem_map.mpr ⟨p.2, List.mem_range.mpr h2, rfl⟩⟩
  refine Nat.le_trans hs (Nat.le_of_eq ?_)
  rw [List.length_flatMap]
  simp [List.map_const']
end
end VK

set_option Elab.async false
set_option linter.all false
set_option maxRecDepth 100000
/-! VsQ: the rows that set kinds apart: the program's search and the law's. -/
namespace VK
open PySem PySem.Spec PyProof.Rows L2 VS
open VS.Enc (e)
section
variable {A B : Mach} {words ka kb i j : Nat}
structure BI (A B : Mach) (words ka kb i j k : Nat) (q : List Ent) (met : List (Nat × Nat)) : Prop where
  ln : ka * kb + q.length ≤ k + met.length
  nd : met.Nodup
  rg : ∀ p ∈ met, p.1 < ka ∧ p.2 < kb
  en : ∀ x ∈ q, x.a < ka ∧ x.b < kb ∧ x.c.length + k ≤ ka * kb ∧ (∀ w ∈ x.c, w < words) ∧ (hear A i x.c).2 = x.a ∧ (hear B j x.c).2 = x.b
  cl : ∀ p ∈ met, (∃ x ∈ q, (x.a, x.b) = p) ∨ ∀ v, v < words → (A[p.1]![v]!).1 = (B[p.2]![v]!).1 ∧ ((A[p.1]![v]!).2, (B[p.2]![v]!).2) ∈ met
  st : (i, j) ∈ met
theorem BI.start (hi : i < ka) (hj : j < kb) : BI A B words ka kb i j (ka * kb) [⟨i, j, []⟩] [(i, j)] where
  ln := Nat.le_refl _
  nd := by simp
  rg := fun p hp => by
    rw [List.mem_singleton.mp hp]
    exact ⟨hi, hj⟩
  en := fun x hx => by
    rw [List.mem_singleton.mp hx]
    exact ⟨hi, hj, by simp, by simp, rfl, rfl⟩
  cl := fun p hp => .inl ⟨_, List.mem_singleton_self _, (List.mem_singleton.mp hp).symm⟩
  st := by simp
theorem BI.ml {k : Nat} {q : List Ent} {met : List (Nat × Nat)} (I : BI A B words ka kb i j k q met) : met.length ≤ ka * kb := nodup_len I.nd I.rg
theorem BI.ql {k : Nat} {q : List Ent} {met : List (Nat × Nat)} (I : BI A B words ka kb i j k q met) : q.length ≤ k := by
  have := I.ml
  have := I.ln
  omega
theorem BI.step (hA : MOk A words ka) (hB : MOk B words kb) {k : Nat} {x : Ent} {q : List Ent} {met met' : List (Nat × Nat)} {new : List Ent} (I : BI A B words ka kb i j (k + 1) (x :: q) met)
    (h : inner A B x.a x.b x.c words 0 met [] = .ok (met', new)) : BI A B words ka kb i j k (q ++ new) met' := by
  obtain ⟨l, e1, e2, e3, e4, e5⟩ := inner_spec.2 met' new h
  rw [List.nil_append] at e1
  subst e1
  obtain ⟨xa, xb, xc, xd, xe, xf⟩ := I.en x List.mem_cons_self
  have hnew : ∀ y ∈ new, y.a < ka ∧ y.b < kb ∧ y.c.length + k ≤ ka * kb ∧ (∀ w ∈ y.c, w < words) ∧ (hear A i y.c).2 = y.a ∧ (hear B j y.c).2 = y.b := fun y hy => by
    obtain ⟨v, g1, g2, g3, g4, g5⟩ := e4 y hy
    rw [Nat.zero_add] at g2
    refine ⟨g3 ▸ hA.tgt' xa g2, g4 ▸ hB.tgt' xb g2, ?_, fun w hw => ?_, ?_, ?_⟩
    · rw [g5, List.length_append]
      simp
      omega
    · rw [g5] at hw
      rcases List.mem_append.mp hw with h | h
      · exact xd w h
      · rw [List.mem_singleton.mp h]
        exact g2
    · rw [g5, hear_append, xe, g3]
      rfl
    · rw [g5, hear_append, xf, g4]
      rfl
  refine ⟨?_, e3 I.nd, fun p hp => ?_, fun y hy => ?_, fun p hp => ?_, by rw [e2]; exact List.mem_append_left _ I.st⟩
  · have := I.ln
    rw [e2]
    simp only [List.length_append, List.length_cons, List.length_map] at this ⊢
    omega
  · rw [e2] at hp
    rcases List.mem_append.mp hp with h | h
    · exact I.rg p h
    · obtain ⟨y, hy, rfl⟩ := List.mem_map.mp h
      exact ⟨(hnew y hy).1, (hnew y hy).2.1⟩
  · rcases List.mem_append.mp hy with h | h
    · obtain ⟨g1, g2, g3, g4⟩ := I.en y (List.mem_cons_of_mem _ h)
      exact ⟨g1, g2, by omega, g4⟩
    · exact hnew y h
  · rw [e2] at hp
    rcases List.mem_append.mp hp with h | h
    · rcases I.cl p h with ⟨y, hy, rfl⟩ | g
      · rcases List.mem_cons.mp hy with rfl | hy
        · exact .inr fun v hv => e5 v (Nat.zero_le _) (by omega)
        · exact .inl ⟨y, List.mem_append_left _ hy, rfl⟩
      · exact .inr fun v hv => ⟨(g v hv).1, by rw [e2]; exact List.mem_append_left _ (g v hv).2⟩
    · obtain ⟨y, hy, rfl⟩ := List.mem_map.mp h
      exact .inl ⟨y, List.mem_append_right _ hy, rfl⟩
/-- pairs that no row sets apart -/
def Alike (A B : Mach) (words ka kb : Nat) (met : List (Nat × Nat)) : Prop := ∀ p ∈ met, (p.1 < ka ∧ p.2 < kb) ∧ ∀ v, v < words → (A[p.1]![v]!).1 = (B[p.2]![v]!).1 ∧ ((A[p.1]![v]!).2, (B[p.2]![v]!).2) ∈ met
theorem BI.alike {k : Nat} {met : List (Nat × Nat)} (I : BI A B words ka kb i j k [] met) : Alike A B words ka kb met := fun p hp => ⟨I.rg p hp, by
  rcases I.cl p hp with ⟨y, hy, _⟩ | g
  · cases hy
  · exact g⟩
theorem bfs_none (hA : MOk A words ka) (hB : MOk B words kb) : ∀ {k : Nat} {q : List Ent} {met : List (Nat × Nat)}, BI A B words ka kb i j k q met → bfs A B words k q met = none → ∃ m, (i, j) ∈ m ∧ Alike A B words ka kb m
  | 0, q, met, I, _ => by
    have := I.ql
    have e : q = [] := List.eq_nil_of_length_eq_zero (by omega)
    subst e
    exact ⟨met, I.st, I.alike⟩
  | k + 1, [], met, I, _ => ⟨met, I.st, I.alike⟩
  | k + 1, x :: q, met, I, h => by
    unfold bfs at h
    cases e : inner A B x.a x.b x.c words 0 met [] with
    | error w =>
      rw [e] at h
      cases h
    | ok z =>
      rw [e] at h
      exact bfs_none hA hB (I.step hA hB e) h
theorem bfs_some (hA : MOk A words ka) (hB : MOk B words kb) {r : List Nat} : ∀ {k : Nat} {q : List Ent} {met : List (Nat × Nat)}, BI A B words ka kb i j k q met → bfs A B words k q met = some r →
    (∀ v ∈ r, v < words) ∧ r.length ≤ ka * kb ∧ (hear A i r).1 ≠ (hear B j r).1
  | 0, q, met, I, h => by cases h
  | k + 1, [], met, I, h => by cases h
  | k + 1, x :: q, met, I, h => by
    unfold bfs at h
    cases e : inner A B x.a x.b x.c words 0 met [] with
    | error w =>
      rw [e] at h
      cases h
      obtain ⟨g1, g2, g3⟩ := inner_spec.1 w e
      obtain ⟨xa, xb, xc, xd, xe, xf⟩ := I.en x List.mem_cons_self
      refine ⟨fun v hv => ?_, ?_, ?_⟩
      · rcases List.mem_append.mp hv with h | h
        · exact xd v h
        · rw [List.mem_singleton.mp h]
          omega
      · rw [List.length_append]
        simp
        omega
      · rw [hear_append, hear_append, xe, xf]
        intro z
        have this : [(A[x.a]![w]!).1] = [(B[x.b]![w]!).1] := (List.append_inj' z rfl).2
        exact g3 (List.cons.inj this).1
    | ok z =>
      rw [e] at h
      exact bfs_some hA hB (I.step hA hB e) h
theorem alike_hear {m : List (Nat × Nat)} (hm : Alike A B words ka kb m) : ∀ {r : List Nat} {i j : Nat}, (i, j) ∈ m → (∀ v ∈ r, v < words) → (hear A i r).1 = (hear B j r).1
  | [], i, j, _, _ => rfl
  | w :: r, i, j, h, hr => by
    obtain ⟨g1, g2⟩ := (hm _ h).2 w (hr w List.mem_cons_self)
    show _ :: _ = _ :: _
    rw [g1, alike_hear hm (r := r) g2 fun v hv => hr v (List.mem_cons_of_mem _ hv)]
/-- what row_apart gives -/
def apart (A B : Mach) (words i j : Nat) : List (List Nat) := match bfs A B words (A.length * B.length) [⟨i, j, []⟩] [(i, j)] with
  | none => []
  | some r => [r]
def resL : Option (List Nat) → List (List Nat)
  | none => []
  | some r => [r]

theorem inner_succ {h t : Nat} {row : List Nat} {n w : Nat} {met : List (Nat × Nat)} {new : List Ent} : inner A B h t row (n + 1) w met new = if (A[h]![w]!).1 ≠ (B[t]![w]!).1 then .error w
    else if ((A[h]![w]!).2, (B[t]![w]!).2) ∉ met then inner A B h t row n (w + 1) (met ++ [((A[h]![w]!).2, (B[t]![w]!).2)]) (new ++ [⟨(A[h]![w]!).2, (B[t]![w]!).2, row ++ [w]⟩])
    else inner A B h t row n (w + 1) met new := rfl
theorem ra_inner (hA : MOk A words ka) (hB : MOk B words kb) {h t : Nat} (hh : h < ka) (ht : t < kb) (hw : words ≤ 100) {q : List Ent} {met : List (Nat × Nat)} {row : List Nat} (hq : q.length ≤ 10000) (hm : met.length ≤ 10000) (hr : row.length ≤ 10000)
    {x1 x3 x9 x10 x11 : Option SV} {Q : Out → Prop} (q1 : ∀ v ρ, inner A B h t row words 0 met [] = .error v → Q (.rt (e [row ++ [v]]) ρ))
    (q2 : ∀ met' new x9 x10 x11, inner A B h t row words 0 met [] = .ok (met', new) → Q (.nx [some (.st (e A)), x1, some (.st (e B)), x3, some (.ow (.list (met'.map e))), some (.ow (.list ((q ++ new).map e))), some (.st (.int (h : Int))), some (.st (.int (t : Int))), some (.st (e row)), x9, x10, x11])) :
    @WL (.tu [9, 10]) b1_row_apart (enumD ((A[h]!).map e)) [some (.st (e A)), x1, some (.st (e B)), x3, some (.ow (.list (met.map e))), some (.ow (.list (q.map e))), some (.st (.int (h : Int))), some (.st (.int (t : Int))), some (.st (e row)), x9, x10, x11] Q := by
  have hlen := hA.row' hh
  refine wl_enum (fun w ρ => w ≤ words ∧ ∃ (met1 : List (Nat × Nat)) (new1 : List Ent) (x9 x10 x11 : Option SV), met1.length ≤ 10000 + w ∧ new1.length ≤ w ∧ inner A B h t row (words - w) w met1 new1 = inner A B h t row words 0 met [] ∧
    ρ = [some (.st (e A)), x1, some (.st (e B)), x3, some (.ow (.list (met1.map e))), some (.ow (.list ((q ++ new1).map e))), some (.st (.int (h : Int))), some (.st (.int (t : Int))), some (.st (e row)), x9, x10, x11])
    ⟨Nat.zero_le _, met, [], x9, x10, x11, by omega, Nat.le_refl _, rfl, by rw [List.append_nil]⟩ (fun w ρ hwl z => ?_) fun ρ z => ?_
  · obtain ⟨_, met1, new1, x9, x10, x11, z1, z2, z3, rfl⟩ := z
    rw [hlen] at hwl
    have ht1 : t < B.length := by rw [hB.len]; exact ht
    have hw1 : w < B[t]!.length := by rw [hB.row' ht]; exact hwl
    have hrl : row.length < sizeLine := Nat.lt_of_lt_of_le (show row.length < 10001 by omega) (by decide)
    have hml : met1.length < sizeLine := Nat.lt_of_lt_of_le (show met1.length < 10101 by omega) (by decide)
    have hql : (q ++ new1).length < sizeLine := Nat.lt_of_lt_of_le (show (q ++ new1).length < 10101 by rw [List.length_append]; omega) (by decide)
    rw [show words - w = (words - (w + 1)) + 1 by omega] at z3
    rw [inner_succ] at z3
    unfold b1_row_apart
    simp only [eq_self, Int.reduceLT, Int.reduceLE, Nat.reduceLT, Nat.reduceLeDiff, Int.reduceToNat, Int.toNat_natCast, ↓ws_seq, ↓sq_nx, ↓sq_rt, ↓sq_rf, ↓sq_bk, ↓sq_ct, ↓lq_nx, ↓lq_ct, ↓lq_bk, ↓lq_rt, ↓lq_rf, ↓ou_nx, ↓ou_rt, ↓ou_rf, ↓ws_next, ↓ws_break, ↓ws_cont, ↓ws_retNone, ↓ws_drop, ↓ws_ret, ↓ws_retF, ↓ws_set, ↓ws_setF, ↓rn_st, ↓rn_ow, ↓ws_retN, ↓sn_st, ↓sn_ow, ↓ws_setN, ↓ite_t, ↓ite_f, ↓ws_if, ↓ws_asg, ↓ws_store, ↓ws_aug, ↓ws_for, ↓ws_while, ↓we_c, ↓we_n, ↓we_op, ↓we_int, ↓wv_nil, ↓wv_ex, ↓wv_nm, ↓re_nil, ↓re_ex, ↓re_nm, ↓st_st, ↓ow_ow, ↓lk_st, ↓lk_ow, ↓bo_bo, ↓in_in, ↓wt_test, ↓wt_tru, ↓tr_bo, ↓tr_in, ↓tr_li, ↓tr_tu, ↓tr_no, ↓wt_not, ↓wt_and, ↓wt_or, ↓we_and, ↓we_or, ↓we_not, ↓we_if, ↓di_nil, ↓di_1, ↓di_2, ↓di_3, ↓di_4, ↓di_5, ↓di_6, ↓di_7, ↓di_8, ↓di_9, ↓di_10, ↓di_11, ↓di_12, ↓we_tup, ↓we_lst, ↓wm_nil, ↓wm_cons, ↓wa_nil, ↓wa_ex, ↓wa_st, ↓wa_io, ↓fz_nil, ↓fz_ex, ↓fz_io, ↓fy_st, ↓fy_ow, ↓ar_nil, ↓ar_ex, ↓ar_st, ↓ar_io, ↓pu_nil, ↓pu_cons, ↓we_call, ij_nil, ij_ex, ij_st, ij_io, ↓wg_nm, ↓wg_tu, ↓wg_tl, ↓wgs_nil, ↓wgs_cons, ↓we_methS', ↓ls_li, ↓we_meth, ↓we_chain, ↓we_rg1, ↓we_dict0, ↓we_get, ↓isd_d, ↓we_get2, ↓ws_put, ↓we_val, ↓wi_seq, ↓wi_rng, ↓wi_enum, ↓fq_seqL, ↓fq_seqT, ↓wt_yes, ↓rs_nil, ↓rs_cons, ↓wp_nil, ↓wp_cons, ↓we_comp, ↓we_compD, ↓we_comp2, ↓we_sset, ↓we_lset, ↓we_rev, ↓rv_l, ↓rv_t, ↓f_zip, ↓iq_nil, ↓iq_cons, ↓get_0, ↓set_0, ↓slot_0, ↓fz_0, ↓get_1, ↓set_1, ↓slot_1, ↓fz_1, ↓get_2, ↓set_2, ↓slot_2, ↓fz_2, ↓get_3, ↓set_3, ↓slot_3, ↓fz_3, ↓get_4, ↓set_4, ↓slot_4, ↓fz_4, ↓get_5, ↓set_5, ↓slot_5, ↓fz_5, ↓get_6, ↓set_6, ↓slot_6, ↓fz_6, ↓get_7, ↓set_7, ↓slot_7, ↓fz_7, ↓get_8, ↓set_8, ↓slot_8, ↓fz_8, ↓get_9, ↓set_9, ↓slot_9, ↓fz_9, ↓get_10, ↓set_10, ↓slot_10, ↓fz_10, ↓get_11, ↓set_11, ↓slot_11, ↓fz_11, ↓get_12, ↓set_12, ↓slot_12, ↓fz_12, ↓get_13, ↓set_13, ↓slot_13, ↓fz_13, ↓get_14, ↓set_14, ↓slot_14, ↓fz_14, ↓get_15, ↓set_15, ↓slot_15, ↓fz_15, ↓get_16, ↓set_16, ↓slot_16, ↓fz_16, ↓get_17, ↓set_17, ↓slot_17, ↓fz_17, ↓get_18, ↓set_18, ↓slot_18, ↓fz_18, ↓get_19, ↓set_19, ↓slot_19, ↓fz_19, ↓get_20, ↓set_20, ↓slot_20, ↓fz_20, ↓get_21, ↓set_21, ↓slot_21, ↓fz_21, ↓get_22, ↓set_22, ↓slot_22, ↓fz_22, ↓get_23, ↓set_23, ↓slot_23, ↓fz_23, ↓get_24, ↓set_24, ↓slot_24, ↓fz_24, ↓get_25, ↓set_25, ↓slot_25, ↓fz_25, ↓f_sub, ↓f_lt, ↓f_le, ↓f_gt, ↓f_ge, ↓f_add, ↓f_mod, ↓f_fdiv, ↓f_mulL, ↓f_mulR, ↓f_neg, ↓f_abs, ↓f_intI, ↓f_intB, ↓f_lenL, ↓f_lenT, ↓f_tupL, ↓f_tupT, ↓f_lisL, ↓f_lisT, ↓f_isB, ↓f_isNotB, ↓f_isN, ↓f_isNotN, ↓f_all, ↓f_any, ↓f_sum, ↓f_isi_int_int, ↓f_isi_int_bool, ↓f_isi_int_tuple, ↓f_isi_int_str, ↓f_isi_int_list, ↓f_isi_bool_int, ↓f_isi_bool_bool, ↓f_isi_bool_tuple, ↓f_isi_bool_str, ↓f_isi_bool_list, ↓f_isi_tuple_int, ↓f_isi_tuple_bool, ↓f_isi_tuple_tuple, ↓f_isi_tuple_str, ↓f_isi_tuple_list, ↓f_isi_str_int, ↓f_isi_str_bool, ↓f_isi_str_tuple, ↓f_isi_str_str, ↓f_isi_str_list, ↓f_isi_list_int, ↓f_isi_list_bool, ↓f_isi_list_tuple, ↓f_isi_list_str, ↓f_isi_list_list, ↓h_pop, ↓h_pop0, ↓f_rngI, ↓f_ixl0, ↓f_ixl1, ↓f_ixl2, ↓f_ixl3, ↓f_ixl4, ↓f_ixl5, ↓f_ixt0, ↓f_ixt1, ↓f_ixt2, ↓f_ixt3, ↓f_ixt4, ↓f_ixt5, ↓f_sd0, ↓f_sd1, ↓f_sd2, ↓f_sd3, ↓f_sd4, ↓f_sd5, nd_none, nd_bool, nd_int, nd_str, nd_list, nd_tuple, ↓q_ix ht1, ↓q_ix hw1, ↓q_p0, ↓q_ne, dep_list, dep_nat]
    by_cases hd : (A[h]![w]!).1 ≠ (B[t]![w]!).1
    · rw [if_pos hd] at z3
      simp only [eq_self, Int.reduceLT, Int.reduceLE, Nat.reduceLT, Nat.reduceLeDiff, Int.reduceToNat, Int.toNat_natCast, ↓ws_seq, ↓sq_nx, ↓sq_rt, ↓sq_rf, ↓sq_bk, ↓sq_ct, ↓lq_nx, ↓lq_ct, ↓lq_bk, ↓lq_rt, ↓lq_rf, ↓ou_nx, ↓ou_rt, ↓ou_rf, ↓ws_next, ↓ws_break, ↓ws_cont, ↓ws_retNone, ↓ws_drop, ↓ws_ret, ↓ws_retF, ↓ws_set, ↓ws_setF, ↓rn_st, ↓rn_ow, ↓ws_retN, ↓sn_st, ↓sn_ow, ↓ws_setN, ↓ite_t, ↓ite_f, ↓ws_if, ↓ws_asg, ↓ws_store, ↓ws_aug, ↓ws_for, ↓ws_while, ↓we_c, ↓we_n, ↓we_op, ↓we_int, ↓wv_nil, ↓wv_ex, ↓wv_nm, ↓re_nil, ↓re_ex, ↓re_nm, ↓st_st, ↓ow_ow, ↓lk_st, ↓lk_ow, ↓bo_bo, ↓in_in, ↓wt_test, ↓wt_tru, ↓tr_bo, ↓tr_in, ↓tr_li, ↓tr_tu, ↓tr_no, ↓wt_not, ↓wt_and, ↓wt_or, ↓we_and, ↓we_or, ↓we_not, ↓we_if, ↓di_nil, ↓di_1, ↓di_2, ↓di_3, ↓di_4, ↓di_5, ↓di_6, ↓di_7, ↓di_8, ↓di_9, ↓di_10, ↓di_11, ↓di_12, ↓we_tup, ↓we_lst, ↓wm_nil, ↓wm_cons, ↓wa_nil, ↓wa_ex, ↓wa_st, ↓wa_io, ↓fz_nil, ↓fz_ex, ↓fz_io, ↓fy_st, ↓fy_ow, ↓ar_nil, ↓ar_ex, ↓ar_st, ↓ar_io, ↓pu_nil, ↓pu_cons, ↓we_call, ij_nil, ij_ex, ij_st, ij_io, ↓wg_nm, ↓wg_tu, ↓wg_tl, ↓wgs_nil, ↓wgs_cons, ↓we_methS', ↓ls_li, ↓we_meth, ↓we_chain, ↓we_rg1, ↓we_dict0, ↓we_get, ↓isd_d, ↓we_get2, ↓ws_put, ↓we_val, ↓wi_seq, ↓wi_rng, ↓wi_enum, ↓fq_seqL, ↓fq_seqT, ↓wt_yes, ↓rs_nil, ↓rs_cons, ↓wp_nil, ↓wp_cons, ↓we_comp, ↓we_compD, ↓we_comp2, ↓we_sset, ↓we_lset, ↓we_rev, ↓rv_l, ↓rv_t, ↓f_zip, ↓iq_nil, ↓iq_cons, ↓get_0, ↓set_0, ↓slot_0, ↓fz_0, ↓get_1, ↓set_1, ↓slot_1, ↓fz_1, ↓get_2, ↓set_2, ↓slot_2, ↓fz_2, ↓get_3, ↓set_3, ↓slot_3, ↓fz_3, ↓get_4, ↓set_4, ↓slot_4, ↓fz_4, ↓get_5, ↓set_5, ↓slot_5, ↓fz_5, ↓get_6, ↓set_6, ↓slot_6, ↓fz_6, ↓get_7, ↓set_7, ↓slot_7, ↓fz_7, ↓get_8, ↓set_8, ↓slot_8, ↓fz_8, ↓get_9, ↓set_9, ↓slot_9, ↓fz_9, ↓get_10, ↓set_10, ↓slot_10, ↓fz_10, ↓get_11, ↓set_11, ↓slot_11, ↓fz_11, ↓get_12, ↓set_12, ↓slot_12, ↓fz_12, ↓get_13, ↓set_13, ↓slot_13, ↓fz_13, ↓get_14, ↓set_14, ↓slot_14, ↓fz_14, ↓get_15, ↓set_15, ↓slot_15, ↓fz_15, ↓get_16, ↓set_16, ↓slot_16, ↓fz_16, ↓get_17, ↓set_17, ↓slot_17, ↓fz_17, ↓get_18, ↓set_18, ↓slot_18, ↓fz_18, ↓get_19, ↓set_19, ↓slot_19, ↓fz_19, ↓get_20, ↓set_20, ↓slot_20, ↓fz_20, ↓get_21, ↓set_21, ↓slot_21, ↓fz_21, ↓get_22, ↓set_22, ↓slot_22, ↓fz_22, ↓get_23, ↓set_23, ↓slot_23, ↓fz_23, ↓get_24, ↓set_24, ↓slot_24, ↓fz_24, ↓get_25, ↓set_25, ↓slot_25, ↓fz_25, ↓f_sub, ↓f_lt, ↓f_le, ↓f_gt, ↓f_ge, ↓f_add, ↓f_mod, ↓f_fdiv, ↓f_mulL, ↓f_mulR, ↓f_neg, ↓f_abs, ↓f_intI, ↓f_intB, ↓f_lenL, ↓f_lenT, ↓f_tupL, ↓f_tupT, ↓f_lisL, ↓f_lisT, ↓f_isB, ↓f_isNotB, ↓f_isN, ↓f_isNotN, ↓f_all, ↓f_any, ↓f_sum, ↓f_isi_int_int, ↓f_isi_int_bool, ↓f_isi_int_tuple, ↓f_isi_int_str, ↓f_isi_int_list, ↓f_isi_bool_int, ↓f_isi_bool_bool, ↓f_isi_bool_tuple, ↓f_isi_bool_str, ↓f_isi_bool_list, ↓f_isi_tuple_int, ↓f_isi_tuple_bool, ↓f_isi_tuple_tuple, ↓f_isi_tuple_str, ↓f_isi_tuple_list, ↓f_isi_str_int, ↓f_isi_str_bool, ↓f_isi_str_tuple, ↓f_isi_str_str, ↓f_isi_str_list, ↓f_isi_list_int, ↓f_isi_list_bool, ↓f_isi_list_tuple, ↓f_isi_list_str, ↓f_isi_list_list, ↓h_pop, ↓h_pop0, ↓f_rngI, ↓f_ixl0, ↓f_ixl1, ↓f_ixl2, ↓f_ixl3, ↓f_ixl4, ↓f_ixl5, ↓f_ixt0, ↓f_ixt1, ↓f_ixt2, ↓f_ixt3, ↓f_ixt4, ↓f_ixt5, ↓f_sd0, ↓f_sd1, ↓f_sd2, ↓f_sd3, ↓f_sd4, ↓f_sd5, nd_none, nd_bool, nd_int, nd_str, nd_list, nd_tuple, ↓itT hd, ↓q_cat1n hrl, en_nd]
      exact q1 w _ z3.symm
    · rw [if_neg hd] at z3
      simp only [eq_self, Int.reduceLT, Int.reduceLE, Nat.reduceLT, Nat.reduceLeDiff, Int.reduceToNat, Int.toNat_natCast, ↓ws_seq, ↓sq_nx, ↓sq_rt, ↓sq_rf, ↓sq_bk, ↓sq_ct, ↓lq_nx, ↓lq_ct, ↓lq_bk, ↓lq_rt, ↓lq_rf, ↓ou_nx, ↓ou_rt, ↓ou_rf, ↓ws_next, ↓ws_break, ↓ws_cont, ↓ws_retNone, ↓ws_drop, ↓ws_ret, ↓ws_retF, ↓ws_set, ↓ws_setF, ↓rn_st, ↓rn_ow, ↓ws_retN, ↓sn_st, ↓sn_ow, ↓ws_setN, ↓ite_t, ↓ite_f, ↓ws_if, ↓ws_asg, ↓ws_store, ↓ws_aug, ↓ws_for, ↓ws_while, ↓we_c, ↓we_n, ↓we_op, ↓we_int, ↓wv_nil, ↓wv_ex, ↓wv_nm, ↓re_nil, ↓re_ex, ↓re_nm, ↓st_st, ↓ow_ow, ↓lk_st, ↓lk_ow, ↓bo_bo, ↓in_in, ↓wt_test, ↓wt_tru, ↓tr_bo, ↓tr_in, ↓tr_li, ↓tr_tu, ↓tr_no, ↓wt_not, ↓wt_and, ↓wt_or, ↓we_and, ↓we_or, ↓we_not, ↓we_if, ↓di_nil, ↓di_1, ↓di_2, ↓di_3, ↓di_4, ↓di_5, ↓di_6, ↓di_7, ↓di_8, ↓di_9, ↓di_10, ↓di_11, ↓di_12, ↓we_tup, ↓we_lst, ↓wm_nil, ↓wm_cons, ↓wa_nil, ↓wa_ex, ↓wa_st, ↓wa_io, ↓fz_nil, ↓fz_ex, ↓fz_io, ↓fy_st, ↓fy_ow, ↓ar_nil, ↓ar_ex, ↓ar_st, ↓ar_io, ↓pu_nil, ↓pu_cons, ↓we_call, ij_nil, ij_ex, ij_st, ij_io, ↓wg_nm, ↓wg_tu, ↓wg_tl, ↓wgs_nil, ↓wgs_cons, ↓we_methS', ↓ls_li, ↓we_meth, ↓we_chain, ↓we_rg1, ↓we_dict0, ↓we_get, ↓isd_d, ↓we_get2, ↓ws_put, ↓we_val, ↓wi_seq, ↓wi_rng, ↓wi_enum, ↓fq_seqL, ↓fq_seqT, ↓wt_yes, ↓rs_nil, ↓rs_cons, ↓wp_nil, ↓wp_cons, ↓we_comp, ↓we_compD, ↓we_comp2, ↓we_sset, ↓we_lset, ↓we_rev, ↓rv_l, ↓rv_t, ↓f_zip, ↓iq_nil, ↓iq_cons, ↓get_0, ↓set_0, ↓slot_0, ↓fz_0, ↓get_1, ↓set_1, ↓slot_1, ↓fz_1, ↓get_2, ↓set_2, ↓slot_2, ↓fz_2, ↓get_3, ↓set_3, ↓slot_3, ↓fz_3, ↓get_4, ↓set_4, ↓slot_4, ↓fz_4, ↓get_5, ↓set_5, ↓slot_5, ↓fz_5, ↓get_6, ↓set_6, ↓slot_6, ↓fz_6, ↓get_7, ↓set_7, ↓slot_7, ↓fz_7, ↓get_8, ↓set_8, ↓slot_8, ↓fz_8, ↓get_9, ↓set_9, ↓slot_9, ↓fz_9, ↓get_10, ↓set_10, ↓slot_10, ↓fz_10, ↓get_11, ↓set_11, ↓slot_11, ↓fz_11, ↓get_12, ↓set_12, ↓slot_12, ↓fz_12, ↓get_13, ↓set_13, ↓slot_13, ↓fz_13, ↓get_14, ↓set_14, ↓slot_14, ↓fz_14, ↓get_15, ↓set_15, ↓slot_15, ↓fz_15, ↓get_16, ↓set_16, ↓slot_16, ↓fz_16, ↓get_17, ↓set_17, ↓slot_17, ↓fz_17, ↓get_18, ↓set_18, ↓slot_18, ↓fz_18, ↓get_19, ↓set_19, ↓slot_19, ↓fz_19, ↓get_20, ↓set_20, ↓slot_20, ↓fz_20, ↓get_21, ↓set_21, ↓slot_21, ↓fz_21, ↓get_22, ↓set_22, ↓slot_22, ↓fz_22, ↓get_23, ↓set_23, ↓slot_23, ↓fz_23, ↓get_24, ↓set_24, ↓slot_24, ↓fz_24, ↓get_25, ↓set_25, ↓slot_25, ↓fz_25, ↓f_sub, ↓f_lt, ↓f_le, ↓f_gt, ↓f_ge, ↓f_add, ↓f_mod, ↓f_fdiv, ↓f_mulL, ↓f_mulR, ↓f_neg, ↓f_abs, ↓f_intI, ↓f_intB, ↓f_lenL, ↓f_lenT, ↓f_tupL, ↓f_tupT, ↓f_lisL, ↓f_lisT, ↓f_isB, ↓f_isNotB, ↓f_isN, ↓f_isNotN, ↓f_all, ↓f_any, ↓f_sum, ↓f_isi_int_int, ↓f_isi_int_bool, ↓f_isi_int_tuple, ↓f_isi_int_str, ↓f_isi_int_list, ↓f_isi_bool_int, ↓f_isi_bool_bool, ↓f_isi_bool_tuple, ↓f_isi_bool_str, ↓f_isi_bool_list, ↓f_isi_tuple_int, ↓f_isi_tuple_bool, ↓f_isi_tuple_tuple, ↓f_isi_tuple_str, ↓f_isi_tuple_list, ↓f_isi_str_int, ↓f_isi_str_bool, ↓f_isi_str_tuple, ↓f_isi_str_str, ↓f_isi_str_list, ↓f_isi_list_int, ↓f_isi_list_bool, ↓f_isi_list_tuple, ↓f_isi_list_str, ↓f_isi_list_list, ↓h_pop, ↓h_pop0, ↓f_rngI, ↓f_ixl0, ↓f_ixl1, ↓f_ixl2, ↓f_ixl3, ↓f_ixl4, ↓f_ixl5, ↓f_ixt0, ↓f_ixt1, ↓f_ixt2, ↓f_ixt3, ↓f_ixt4, ↓f_ixt5, ↓f_sd0, ↓f_sd1, ↓f_sd2, ↓f_sd3, ↓f_sd4, ↓f_sd5, nd_none, nd_bool, nd_int, nd_str, nd_list, nd_tuple, ↓itF hd, ↓q_p1, en_nat, ↓q_ix ht1, ↓q_ix hw1, t2n, ↓q_nin, dep_pair, dep_nat, Nat.max_self]
      by_cases hmm : ((A[h]![w]!).2, (B[t]![w]!).2) ∉ met1
      · rw [if_pos hmm] at z3
        simp only [eq_self, Int.reduceLT, Int.reduceLE, Nat.reduceLT, Nat.reduceLeDiff, Int.reduceToNat, Int.toNat_natCast, ↓ws_seq, ↓sq_nx, ↓sq_rt, ↓sq_rf, ↓sq_bk, ↓sq_ct, ↓lq_nx, ↓lq_ct, ↓lq_bk, ↓lq_rt, ↓lq_rf, ↓ou_nx, ↓ou_rt, ↓ou_rf, ↓ws_next, ↓ws_break, ↓ws_cont, ↓ws_retNone, ↓ws_drop, ↓ws_ret, ↓ws_retF, ↓ws_set, ↓ws_setF, ↓rn_st, ↓rn_ow, ↓ws_retN, ↓sn_st, ↓sn_ow, ↓ws_setN, ↓ite_t, ↓ite_f, ↓ws_if, ↓ws_asg, ↓ws_store, ↓ws_aug, ↓ws_for, ↓ws_while, ↓we_c, ↓we_n, ↓we_op, ↓we_int, ↓wv_nil, ↓wv_ex, ↓wv_nm, ↓re_nil, ↓re_ex, ↓re_nm, ↓st_st, ↓ow_ow, ↓lk_st, ↓lk_ow, ↓bo_bo, ↓in_in, ↓wt_test, ↓wt_tru, ↓tr_bo, ↓tr_in, ↓tr_li, ↓tr_tu, ↓tr_no, ↓wt_not, ↓wt_and, ↓wt_or, ↓we_and, ↓we_or, ↓we_not, ↓we_if, ↓di_nil, ↓di_1, ↓di_2, ↓di_3, ↓di_4, ↓di_5, ↓di_6, ↓di_7, ↓di_8, ↓di_9, ↓di_10, ↓di_11, ↓di_12, ↓we_tup, ↓we_lst, ↓wm_nil, ↓wm_cons, ↓wa_nil, ↓wa_ex, ↓wa_st, ↓wa_io, ↓fz_nil, ↓fz_ex, ↓fz_io, ↓fy_st, ↓fy_ow, ↓ar_nil, ↓ar_ex, ↓ar_st, ↓ar_io, ↓pu_nil, ↓pu_cons, ↓we_call, ij_nil, ij_ex, ij_st, ij_io, ↓wg_nm, ↓wg_tu, ↓wg_tl, ↓wgs_nil, ↓wgs_cons, ↓we_methS', ↓ls_li, ↓we_meth, ↓we_chain, ↓we_rg1, ↓we_dict0, ↓we_get, ↓isd_d, ↓we_get2, ↓ws_put, ↓we_val, ↓wi_seq, ↓wi_rng, ↓wi_enum, ↓fq_seqL, ↓fq_seqT, ↓wt_yes, ↓rs_nil, ↓rs_cons, ↓wp_nil, ↓wp_cons, ↓we_comp, ↓we_compD, ↓we_comp2, ↓we_sset, ↓we_lset, ↓we_rev, ↓rv_l, ↓rv_t, ↓f_zip, ↓iq_nil, ↓iq_cons, ↓get_0, ↓set_0, ↓slot_0, ↓fz_0, ↓get_1, ↓set_1, ↓slot_1, ↓fz_1, ↓get_2, ↓set_2, ↓slot_2, ↓fz_2, ↓get_3, ↓set_3, ↓slot_3, ↓fz_3, ↓get_4, ↓set_4, ↓slot_4, ↓fz_4, ↓get_5, ↓set_5, ↓slot_5, ↓fz_5, ↓get_6, ↓set_6, ↓slot_6, ↓fz_6, ↓get_7, ↓set_7, ↓slot_7, ↓fz_7, ↓get_8, ↓set_8, ↓slot_8, ↓fz_8, ↓get_9, ↓set_9, ↓slot_9, ↓fz_9, ↓get_10, ↓set_10, ↓slot_10, ↓fz_10, ↓get_11, ↓set_11, ↓slot_11, ↓fz_11, ↓get_12, ↓set_12, ↓slot_12, ↓fz_12, ↓get_13, ↓set_13, ↓slot_13, ↓fz_13, ↓get_14, ↓set_14, ↓slot_14, ↓fz_14, ↓get_15, ↓set_15, ↓slot_15, ↓fz_15, ↓get_16, ↓set_16, ↓slot_16, ↓fz_16, ↓get_17, ↓set_17, ↓slot_17, ↓fz_17, ↓get_18, ↓set_18, ↓slot_18, ↓fz_18, ↓get_19, ↓set_19, ↓slot_19, ↓fz_19, ↓get_20, ↓set_20, ↓slot_20, ↓fz_20, ↓get_21, ↓set_21, ↓slot_21, ↓fz_21, ↓get_22, ↓set_22, ↓slot_22, ↓fz_22, ↓get_23, ↓set_23, ↓slot_23, ↓fz_23, ↓get_24, ↓set_24, ↓slot_24, ↓fz_24, ↓get_25, ↓set_25, ↓slot_25, ↓fz_25, ↓f_sub, ↓f_lt, ↓f_le, ↓f_gt, ↓f_ge, ↓f_add, ↓f_mod, ↓f_fdiv, ↓f_mulL, ↓f_mulR, ↓f_neg, ↓f_abs, ↓f_intI, ↓f_intB, ↓f_lenL, ↓f_lenT, ↓f_tupL, ↓f_tupT, ↓f_lisL, ↓f_lisT, ↓f_isB, ↓f_isNotB, ↓f_isN, ↓f_isNotN, ↓f_all, ↓f_any, ↓f_sum, ↓f_isi_int_int, ↓f_isi_int_bool, ↓f_isi_int_tuple, ↓f_isi_int_str, ↓f_isi_int_list, ↓f_isi_bool_int, ↓f_isi_bool_bool, ↓f_isi_bool_tuple, ↓f_isi_bool_str, ↓f_isi_bool_list, ↓f_isi_tuple_int, ↓f_isi_tuple_bool, ↓f_isi_tuple_tuple, ↓f_isi_tuple_str, ↓f_isi_tuple_list, ↓f_isi_str_int, ↓f_isi_str_bool, ↓f_isi_str_tuple, ↓f_isi_str_str, ↓f_isi_str_list, ↓f_isi_list_int, ↓f_isi_list_bool, ↓f_isi_list_tuple, ↓f_isi_list_str, ↓f_isi_list_list, ↓h_pop, ↓h_pop0, ↓f_rngI, ↓f_ixl0, ↓f_ixl1, ↓f_ixl2, ↓f_ixl3, ↓f_ixl4, ↓f_ixl5, ↓f_ixt0, ↓f_ixt1, ↓f_ixt2, ↓f_ixt3, ↓f_ixt4, ↓f_ixt5, ↓f_sd0, ↓f_sd1, ↓f_sd2, ↓f_sd3, ↓f_sd4, ↓f_sd5, nd_none, nd_bool, nd_int, nd_str, nd_list, nd_tuple, ↓itT hmm, ↓q_p1, en_nat, t2n, ↓q_app hml, ↓q_cat1n hrl, en_nd, t3n, ↓q_app hql]
        refine ⟨by omega, _, _, _, _, _, ?_, ?_, z3, by rw [List.append_assoc]⟩
        · rw [List.length_append]
          simp
          omega
        · rw [List.length_append]
          simp
          omega
      · rw [if_neg hmm] at z3
        simp only [eq_self, Int.reduceLT, Int.reduceLE, Nat.reduceLT, Nat.reduceLeDiff, Int.reduceToNat, Int.toNat_natCast, ↓ws_seq, ↓sq_nx, ↓sq_rt, ↓sq_rf, ↓sq_bk, ↓sq_ct, ↓lq_nx, ↓lq_ct, ↓lq_bk, ↓lq_rt, ↓lq_rf, ↓ou_nx, ↓ou_rt, ↓ou_rf, ↓ws_next, ↓ws_break, ↓ws_cont, ↓ws_retNone, ↓ws_drop, ↓ws_ret, ↓ws_retF, ↓ws_set, ↓ws_setF, ↓rn_st, ↓rn_ow, ↓ws_retN, ↓sn_st, ↓sn_ow, ↓ws_setN, ↓ite_t, ↓ite_f, ↓ws_if, ↓ws_asg, ↓ws_store, ↓ws_aug, ↓ws_for, ↓ws_while, ↓we_c, ↓we_n, ↓we_op, ↓we_int, ↓wv_nil, ↓wv_ex, ↓wv_nm, ↓re_nil, ↓re_ex, ↓re_nm, ↓st_st, ↓ow_ow, ↓lk_st, ↓lk_ow, ↓bo_bo, ↓in_in, ↓wt_test, ↓wt_tru, ↓tr_bo, ↓tr_in, ↓tr_li, ↓tr_tu, ↓tr_no, ↓wt_not, ↓wt_and, ↓wt_or, ↓we_and, ↓we_or, ↓we_not, ↓we_if, ↓di_nil, ↓di_1, ↓di_2, ↓di_3, ↓di_4, ↓di_5, ↓di_6, ↓di_7, ↓di_8, ↓di_9, ↓di_10, ↓di_11, ↓di_12, ↓we_tup, ↓we_lst, ↓wm_nil, ↓wm_cons, ↓wa_nil, ↓wa_ex, ↓wa_st, ↓wa_io, ↓fz_nil, ↓fz_ex, ↓fz_io, ↓fy_st, ↓fy_ow, ↓ar_nil, ↓ar_ex, ↓ar_st, ↓ar_io, ↓pu_nil, ↓pu_cons, ↓we_call, ij_nil, ij_ex, ij_st, ij_io, ↓wg_nm, ↓wg_tu, ↓wg_tl, ↓wgs_nil, ↓wgs_cons, ↓we_methS', ↓ls_li, ↓we_meth, ↓we_chain, ↓we_rg1, ↓we_dict0, ↓we_get, ↓isd_d, ↓we_get2, ↓ws_put, ↓we_val, ↓wi_seq, ↓wi_rng, ↓wi_enum, ↓fq_seqL, ↓fq_seqT, ↓wt_yes, ↓rs_nil, ↓rs_cons, ↓wp_nil, ↓wp_cons, ↓we_comp, ↓we_compD, ↓we_comp2, ↓we_sset, ↓we_lset, ↓we_rev, ↓rv_l, ↓rv_t, ↓f_zip, ↓iq_nil, ↓iq_cons, ↓get_0, ↓set_0, ↓slot_0, ↓fz_0, ↓get_1, ↓set_1, ↓slot_1, ↓fz_1, ↓get_2, ↓set_2, ↓slot_2, ↓fz_2, ↓get_3, ↓set_3, ↓slot_3, ↓fz_3, ↓get_4, ↓set_4, ↓slot_4, ↓fz_4, ↓get_5, ↓set_5, ↓slot_5, ↓fz_5, ↓get_6, ↓set_6, ↓slot_6, ↓fz_6, ↓get_7, ↓set_7, ↓slot_7, ↓fz_7, ↓get_8, ↓set_8, ↓slot_8, ↓fz_8, ↓get_9, ↓set_9, ↓slot_9, ↓fz_9, ↓get_10, ↓set_10, ↓slot_10, ↓fz_10, ↓get_11, ↓set_11, ↓slot_11, ↓fz_11, ↓get_12, ↓set_12, ↓slot_12, ↓fz_12, ↓get_13, ↓set_13, ↓slot_13, ↓fz_13, ↓get_14, ↓set_14, ↓slot_14, ↓fz_14, ↓get_15, ↓set_15, ↓slot_15, ↓fz_15, ↓get_16, ↓set_16, ↓slot_16, ↓fz_16, ↓get_17, ↓set_17, ↓slot_17, ↓fz_17, ↓get_18, ↓set_18, ↓slot_18, ↓fz_18, ↓get_19, ↓set_19, ↓slot_19, ↓fz_19, ↓get_20, ↓set_20, ↓slot_20, ↓fz_20, ↓get_21, ↓set_21, ↓slot_21, ↓fz_21, ↓get_22, ↓set_22, ↓slot_22, ↓fz_22, ↓get_23, ↓set_23, ↓slot_23, ↓fz_23, ↓get_24, ↓set_24, ↓slot_24, ↓fz_24, ↓get_25, ↓set_25, ↓slot_25, ↓fz_25, ↓f_sub, ↓f_lt, ↓f_le, ↓f_gt, ↓f_ge, ↓f_add, ↓f_mod, ↓f_fdiv, ↓f_mulL, ↓f_mulR, ↓f_neg, ↓f_abs, ↓f_intI, ↓f_intB, ↓f_lenL, ↓f_lenT, ↓f_tupL, ↓f_tupT, ↓f_lisL, ↓f_lisT, ↓f_isB, ↓f_isNotB, ↓f_isN, ↓f_isNotN, ↓f_all, ↓f_any, ↓f_sum, ↓f_isi_int_int, ↓f_isi_int_bool, ↓f_isi_int_tuple, ↓f_isi_int_str, ↓f_isi_int_list, ↓f_isi_bool_int, ↓f_isi_bool_bool, ↓f_isi_bool_tuple, ↓f_isi_bool_str, ↓f_isi_bool_list, ↓f_isi_tuple_int, ↓f_isi_tuple_bool, ↓f_isi_tuple_tuple, ↓f_isi_tuple_str, ↓f_isi_tuple_list, ↓f_isi_str_int, ↓f_isi_str_bool, ↓f_isi_str_tuple, ↓f_isi_str_str, ↓f_isi_str_list, ↓f_isi_list_int, ↓f_isi_list_bool, ↓f_isi_list_tuple, ↓f_isi_list_str, ↓f_isi_list_list, ↓h_pop, ↓h_pop0, ↓f_rngI, ↓f_ixl0, ↓f_ixl1, ↓f_ixl2, ↓f_ixl3, ↓f_ixl4, ↓f_ixl5, ↓f_ixt0, ↓f_ixt1, ↓f_ixt2, ↓f_ixt3, ↓f_ixt4, ↓f_ixt5, ↓f_sd0, ↓f_sd1, ↓f_sd2, ↓f_sd3, ↓f_sd4, ↓f_sd5, nd_none, nd_bool, nd_int, nd_str, nd_list, nd_tuple, ↓itF hmm]
        exact ⟨by omega, met1, new1, _, _, _, by omega, by omega, z3, rfl⟩
  · obtain ⟨_, met1, new1, x9, x10, x11, z1, z2, z3, rfl⟩ := z
    rw [hlen, Nat.sub_self] at z3
    exact q2 _ _ _ _ _ z3.symm

theorem trN {a : Bool} {A B : Prop} : @iteQ a A B = ((a = true → A) ∧ (a = false → B)) := by
  cases a
  · exact propext ⟨fun h => ⟨nofun, fun _ => h⟩, fun h => h.2 rfl⟩
  · exact propext ⟨fun h => ⟨fun _ => h, nofun⟩, fun h => h.1 rfl⟩
theorem bfs_nil {k : Nat} {met : List (Nat × Nat)} : bfs A B words k [] met = none := by cases k <;> rfl
theorem row_apart_eq (hA : MOk A words ka) (hB : MOk B words kb) (hi : i < ka) (hj : j < kb) (hka : ka ≤ 100) (hkb : kb ≤ 100) (hw : words ≤ 100) :
    F_row_apart [e A, .int (i : Int), e B, .int (j : Int)] = some (e (resL (bfs A B words (ka * kb) [⟨i, j, []⟩] [(i, j)])), []) := wf_eq (by
  rw [run_row_apart]
  unfold m_row_apart
  have hN : ka * kb ≤ 10000 := Nat.mul_le_mul hka hkb
  have hN2 : ka * kb < FUEL := Nat.lt_of_le_of_lt hN (by decide)
  have e0 : PyData.tuple [.int (i : Int), .int (j : Int), .tuple []] = e (T3.mk i j ([] : List Nat)) := rfl
  have e1 : PyData.list [e ((i, j) : Nat × Nat)] = .list ([((i, j) : Nat × Nat)].map e) := rfl
  have e2 : PyData.list [e (T3.mk i j ([] : List Nat))] = .list ([(T3.mk i j [] : Ent)].map e) := rfl
  simp only [eq_self, Int.reduceLT, Int.reduceLE, Nat.reduceLT, Nat.reduceLeDiff, Int.reduceToNat, Int.toNat_natCast, ↓ws_seq, ↓sq_nx, ↓sq_rt, ↓sq_rf, ↓sq_bk, ↓sq_ct, ↓lq_nx, ↓lq_ct, ↓lq_bk, ↓lq_rt, ↓lq_rf, ↓ou_nx, ↓ou_rt, ↓ou_rf, ↓ws_next, ↓ws_break, ↓ws_cont, ↓ws_retNone, ↓ws_drop, ↓ws_ret, ↓ws_retF, ↓ws_set, ↓ws_setF, ↓rn_st, ↓rn_ow, ↓ws_retN, ↓sn_st, ↓sn_ow, ↓ws_setN, ↓ite_t, ↓ite_f, ↓ws_if, ↓ws_asg, ↓ws_store, ↓ws_aug, ↓ws_for, ↓ws_while, ↓we_c, ↓we_n, ↓we_op, ↓we_int, ↓wv_nil, ↓wv_ex, ↓wv_nm, ↓re_nil, ↓re_ex, ↓re_nm, ↓st_st, ↓ow_ow, ↓lk_st, ↓lk_ow, ↓bo_bo, ↓in_in, ↓wt_test, ↓wt_tru, ↓tr_bo, ↓tr_in, ↓tr_li, ↓tr_tu, ↓tr_no, ↓wt_not, ↓wt_and, ↓wt_or, ↓we_and, ↓we_or, ↓we_not, ↓we_if, ↓di_nil, ↓di_1, ↓di_2, ↓di_3, ↓di_4, ↓di_5, ↓di_6, ↓di_7, ↓di_8, ↓di_9, ↓di_10, ↓di_11, ↓di_12, ↓we_tup, ↓we_lst, ↓wm_nil, ↓wm_cons, ↓wa_nil, ↓wa_ex, ↓wa_st, ↓wa_io, ↓fz_nil, ↓fz_ex, ↓fz_io, ↓fy_st, ↓fy_ow, ↓ar_nil, ↓ar_ex, ↓ar_st, ↓ar_io, ↓pu_nil, ↓pu_cons, ↓we_call, ij_nil, ij_ex, ij_st, ij_io, ↓wg_nm, ↓wg_tu, ↓wg_tl, ↓wgs_nil, ↓wgs_cons, ↓we_methS', ↓ls_li, ↓we_meth, ↓we_chain, ↓we_rg1, ↓we_dict0, ↓we_get, ↓isd_d, ↓we_get2, ↓ws_put, ↓we_val, ↓wi_seq, ↓wi_rng, ↓wi_enum, ↓fq_seqL, ↓fq_seqT, ↓wt_yes, ↓rs_nil, ↓rs_cons, ↓wp_nil, ↓wp_cons, ↓we_comp, ↓we_compD, ↓we_comp2, ↓we_sset, ↓we_lset, ↓we_rev, ↓rv_l, ↓rv_t, ↓f_zip, ↓iq_nil, ↓iq_cons, ↓get_0, ↓set_0, ↓slot_0, ↓fz_0, ↓get_1, ↓set_1, ↓slot_1, ↓fz_1, ↓get_2, ↓set_2, ↓slot_2, ↓fz_2, ↓get_3, ↓set_3, ↓slot_3, ↓fz_3, ↓get_4, ↓set_4, ↓slot_4, ↓fz_4, ↓get_5, ↓set_5, ↓slot_5, ↓fz_5, ↓get_6, ↓set_6, ↓slot_6, ↓fz_6, ↓get_7, ↓set_7, ↓slot_7, ↓fz_7, ↓get_8, ↓set_8, ↓slot_8, ↓fz_8, ↓get_9, ↓set_9, ↓slot_9, ↓fz_9, ↓get_10, ↓set_10, ↓slot_10, ↓fz_10, ↓get_11, ↓set_11, ↓slot_11, ↓fz_11, ↓get_12, ↓set_12, ↓slot_12, ↓fz_12, ↓get_13, ↓set_13, ↓slot_13, ↓fz_13, ↓get_14, ↓set_14, ↓slot_14, ↓fz_14, ↓get_15, ↓set_15, ↓slot_15, ↓fz_15, ↓get_16, ↓set_16, ↓slot_16, ↓fz_16, ↓get_17, ↓set_17, ↓slot_17, ↓fz_17, ↓get_18, ↓set_18, ↓slot_18, ↓fz_18, ↓get_19, ↓set_19, ↓slot_19, ↓fz_19, ↓get_20, ↓set_20, ↓slot_20, ↓fz_20, ↓get_21, ↓set_21, ↓slot_21, ↓fz_21, ↓get_22, ↓set_22, ↓slot_22, ↓fz_22, ↓get_23, ↓set_23, ↓slot_23, ↓fz_23, ↓get_24, ↓set_24, ↓slot_24, ↓fz_24, ↓get_25, ↓set_25, ↓slot_25, ↓fz_25, ↓f_sub, ↓f_lt, ↓f_le, ↓f_gt, ↓f_ge, ↓f_add, ↓f_mod, ↓f_fdiv, ↓f_mulL, ↓f_mulR, ↓f_neg, ↓f_abs, ↓f_intI, ↓f_intB, ↓f_lenL, ↓f_lenT, ↓f_tupL, ↓f_tupT, ↓f_lisL, ↓f_lisT, ↓f_isB, ↓f_isNotB, ↓f_isN, ↓f_isNotN, ↓f_all, ↓f_any, ↓f_sum, ↓f_isi_int_int, ↓f_isi_int_bool, ↓f_isi_int_tuple, ↓f_isi_int_str, ↓f_isi_int_list, ↓f_isi_bool_int, ↓f_isi_bool_bool, ↓f_isi_bool_tuple, ↓f_isi_bool_str, ↓f_isi_bool_list, ↓f_isi_tuple_int, ↓f_isi_tuple_bool, ↓f_isi_tuple_tuple, ↓f_isi_tuple_str, ↓f_isi_tuple_list, ↓f_isi_str_int, ↓f_isi_str_bool, ↓f_isi_str_tuple, ↓f_isi_str_str, ↓f_isi_str_list, ↓f_isi_list_int, ↓f_isi_list_bool, ↓f_isi_list_tuple, ↓f_isi_list_str, ↓f_isi_list_list, ↓h_pop, ↓h_pop0, ↓f_rngI, ↓f_ixl0, ↓f_ixl1, ↓f_ixl2, ↓f_ixl3, ↓f_ixl4, ↓f_ixl5, ↓f_ixt0, ↓f_ixt1, ↓f_ixt2, ↓f_ixt3, ↓f_ixt4, ↓f_ixt5, ↓f_sd0, ↓f_sd1, ↓f_sd2, ↓f_sd3, ↓f_sd4, ↓f_sd5, nd_none, nd_bool, nd_int, nd_str, nd_list, nd_tuple, e0, t2n, en_nd]
  rw [e1, e2]
  refine ww_inv (fun k ρ => ∃ (q : List Ent) (met : List (Nat × Nat)) (x6 x7 x8 x9 x10 x11 : Option SV), BI A B words ka kb i j k q met ∧ bfs A B words k q met = bfs A B words (ka * kb) [⟨i, j, []⟩] [(i, j)] ∧
    ρ = [some (.st (e A)), some (.st (.int (i : Int))), some (.st (e B)), some (.st (.int (j : Int))), some (.ow (.list (met.map e))), some (.ow (.list (q.map e))), x6, x7, x8, x9, x10, x11]) (ka * kb) hN2
    ⟨_, _, _, _, _, _, _, _, BI.start hi hj, rfl, rfl⟩ fun k ρ z => ?_
  obtain ⟨q, met, x6, x7, x8, x9, x10, x11, I, hb, rfl⟩ := z
  simp only [eq_self, Int.reduceLT, Int.reduceLE, Nat.reduceLT, Nat.reduceLeDiff, Int.reduceToNat, Int.toNat_natCast, ↓ws_seq, ↓sq_nx, ↓sq_rt, ↓sq_rf, ↓sq_bk, ↓sq_ct, ↓lq_nx, ↓lq_ct, ↓lq_bk, ↓lq_rt, ↓lq_rf, ↓ou_nx, ↓ou_rt, ↓ou_rf, ↓ws_next, ↓ws_break, ↓ws_cont, ↓ws_retNone, ↓ws_drop, ↓ws_ret, ↓ws_retF, ↓ws_set, ↓ws_setF, ↓rn_st, ↓rn_ow, ↓ws_retN, ↓sn_st, ↓sn_ow, ↓ws_setN, ↓ite_t, ↓ite_f, ↓ws_if, ↓ws_asg, ↓ws_store, ↓ws_aug, ↓ws_for, ↓ws_while, ↓we_c, ↓we_n, ↓we_op, ↓we_int, ↓wv_nil, ↓wv_ex, ↓wv_nm, ↓re_nil, ↓re_ex, ↓re_nm, ↓st_st, ↓ow_ow, ↓lk_st, ↓lk_ow, ↓bo_bo, ↓in_in, ↓wt_test, ↓wt_tru, ↓tr_bo, ↓tr_in, ↓tr_li, ↓tr_tu, ↓tr_no, ↓wt_not, ↓wt_and, ↓wt_or, ↓we_and, ↓we_or, ↓we_not, ↓we_if, ↓di_nil, ↓di_1, ↓di_2, ↓di_3, ↓di_4, ↓di_5, ↓di_6, ↓di_7, ↓di_8, ↓di_9, ↓di_10, ↓di_11, ↓di_12, ↓we_tup, ↓we_lst, ↓wm_nil, ↓wm_cons, ↓wa_nil, ↓wa_ex, ↓wa_st, ↓wa_io, ↓fz_nil, ↓fz_ex, ↓fz_io, ↓fy_st, ↓fy_ow, ↓ar_nil, ↓ar_ex, ↓ar_st, ↓ar_io, ↓pu_nil, ↓pu_cons, ↓we_call, ij_nil, ij_ex, ij_st, ij_io, ↓wg_nm, ↓wg_tu, ↓wg_tl, ↓wgs_nil, ↓wgs_cons, ↓we_methS', ↓ls_li, ↓we_meth, ↓we_chain, ↓we_rg1, ↓we_dict0, ↓we_get, ↓isd_d, ↓we_get2, ↓ws_put, ↓we_val, ↓wi_seq, ↓wi_rng, ↓wi_enum, ↓fq_seqL, ↓fq_seqT, ↓wt_yes, ↓rs_nil, ↓rs_cons, ↓wp_nil, ↓wp_cons, ↓we_comp, ↓we_compD, ↓we_comp2, ↓we_sset, ↓we_lset, ↓we_rev, ↓rv_l, ↓rv_t, ↓f_zip, ↓iq_nil, ↓iq_cons, ↓get_0, ↓set_0, ↓slot_0, ↓fz_0, ↓get_1, ↓set_1, ↓slot_1, ↓fz_1, ↓get_2, ↓set_2, ↓slot_2, ↓fz_2, ↓get_3, ↓set_3, ↓slot_3, ↓fz_3, ↓get_4, ↓set_4, ↓slot_4, ↓fz_4, ↓get_5, ↓set_5, ↓slot_5, ↓fz_5, ↓get_6, ↓set_6, ↓slot_6, ↓fz_6, ↓get_7, ↓set_7, ↓slot_7, ↓fz_7, ↓get_8, ↓set_8, ↓slot_8, ↓fz_8, ↓get_9, ↓set_9, ↓slot_9, ↓fz_9, ↓get_10, ↓set_10, ↓slot_10, ↓fz_10, ↓get_11, ↓set_11, ↓slot_11, ↓fz_11, ↓get_12, ↓set_12, ↓slot_12, ↓fz_12, ↓get_13, ↓set_13, ↓slot_13, ↓fz_13, ↓get_14, ↓set_14, ↓slot_14, ↓fz_14, ↓get_15, ↓set_15, ↓slot_15, ↓fz_15, ↓get_16, ↓set_16, ↓slot_16, ↓fz_16, ↓get_17, ↓set_17, ↓slot_17, ↓fz_17, ↓get_18, ↓set_18, ↓slot_18, ↓fz_18, ↓get_19, ↓set_19, ↓slot_19, ↓fz_19, ↓get_20, ↓set_20, ↓slot_20, ↓fz_20, ↓get_21, ↓set_21, ↓slot_21, ↓fz_21, ↓get_22, ↓set_22, ↓slot_22, ↓fz_22, ↓get_23, ↓set_23, ↓slot_23, ↓fz_23, ↓get_24, ↓set_24, ↓slot_24, ↓fz_24, ↓get_25, ↓set_25, ↓slot_25, ↓fz_25, ↓f_sub, ↓f_lt, ↓f_le, ↓f_gt, ↓f_ge, ↓f_add, ↓f_mod, ↓f_fdiv, ↓f_mulL, ↓f_mulR, ↓f_neg, ↓f_abs, ↓f_intI, ↓f_intB, ↓f_lenL, ↓f_lenT, ↓f_tupL, ↓f_tupT, ↓f_lisL, ↓f_lisT, ↓f_isB, ↓f_isNotB, ↓f_isN, ↓f_isNotN, ↓f_all, ↓f_any, ↓f_sum, ↓f_isi_int_int, ↓f_isi_int_bool, ↓f_isi_int_tuple, ↓f_isi_int_str, ↓f_isi_int_list, ↓f_isi_bool_int, ↓f_isi_bool_bool, ↓f_isi_bool_tuple, ↓f_isi_bool_str, ↓f_isi_bool_list, ↓f_isi_tuple_int, ↓f_isi_tuple_bool, ↓f_isi_tuple_tuple, ↓f_isi_tuple_str, ↓f_isi_tuple_list, ↓f_isi_str_int, ↓f_isi_str_bool, ↓f_isi_str_tuple, ↓f_isi_str_str, ↓f_isi_str_list, ↓f_isi_list_int, ↓f_isi_list_bool, ↓f_isi_list_tuple, ↓f_isi_list_str, ↓f_isi_list_list, ↓h_pop, ↓h_pop0, ↓f_rngI, ↓f_ixl0, ↓f_ixl1, ↓f_ixl2, ↓f_ixl3, ↓f_ixl4, ↓f_ixl5, ↓f_ixt0, ↓f_ixt1, ↓f_ixt2, ↓f_ixt3, ↓f_ixt4, ↓f_ixt5, ↓f_sd0, ↓f_sd1, ↓f_sd2, ↓f_sd3, ↓f_sd4, ↓f_sd5, nd_none, nd_bool, nd_int, nd_str, nd_list, nd_tuple, ↓q_trL]
  cases q with
  | nil =>
    simp only [List.isEmpty_map, List.isEmpty_nil, Bool.not_true, eq_self, Int.reduceLT, Int.reduceLE, Nat.reduceLT, Nat.reduceLeDiff, Int.reduceToNat, Int.toNat_natCast, ↓ws_seq, ↓sq_nx, ↓sq_rt, ↓sq_rf, ↓sq_bk, ↓sq_ct, ↓lq_nx, ↓lq_ct, ↓lq_bk, ↓lq_rt, ↓lq_rf, ↓ou_nx, ↓ou_rt, ↓ou_rf, ↓ws_next, ↓ws_break, ↓ws_cont, ↓ws_retNone, ↓ws_drop, ↓ws_ret, ↓ws_retF, ↓ws_set, ↓ws_setF, ↓rn_st, ↓rn_ow, ↓ws_retN, ↓sn_st, ↓sn_ow, ↓ws_setN, ↓ite_t, ↓ite_f, ↓ws_if, ↓ws_asg, ↓ws_store, ↓ws_aug, ↓ws_for, ↓ws_while, ↓we_c, ↓we_n, ↓we_op, ↓we_int, ↓wv_nil, ↓wv_ex, ↓wv_nm, ↓re_nil, ↓re_ex, ↓re_nm, ↓st_st, ↓ow_ow, ↓lk_st, ↓lk_ow, ↓bo_bo, ↓in_in, ↓wt_test, ↓wt_tru, ↓tr_bo, ↓tr_in, ↓tr_li, ↓tr_tu, ↓tr_no, ↓wt_not, ↓wt_and, ↓wt_or, ↓we_and, ↓we_or, ↓we_not, ↓we_if, ↓di_nil, ↓di_1, ↓di_2, ↓di_3, ↓di_4, ↓di_5, ↓di_6, ↓di_7, ↓di_8, ↓di_9, ↓di_10, ↓di_11, ↓di_12, ↓we_tup, ↓we_lst, ↓wm_nil, ↓wm_cons, ↓wa_nil, ↓wa_ex, ↓wa_st, ↓wa_io, ↓fz_nil, ↓fz_ex, ↓fz_io, ↓fy_st, ↓fy_ow, ↓ar_nil, ↓ar_ex, ↓ar_st, ↓ar_io, ↓pu_nil, ↓pu_cons, ↓we_call, ij_nil, ij_ex, ij_st, ij_io, ↓wg_nm, ↓wg_tu, ↓wg_tl, ↓wgs_nil, ↓wgs_cons, ↓we_methS', ↓ls_li, ↓we_meth, ↓we_chain, ↓we_rg1, ↓we_dict0, ↓we_get, ↓isd_d, ↓we_get2, ↓ws_put, ↓we_val, ↓wi_seq, ↓wi_rng, ↓wi_enum, ↓fq_seqL, ↓fq_seqT, ↓wt_yes, ↓rs_nil, ↓rs_cons, ↓wp_nil, ↓wp_cons, ↓we_comp, ↓we_compD, ↓we_comp2, ↓we_sset, ↓we_lset, ↓we_rev, ↓rv_l, ↓rv_t, ↓f_zip, ↓iq_nil, ↓iq_cons, ↓get_0, ↓set_0, ↓slot_0, ↓fz_0, ↓get_1, ↓set_1, ↓slot_1, ↓fz_1, ↓get_2, ↓set_2, ↓slot_2, ↓fz_2, ↓get_3, ↓set_3, ↓slot_3, ↓fz_3, ↓get_4, ↓set_4, ↓slot_4, ↓fz_4, ↓get_5, ↓set_5, ↓slot_5, ↓fz_5, ↓get_6, ↓set_6, ↓slot_6, ↓fz_6, ↓get_7, ↓set_7, ↓slot_7, ↓fz_7, ↓get_8, ↓set_8, ↓slot_8, ↓fz_8, ↓get_9, ↓set_9, ↓slot_9, ↓fz_9, ↓get_10, ↓set_10, ↓slot_10, ↓fz_10, ↓get_11, ↓set_11, ↓slot_11, ↓fz_11, ↓get_12, ↓set_12, ↓slot_12, ↓fz_12, ↓get_13, ↓set_13, ↓slot_13, ↓fz_13, ↓get_14, ↓set_14, ↓slot_14, ↓fz_14, ↓get_15, ↓set_15, ↓slot_15, ↓fz_15, ↓get_16, ↓set_16, ↓slot_16, ↓fz_16, ↓get_17, ↓set_17, ↓slot_17, ↓fz_17, ↓get_18, ↓set_18, ↓slot_18, ↓fz_18, ↓get_19, ↓set_19, ↓slot_19, ↓fz_19, ↓get_20, ↓set_20, ↓slot_20, ↓fz_20, ↓get_21, ↓set_21, ↓slot_21, ↓fz_21, ↓get_22, ↓set_22, ↓slot_22, ↓fz_22, ↓get_23, ↓set_23, ↓slot_23, ↓fz_23, ↓get_24, ↓set_24, ↓slot_24, ↓fz_24, ↓get_25, ↓set_25, ↓slot_25, ↓fz_25, ↓f_sub, ↓f_lt, ↓f_le, ↓f_gt, ↓f_ge, ↓f_add, ↓f_mod, ↓f_fdiv, ↓f_mulL, ↓f_mulR, ↓f_neg, ↓f_abs, ↓f_intI, ↓f_intB, ↓f_lenL, ↓f_lenT, ↓f_tupL, ↓f_tupT, ↓f_lisL, ↓f_lisT, ↓f_isB, ↓f_isNotB, ↓f_isN, ↓f_isNotN, ↓f_all, ↓f_any, ↓f_sum, ↓f_isi_int_int, ↓f_isi_int_bool, ↓f_isi_int_tuple, ↓f_isi_int_str, ↓f_isi_int_list, ↓f_isi_bool_int, ↓f_isi_bool_bool, ↓f_isi_bool_tuple, ↓f_isi_bool_str, ↓f_isi_bool_list, ↓f_isi_tuple_int, ↓f_isi_tuple_bool, ↓f_isi_tuple_tuple, ↓f_isi_tuple_str, ↓f_isi_tuple_list, ↓f_isi_str_int, ↓f_isi_str_bool, ↓f_isi_str_tuple, ↓f_isi_str_str, ↓f_isi_str_list, ↓f_isi_list_int, ↓f_isi_list_bool, ↓f_isi_list_tuple, ↓f_isi_list_str, ↓f_isi_list_list, ↓h_pop, ↓h_pop0, ↓f_rngI, ↓f_ixl0, ↓f_ixl1, ↓f_ixl2, ↓f_ixl3, ↓f_ixl4, ↓f_ixl5, ↓f_ixt0, ↓f_ixt1, ↓f_ixt2, ↓f_ixt3, ↓f_ixt4, ↓f_ixt5, ↓f_sd0, ↓f_sd1, ↓f_sd2, ↓f_sd3, ↓f_sd4, ↓f_sd5, nd_none, nd_bool, nd_int, nd_str, nd_list, nd_tuple]
    rw [bfs_nil] at hb
    rw [← hb]
    exact ⟨rfl, trivial⟩
  | cons x q =>
    cases k with
    | zero =>
      have := I.ql
      cases this
    | succ k =>
      obtain ⟨xa, xb, xc, xd, xe, xf⟩ := I.en x List.mem_cons_self
      have hxa : x.a < A.length := by rw [hA.len]; exact xa
      have hql := I.ql
      have hml := I.ml
      have hkN : k + 1 ≤ ka * kb := by omega
      rw [List.length_cons] at hql
      simp only [List.isEmpty_map, List.isEmpty_cons, Bool.not_false, eq_self, Int.reduceLT, Int.reduceLE, Nat.reduceLT, Nat.reduceLeDiff, Int.reduceToNat, Int.toNat_natCast, ↓ws_seq, ↓sq_nx, ↓sq_rt, ↓sq_rf, ↓sq_bk, ↓sq_ct, ↓lq_nx, ↓lq_ct, ↓lq_bk, ↓lq_rt, ↓lq_rf, ↓ou_nx, ↓ou_rt, ↓ou_rf, ↓ws_next, ↓ws_break, ↓ws_cont, ↓ws_retNone, ↓ws_drop, ↓ws_ret, ↓ws_retF, ↓ws_set, ↓ws_setF, ↓rn_st, ↓rn_ow, ↓ws_retN, ↓sn_st, ↓sn_ow, ↓ws_setN, ↓ite_t, ↓ite_f, ↓ws_if, ↓ws_asg, ↓ws_store, ↓ws_aug, ↓ws_for, ↓ws_while, ↓we_c, ↓we_n, ↓we_op, ↓we_int, ↓wv_nil, ↓wv_ex, ↓wv_nm, ↓re_nil, ↓re_ex, ↓re_nm, ↓st_st, ↓ow_ow, ↓lk_st, ↓lk_ow, ↓bo_bo, ↓in_in, ↓wt_test, ↓wt_tru, ↓tr_bo, ↓tr_in, ↓tr_li, ↓tr_tu, ↓tr_no, ↓wt_not, ↓wt_and, ↓wt_or, ↓we_and, ↓we_or, ↓we_not, ↓we_if, ↓di_nil, ↓di_1, ↓di_2, ↓di_3, ↓di_4, ↓di_5, ↓di_6, ↓di_7, ↓di_8, ↓di_9, ↓di_10, ↓di_11, ↓di_12, ↓we_tup, ↓we_lst, ↓wm_nil, ↓wm_cons, ↓wa_nil, ↓wa_ex, ↓wa_st, ↓wa_io, ↓fz_nil, ↓fz_ex, ↓fz_io, ↓fy_st, ↓fy_ow, ↓ar_nil, ↓ar_ex, ↓ar_st, ↓ar_io, ↓pu_nil, ↓pu_cons, ↓we_call, ij_nil, ij_ex, ij_st, ij_io, ↓wg_nm, ↓wg_tu, ↓wg_tl, ↓wgs_nil, ↓wgs_cons, ↓we_methS', ↓ls_li, ↓we_meth, ↓we_chain, ↓we_rg1, ↓we_dict0, ↓we_get, ↓isd_d, ↓we_get2, ↓ws_put, ↓we_val, ↓wi_seq, ↓wi_rng, ↓wi_enum, ↓fq_seqL, ↓fq_seqT, ↓wt_yes, ↓rs_nil, ↓rs_cons, ↓wp_nil, ↓wp_cons, ↓we_comp, ↓we_compD, ↓we_comp2, ↓we_sset, ↓we_lset, ↓we_rev, ↓rv_l, ↓rv_t, ↓f_zip, ↓iq_nil, ↓iq_cons, ↓get_0, ↓set_0, ↓slot_0, ↓fz_0, ↓get_1, ↓set_1, ↓slot_1, ↓fz_1, ↓get_2, ↓set_2, ↓slot_2, ↓fz_2, ↓get_3, ↓set_3, ↓slot_3, ↓fz_3, ↓get_4, ↓set_4, ↓slot_4, ↓fz_4, ↓get_5, ↓set_5, ↓slot_5, ↓fz_5, ↓get_6, ↓set_6, ↓slot_6, ↓fz_6, ↓get_7, ↓set_7, ↓slot_7, ↓fz_7, ↓get_8, ↓set_8, ↓slot_8, ↓fz_8, ↓get_9, ↓set_9, ↓slot_9, ↓fz_9, ↓get_10, ↓set_10, ↓slot_10, ↓fz_10, ↓get_11, ↓set_11, ↓slot_11, ↓fz_11, ↓get_12, ↓set_12, ↓slot_12, ↓fz_12, ↓get_13, ↓set_13, ↓slot_13, ↓fz_13, ↓get_14, ↓set_14, ↓slot_14, ↓fz_14, ↓get_15, ↓set_15, ↓slot_15, ↓fz_15, ↓get_16, ↓set_16, ↓slot_16, ↓fz_16, ↓get_17, ↓set_17, ↓slot_17, ↓fz_17, ↓get_18, ↓set_18, ↓slot_18, ↓fz_18, ↓get_19, ↓set_19, ↓slot_19, ↓fz_19, ↓get_20, ↓set_20, ↓slot_20, ↓fz_20, ↓get_21, ↓set_21, ↓slot_21, ↓fz_21, ↓get_22, ↓set_22, ↓slot_22, ↓fz_22, ↓get_23, ↓set_23, ↓slot_23, ↓fz_23, ↓get_24, ↓set_24, ↓slot_24, ↓fz_24, ↓get_25, ↓set_25, ↓slot_25, ↓fz_25, ↓f_sub, ↓f_lt, ↓f_le, ↓f_gt, ↓f_ge, ↓f_add, ↓f_mod, ↓f_fdiv, ↓f_mulL, ↓f_mulR, ↓f_neg, ↓f_abs, ↓f_intI, ↓f_intB, ↓f_lenL, ↓f_lenT, ↓f_tupL, ↓f_tupT, ↓f_lisL, ↓f_lisT, ↓f_isB, ↓f_isNotB, ↓f_isN, ↓f_isNotN, ↓f_all, ↓f_any, ↓f_sum, ↓f_isi_int_int, ↓f_isi_int_bool, ↓f_isi_int_tuple, ↓f_isi_int_str, ↓f_isi_int_list, ↓f_isi_bool_int, ↓f_isi_bool_bool, ↓f_isi_bool_tuple, ↓f_isi_bool_str, ↓f_isi_bool_list, ↓f_isi_tuple_int, ↓f_isi_tuple_bool, ↓f_isi_tuple_tuple, ↓f_isi_tuple_str, ↓f_isi_tuple_list, ↓f_isi_str_int, ↓f_isi_str_bool, ↓f_isi_str_tuple, ↓f_isi_str_str, ↓f_isi_str_list, ↓f_isi_list_int, ↓f_isi_list_bool, ↓f_isi_list_tuple, ↓f_isi_list_str, ↓f_isi_list_list, ↓h_pop, ↓h_pop0, ↓f_rngI, ↓f_ixl0, ↓f_ixl1, ↓f_ixl2, ↓f_ixl3, ↓f_ixl4, ↓f_ixl5, ↓f_ixt0, ↓f_ixt1, ↓f_ixt2, ↓f_ixt3, ↓f_ixt4, ↓f_ixt5, ↓f_sd0, ↓f_sd1, ↓f_sd2, ↓f_sd3, ↓f_sd4, ↓f_sd5, nd_none, nd_bool, nd_int, nd_str, nd_list, nd_tuple]
      unfold b2_row_apart
      simp only [eq_self, Int.reduceLT, Int.reduceLE, Nat.reduceLT, Nat.reduceLeDiff, Int.reduceToNat, Int.toNat_natCast, ↓ws_seq, ↓sq_nx, ↓sq_rt, ↓sq_rf, ↓sq_bk, ↓sq_ct, ↓lq_nx, ↓lq_ct, ↓lq_bk, ↓lq_rt, ↓lq_rf, ↓ou_nx, ↓ou_rt, ↓ou_rf, ↓ws_next, ↓ws_break, ↓ws_cont, ↓ws_retNone, ↓ws_drop, ↓ws_ret, ↓ws_retF, ↓ws_set, ↓ws_setF, ↓rn_st, ↓rn_ow, ↓ws_retN, ↓sn_st, ↓sn_ow, ↓ws_setN, ↓ite_t, ↓ite_f, ↓ws_if, ↓ws_asg, ↓ws_store, ↓ws_aug, ↓ws_for, ↓ws_while, ↓we_c, ↓we_n, ↓we_op, ↓we_int, ↓wv_nil, ↓wv_ex, ↓wv_nm, ↓re_nil, ↓re_ex, ↓re_nm, ↓st_st, ↓ow_ow, ↓lk_st, ↓lk_ow, ↓bo_bo, ↓in_in, ↓wt_test, ↓wt_tru, ↓tr_bo, ↓tr_in, ↓tr_li, ↓tr_tu, ↓tr_no, ↓wt_not, ↓wt_and, ↓wt_or, ↓we_and, ↓we_or, ↓we_not, ↓we_if, ↓di_nil, ↓di_1, ↓di_2, ↓di_3, ↓di_4, ↓di_5, ↓di_6, ↓di_7, ↓di_8, ↓di_9, ↓di_10, ↓di_11, ↓di_12, ↓we_tup, ↓we_lst, ↓wm_nil, ↓wm_cons, ↓wa_nil, ↓wa_ex, ↓wa_st, ↓wa_io, ↓fz_nil, ↓fz_ex, ↓fz_io, ↓fy_st, ↓fy_ow, ↓ar_nil, ↓ar_ex, ↓ar_st, ↓ar_io, ↓pu_nil, ↓pu_cons, ↓we_call, ij_nil, ij_ex, ij_st, ij_io, ↓wg_nm, ↓wg_tu, ↓wg_tl, ↓wgs_nil, ↓wgs_cons, ↓we_methS', ↓ls_li, ↓we_meth, ↓we_chain, ↓we_rg1, ↓we_dict0, ↓we_get, ↓isd_d, ↓we_get2, ↓ws_put, ↓we_val, ↓wi_seq, ↓wi_rng, ↓wi_enum, ↓fq_seqL, ↓fq_seqT, ↓wt_yes, ↓rs_nil, ↓rs_cons, ↓wp_nil, ↓wp_cons, ↓we_comp, ↓we_compD, ↓we_comp2, ↓we_sset, ↓we_lset, ↓we_rev, ↓rv_l, ↓rv_t, ↓f_zip, ↓iq_nil, ↓iq_cons, ↓get_0, ↓set_0, ↓slot_0, ↓fz_0, ↓get_1, ↓set_1, ↓slot_1, ↓fz_1, ↓get_2, ↓set_2, ↓slot_2, ↓fz_2, ↓get_3, ↓set_3, ↓slot_3, ↓fz_3, ↓get_4, ↓set_4, ↓slot_4, ↓fz_4, ↓get_5, ↓set_5, ↓slot_5, ↓fz_5, ↓get_6, ↓set_6, ↓slot_6, ↓fz_6, ↓get_7, ↓set_7, ↓slot_7, ↓fz_7, ↓get_8, ↓set_8, ↓slot_8, ↓fz_8, ↓get_9, ↓set_9, ↓slot_9, ↓fz_9, ↓get_10, ↓set_10, ↓slot_10, ↓fz_10, ↓get_11, ↓set_11, ↓slot_11, ↓fz_11, ↓get_12, ↓set_12, ↓slot_12, ↓fz_12, ↓get_13, ↓set_13, ↓slot_13, ↓fz_13, ↓get_14, ↓set_14, ↓slot_14, ↓fz_14, ↓get_15, ↓set_15, ↓slot_15, ↓fz_15, ↓get_16, ↓set_16, ↓slot_16, ↓fz_16, ↓get_17, ↓set_17, ↓slot_17, ↓fz_17, ↓get_18, ↓set_18, ↓slot_18, ↓fz_18, ↓get_19, ↓set_19, ↓slot_19, ↓fz_19, ↓get_20, ↓set_20, ↓slot_20, ↓fz_20, ↓get_21, ↓set_21, ↓slot_21, ↓fz_21, ↓get_22, ↓set_22, ↓slot_22, ↓fz_22, ↓get_23, ↓set_23, ↓slot_23, ↓fz_23, ↓get_24, ↓set_24, ↓slot_24, ↓fz_24, ↓get_25, ↓set_25, ↓slot_25, ↓fz_25, ↓f_sub, ↓f_lt, ↓f_le, ↓f_gt, ↓f_ge, ↓f_add, ↓f_mod, ↓f_fdiv, ↓f_mulL, ↓f_mulR, ↓f_neg, ↓f_abs, ↓f_intI, ↓f_intB, ↓f_lenL, ↓f_lenT, ↓f_tupL, ↓f_tupT, ↓f_lisL, ↓f_lisT, ↓f_isB, ↓f_isNotB, ↓f_isN, ↓f_isNotN, ↓f_all, ↓f_any, ↓f_sum, ↓f_isi_int_int, ↓f_isi_int_bool, ↓f_isi_int_tuple, ↓f_isi_int_str, ↓f_isi_int_list, ↓f_isi_bool_int, ↓f_isi_bool_bool, ↓f_isi_bool_tuple, ↓f_isi_bool_str, ↓f_isi_bool_list, ↓f_isi_tuple_int, ↓f_isi_tuple_bool, ↓f_isi_tuple_tuple, ↓f_isi_tuple_str, ↓f_isi_tuple_list, ↓f_isi_str_int, ↓f_isi_str_bool, ↓f_isi_str_tuple, ↓f_isi_str_str, ↓f_isi_str_list, ↓f_isi_list_int, ↓f_isi_list_bool, ↓f_isi_list_tuple, ↓f_isi_list_str, ↓f_isi_list_list, ↓h_pop, ↓h_pop0, ↓f_rngI, ↓f_ixl0, ↓f_ixl1, ↓f_ixl2, ↓f_ixl3, ↓f_ixl4, ↓f_ixl5, ↓f_ixt0, ↓f_ixt1, ↓f_ixt2, ↓f_ixt3, ↓f_ixt4, ↓f_ixt5, ↓f_sd0, ↓f_sd1, ↓f_sd2, ↓f_sd3, ↓f_sd4, ↓f_sd5, nd_none, nd_bool, nd_int, nd_str, nd_list, nd_tuple, ↓q_pop0, ↓q_wgt, en_nat, ↓q_ix hxa, ↓q_seq]
      rw [show bfs A B words (k + 1) (x :: q) met = match inner A B x.a x.b x.c words 0 met [] with
        | .error w => some (x.c ++ [w])
        | .ok (met', new) => bfs A B words k (q ++ new) met' from rfl] at hb
      refine ra_inner hA hB xa xb hw (by omega) (by omega) (by omega) (fun v ρ hv => ?_) fun met' new x9 x10 x11 hv => ?_
      · rw [hv] at hb
        simp only [eq_self, Int.reduceLT, Int.reduceLE, Nat.reduceLT, Nat.reduceLeDiff, Int.reduceToNat, Int.toNat_natCast, ↓ws_seq, ↓sq_nx, ↓sq_rt, ↓sq_rf, ↓sq_bk, ↓sq_ct, ↓lq_nx, ↓lq_ct, ↓lq_bk, ↓lq_rt, ↓lq_rf, ↓ou_nx, ↓ou_rt, ↓ou_rf, ↓ws_next, ↓ws_break, ↓ws_cont, ↓ws_retNone, ↓ws_drop, ↓ws_ret, ↓ws_retF, ↓ws_set, ↓ws_setF, ↓rn_st, ↓rn_ow, ↓ws_retN, ↓sn_st, ↓sn_ow, ↓ws_setN, ↓ite_t, ↓ite_f, ↓ws_if, ↓ws_asg, ↓ws_store, ↓ws_aug, ↓ws_for, ↓ws_while, ↓we_c, ↓we_n, ↓we_op, ↓we_int, ↓wv_nil, ↓wv_ex, ↓wv_nm, ↓re_nil, ↓re_ex, ↓re_nm, ↓st_st, ↓ow_ow, ↓lk_st, ↓lk_ow, ↓bo_bo, ↓in_in, ↓wt_test, ↓wt_tru, ↓tr_bo, ↓tr_in, ↓tr_li, ↓tr_tu, ↓tr_no, ↓wt_not, ↓wt_and, ↓wt_or, ↓we_and, ↓we_or, ↓we_not, ↓we_if, ↓di_nil, ↓di_1, ↓di_2, ↓di_3, ↓di_4, ↓di_5, ↓di_6, ↓di_7, ↓di_8, ↓di_9, ↓di_10, ↓di_11, ↓di_12, ↓we_tup, ↓we_lst, ↓wm_nil, ↓wm_cons, ↓wa_nil, ↓wa_ex, ↓wa_st, ↓wa_io, ↓fz_nil, ↓fz_ex, ↓fz_io, ↓fy_st, ↓fy_ow, ↓ar_nil, ↓ar_ex, ↓ar_st, ↓ar_io, ↓pu_nil, ↓pu_cons, ↓we_call, ij_nil, ij_ex, ij_st, ij_io, ↓wg_nm, ↓wg_tu, ↓wg_tl, ↓wgs_nil, ↓wgs_cons, ↓we_methS', ↓ls_li, ↓we_meth, ↓we_chain, ↓we_rg1, ↓we_dict0, ↓we_get, ↓isd_d, ↓we_get2, ↓ws_put, ↓we_val, ↓wi_seq, ↓wi_rng, ↓wi_enum, ↓fq_seqL, ↓fq_seqT, ↓wt_yes, ↓rs_nil, ↓rs_cons, ↓wp_nil, ↓wp_cons, ↓we_comp, ↓we_compD, ↓we_comp2, ↓we_sset, ↓we_lset, ↓we_rev, ↓rv_l, ↓rv_t, ↓f_zip, ↓iq_nil, ↓iq_cons, ↓get_0, ↓set_0, ↓slot_0, ↓fz_0, ↓get_1, ↓set_1, ↓slot_1, ↓fz_1, ↓get_2, ↓set_2, ↓slot_2, ↓fz_2, ↓get_3, ↓set_3, ↓slot_3, ↓fz_3, ↓get_4, ↓set_4, ↓slot_4, ↓fz_4, ↓get_5, ↓set_5, ↓slot_5, ↓fz_5, ↓get_6, ↓set_6, ↓slot_6, ↓fz_6, ↓get_7, ↓set_7, ↓slot_7, ↓fz_7, ↓get_8, ↓set_8, ↓slot_8, ↓fz_8, ↓get_9, ↓set_9, ↓slot_9, ↓fz_9, ↓get_10, ↓set_10, ↓slot_10, ↓fz_10, ↓get_11, ↓set_11, ↓slot_11, ↓fz_11, ↓get_12, ↓set_12, ↓slot_12, ↓fz_12, ↓get_13, ↓set_13, ↓slot_13, ↓fz_13, ↓get_14, ↓set_14, ↓slot_14, ↓fz_14, ↓get_15, ↓set_15, ↓slot_15, ↓fz_15, ↓get_16, ↓set_16, ↓slot_16, ↓fz_16, ↓get_17, ↓set_17, ↓slot_17, ↓fz_17, ↓get_18, ↓set_18, ↓slot_18, ↓fz_18, ↓get_19, ↓set_19, ↓slot_19, ↓fz_19, ↓get_20, ↓set_20, ↓slot_20, ↓fz_20, ↓get_21, ↓set_21, ↓slot_21, ↓fz_21, ↓get_22, ↓set_22, ↓slot_22, ↓fz_22, ↓get_23, ↓set_23, ↓slot_23, ↓fz_23, ↓get_24, ↓set_24, ↓slot_24, ↓fz_24, ↓get_25, ↓set_25, ↓slot_25, ↓fz_25, ↓f_sub, ↓f_lt, ↓f_le, ↓f_gt, ↓f_ge, ↓f_add, ↓f_mod, ↓f_fdiv, ↓f_mulL, ↓f_mulR, ↓f_neg, ↓f_abs, ↓f_intI, ↓f_intB, ↓f_lenL, ↓f_lenT, ↓f_tupL, ↓f_tupT, ↓f_lisL, ↓f_lisT, ↓f_isB, ↓f_isNotB, ↓f_isN, ↓f_isNotN, ↓f_all, ↓f_any, ↓f_sum, ↓f_isi_int_int, ↓f_isi_int_bool, ↓f_isi_int_tuple, ↓f_isi_int_str, ↓f_isi_int_list, ↓f_isi_bool_int, ↓f_isi_bool_bool, ↓f_isi_bool_tuple, ↓f_isi_bool_str, ↓f_isi_bool_list, ↓f_isi_tuple_int, ↓f_isi_tuple_bool, ↓f_isi_tuple_tuple, ↓f_isi_tuple_str, ↓f_isi_tuple_list, ↓f_isi_str_int, ↓f_isi_str_bool, ↓f_isi_str_tuple, ↓f_isi_str_str, ↓f_isi_str_list, ↓f_isi_list_int, ↓f_isi_list_bool, ↓f_isi_list_tuple, ↓f_isi_list_str, ↓f_isi_list_list, ↓h_pop, ↓h_pop0, ↓f_rngI, ↓f_ixl0, ↓f_ixl1, ↓f_ixl2, ↓f_ixl3, ↓f_ixl4, ↓f_ixl5, ↓f_ixt0, ↓f_ixt1, ↓f_ixt2, ↓f_ixt3, ↓f_ixt4, ↓f_ixt5, ↓f_sd0, ↓f_sd1, ↓f_sd2, ↓f_sd3, ↓f_sd4, ↓f_sd5, nd_none, nd_bool, nd_int, nd_str, nd_list, nd_tuple]
        rw [← hb]
        exact ⟨rfl, trivial⟩
      · rw [hv] at hb
        simp only [eq_self, Int.reduceLT, Int.reduceLE, Nat.reduceLT, Nat.reduceLeDiff, Int.reduceToNat, Int.toNat_natCast, ↓ws_seq, ↓sq_nx, ↓sq_rt, ↓sq_rf, ↓sq_bk, ↓sq_ct, ↓lq_nx, ↓lq_ct, ↓lq_bk, ↓lq_rt, ↓lq_rf, ↓ou_nx, ↓ou_rt, ↓ou_rf, ↓ws_next, ↓ws_break, ↓ws_cont, ↓ws_retNone, ↓ws_drop, ↓ws_ret, ↓ws_retF, ↓ws_set, ↓ws_setF, ↓rn_st, ↓rn_ow, ↓ws_retN, ↓sn_st, ↓sn_ow, ↓ws_setN, ↓ite_t, ↓ite_f, ↓ws_if, ↓ws_asg, ↓ws_store, ↓ws_aug, ↓ws_for, ↓ws_while, ↓we_c, ↓we_n, ↓we_op, ↓we_int, ↓wv_nil, ↓wv_ex, ↓wv_nm, ↓re_nil, ↓re_ex, ↓re_nm, ↓st_st, ↓ow_ow, ↓lk_st, ↓lk_ow, ↓bo_bo, ↓in_in, ↓wt_test, ↓wt_tru, ↓tr_bo, ↓tr_in, ↓tr_li, ↓tr_tu, ↓tr_no, ↓wt_not, ↓wt_and, ↓wt_or, ↓we_and, ↓we_or, ↓we_not, ↓we_if, ↓di_nil, ↓di_1, ↓di_2, ↓di_3, ↓di_4, ↓di_5, ↓di_6, ↓di_7, ↓di_8, ↓di_9, ↓di_10, ↓di_11, ↓di_12, ↓we_tup, ↓we_lst, ↓wm_nil, ↓wm_cons, ↓wa_nil, ↓wa_ex, ↓wa_st, ↓wa_io, ↓fz_nil, ↓fz_ex, ↓fz_io, ↓fy_st, ↓fy_ow, ↓ar_nil, ↓ar_ex, ↓ar_st, ↓ar_io, ↓pu_nil, ↓pu_cons, ↓we_call, ij_nil, ij_ex, ij_st, ij_io, ↓wg_nm, ↓wg_tu, ↓wg_tl, ↓wgs_nil, ↓wgs_cons, ↓we_methS', ↓ls_li, ↓we_meth, ↓we_chain, ↓we_rg1, ↓we_dict0, ↓we_get, ↓isd_d, ↓we_get2, ↓ws_put, ↓we_val, ↓wi_seq, ↓wi_rng, ↓wi_enum, ↓fq_seqL, ↓fq_seqT, ↓wt_yes, ↓rs_nil, ↓rs_cons, ↓wp_nil, ↓wp_cons, ↓we_comp, ↓we_compD, ↓we_comp2, ↓we_sset, ↓we_lset, ↓we_rev, ↓rv_l, ↓rv_t, ↓f_zip, ↓iq_nil, ↓iq_cons, ↓get_0, ↓set_0, ↓slot_0, ↓fz_0, ↓get_1, ↓set_1, ↓slot_1, ↓fz_1, ↓get_2, ↓set_2, ↓slot_2, ↓fz_2, ↓get_3, ↓set_3, ↓slot_3, ↓fz_3, ↓get_4, ↓set_4, ↓slot_4, ↓fz_4, ↓get_5, ↓set_5, ↓slot_5, ↓fz_5, ↓get_6, ↓set_6, ↓slot_6, ↓fz_6, ↓get_7, ↓set_7, ↓slot_7, ↓fz_7, ↓get_8, ↓set_8, ↓slot_8, ↓fz_8, ↓get_9, ↓set_9, ↓slot_9, ↓fz_9, ↓get_10, ↓set_10, ↓slot_10, ↓fz_10, ↓get_11, ↓set_11, ↓slot_11, ↓fz_11, ↓get_12, ↓set_12, ↓slot_12, ↓fz_12, ↓get_13, ↓set_13, ↓slot_13, ↓fz_13, ↓get_14, ↓set_14, ↓slot_14, ↓fz_14, ↓get_15, ↓set_15, ↓slot_15, ↓fz_15, ↓get_16, ↓set_16, ↓slot_16, ↓fz_16, ↓get_17, ↓set_17, ↓slot_17, ↓fz_17, ↓get_18, ↓set_18, ↓slot_18, ↓fz_18, ↓get_19, ↓set_19, ↓slot_19, ↓fz_19, ↓get_20, ↓set_20, ↓slot_20, ↓fz_20, ↓get_21, ↓set_21, ↓slot_21, ↓fz_21, ↓get_22, ↓set_22, ↓slot_22, ↓fz_22, ↓get_23, ↓set_23, ↓slot_23, ↓fz_23, ↓get_24, ↓set_24, ↓slot_24, ↓fz_24, ↓get_25, ↓set_25, ↓slot_25, ↓fz_25, ↓f_sub, ↓f_lt, ↓f_le, ↓f_gt, ↓f_ge, ↓f_add, ↓f_mod, ↓f_fdiv, ↓f_mulL, ↓f_mulR, ↓f_neg, ↓f_abs, ↓f_intI, ↓f_intB, ↓f_lenL, ↓f_lenT, ↓f_tupL, ↓f_tupT, ↓f_lisL, ↓f_lisT, ↓f_isB, ↓f_isNotB, ↓f_isN, ↓f_isNotN, ↓f_all, ↓f_any, ↓f_sum, ↓f_isi_int_int, ↓f_isi_int_bool, ↓f_isi_int_tuple, ↓f_isi_int_str, ↓f_isi_int_list, ↓f_isi_bool_int, ↓f_isi_bool_bool, ↓f_isi_bool_tuple, ↓f_isi_bool_str, ↓f_isi_bool_list, ↓f_isi_tuple_int, ↓f_isi_tuple_bool, ↓f_isi_tuple_tuple, ↓f_isi_tuple_str, ↓f_isi_tuple_list, ↓f_isi_str_int, ↓f_isi_str_bool, ↓f_isi_str_tuple, ↓f_isi_str_str, ↓f_isi_str_list, ↓f_isi_list_int, ↓f_isi_list_bool, ↓f_isi_list_tuple, ↓f_isi_list_str, ↓f_isi_list_list, ↓h_pop, ↓h_pop0, ↓f_rngI, ↓f_ixl0, ↓f_ixl1, ↓f_ixl2, ↓f_ixl3, ↓f_ixl4, ↓f_ixl5, ↓f_ixt0, ↓f_ixt1, ↓f_ixt2, ↓f_ixt3, ↓f_ixt4, ↓f_ixt5, ↓f_sd0, ↓f_sd1, ↓f_sd2, ↓f_sd3, ↓f_sd4, ↓f_sd5, nd_none, nd_bool, nd_int, nd_str, nd_list, nd_tuple]
        exact ⟨k, Nat.lt_succ_self _, _, _, _, _, _, _, _, _, I.step hA hB hv, hb, rfl⟩)

theorem q_mulN {a b : Nat} {K : D → Prop} (h : a < 2 ^ 62) : @fQ _ mulD [.int (a : Int), .int (b : Int)] K = K (.int ((a * b : Nat) : Int)) := by
  rw [f_mulL (by simp only [VS.small64, decide_eq_true_eq]; omega), Int.natCast_mul]
theorem lra_inner (hA : MOk A words ka) (hB : MOk B words kb) {h t : Nat} (hh : h < ka) (ht : t < kb) (hw : words ≤ 100) {q : List Ent} {met : List (Nat × Nat)} {row : List Nat} (hq : q.length ≤ 10000) (hm : met.length ≤ 10000) (hr : row.length ≤ 10000)
    {x1 x3 x6 x10 x11 : Option SV} {Q : Out → Prop} (q1 : ∀ v ρ, inner A B h t row words 0 met [] = .error v → Q (.rt (e [row ++ [v]]) ρ))
    (q2 : ∀ met' new x10 x11, inner A B h t row words 0 met [] = .ok (met', new) → Q (.nx [some (.st (e A)), x1, some (.st (e B)), x3, some (.ow (.list ((q ++ new).map e))), some (.ow (.list (met'.map e))), x6, some (.st (.int (h : Int))), some (.st (.int (t : Int))), some (.st (e row)), x10, x11])) :
    @WL (.nm 10) b1_law_row_apart (rngD 0 words) [some (.st (e A)), x1, some (.st (e B)), x3, some (.ow (.list (q.map e))), some (.ow (.list (met.map e))), x6, some (.st (.int (h : Int))), some (.st (.int (t : Int))), some (.st (e row)), x10, x11] Q := by
  refine wl_rng (fun w ρ => w ≤ words ∧ ∃ (met1 : List (Nat × Nat)) (new1 : List Ent) (x10 x11 : Option SV), met1.length ≤ 10000 + w ∧ new1.length ≤ w ∧ inner A B h t row (words - w) w met1 new1 = inner A B h t row words 0 met [] ∧
    ρ = [some (.st (e A)), x1, some (.st (e B)), x3, some (.ow (.list ((q ++ new1).map e))), some (.ow (.list (met1.map e))), x6, some (.st (.int (h : Int))), some (.st (.int (t : Int))), some (.st (e row)), x10, x11])
    ⟨Nat.zero_le _, met, [], x10, x11, by omega, Nat.le_refl _, rfl, by rw [List.append_nil]⟩ (fun w ρ hwl z => ?_) fun ρ z => ?_
  · obtain ⟨_, met1, new1, x10, x11, z1, z2, z3, rfl⟩ := z
    have hh1 : h < A.length := by rw [hA.len]; exact hh
    have hv1 : w < A[h]!.length := by rw [hA.row' hh]; exact hwl
    have ht1 : t < B.length := by rw [hB.len]; exact ht
    have hw1 : w < B[t]!.length := by rw [hB.row' ht]; exact hwl
    have hrl : row.length < sizeLine := Nat.lt_of_lt_of_le (show row.length < 10001 by omega) (by decide)
    have hml : met1.length < sizeLine := Nat.lt_of_lt_of_le (show met1.length < 10101 by omega) (by decide)
    have hql : (q ++ new1).length < sizeLine := Nat.lt_of_lt_of_le (show (q ++ new1).length < 10101 by rw [List.length_append]; omega) (by decide)
    rw [show words - w = (words - (w + 1)) + 1 by omega] at z3
    rw [inner_succ] at z3
    unfold b1_law_row_apart
    simp only [eq_self, Int.reduceLT, Int.reduceLE, Nat.reduceLT, Nat.reduceLeDiff, Int.reduceToNat, Int.toNat_natCast, ↓ws_seq, ↓sq_nx, ↓sq_rt, ↓sq_rf, ↓sq_bk, ↓sq_ct, ↓lq_nx, ↓lq_ct, ↓lq_bk, ↓lq_rt, ↓lq_rf, ↓ou_nx, ↓ou_rt, ↓ou_rf, ↓ws_next, ↓ws_break, ↓ws_cont, ↓ws_retNone, ↓ws_drop, ↓ws_ret, ↓ws_retF, ↓ws_set, ↓ws_setF, ↓rn_st, ↓rn_ow, ↓ws_retN, ↓sn_st, ↓sn_ow, ↓ws_setN, ↓ite_t, ↓ite_f, ↓ws_if, ↓ws_asg, ↓ws_store, ↓ws_aug, ↓ws_for, ↓ws_while, ↓we_c, ↓we_n, ↓we_op, ↓we_int, ↓wv_nil, ↓wv_ex, ↓wv_nm, ↓re_nil, ↓re_ex, ↓re_nm, ↓st_st, ↓ow_ow, ↓lk_st, ↓lk_ow, ↓bo_bo, ↓in_in, ↓wt_test, ↓wt_tru, ↓tr_bo, ↓tr_in, ↓tr_li, ↓tr_tu, ↓tr_no, ↓wt_not, ↓wt_and, ↓wt_or, ↓we_and, ↓we_or, ↓we_not, ↓we_if, ↓di_nil, ↓di_1, ↓di_2, ↓di_3, ↓di_4, ↓di_5, ↓di_6, ↓di_7, ↓di_8, ↓di_9, ↓di_10, ↓di_11, ↓di_12, ↓we_tup, ↓we_lst, ↓wm_nil, ↓wm_cons, ↓wa_nil, ↓wa_ex, ↓wa_st, ↓wa_io, ↓fz_nil, ↓fz_ex, ↓fz_io, ↓fy_st, ↓fy_ow, ↓ar_nil, ↓ar_ex, ↓ar_st, ↓ar_io, ↓pu_nil, ↓pu_cons, ↓we_call, ij_nil, ij_ex, ij_st, ij_io, ↓wg_nm, ↓wg_tu, ↓wg_tl, ↓wgs_nil, ↓wgs_cons, ↓we_methS', ↓ls_li, ↓we_meth, ↓we_chain, ↓we_rg1, ↓we_dict0, ↓we_get, ↓isd_d, ↓we_get2, ↓ws_put, ↓we_val, ↓wi_seq, ↓wi_rng, ↓wi_enum, ↓fq_seqL, ↓fq_seqT, ↓wt_yes, ↓rs_nil, ↓rs_cons, ↓wp_nil, ↓wp_cons, ↓we_comp, ↓we_compD, ↓we_comp2, ↓we_sset, ↓we_lset, ↓we_rev, ↓rv_l, ↓rv_t, ↓f_zip, ↓iq_nil, ↓iq_cons, ↓get_0, ↓set_0, ↓slot_0, ↓fz_0, ↓get_1, ↓set_1, ↓slot_1, ↓fz_1, ↓get_2, ↓set_2, ↓slot_2, ↓fz_2, ↓get_3, ↓set_3, ↓slot_3, ↓fz_3, ↓get_4, ↓set_4, ↓slot_4, ↓fz_4, ↓get_5, ↓set_5, ↓slot_5, ↓fz_5, ↓get_6, ↓set_6, ↓slot_6, ↓fz_6, ↓get_7, ↓set_7, ↓slot_7, ↓fz_7, ↓get_8, ↓set_8, ↓slot_8, ↓fz_8, ↓get_9, ↓set_9, ↓slot_9, ↓fz_9, ↓get_10, ↓set_10, ↓slot_10, ↓fz_10, ↓get_11, ↓set_11, ↓slot_11, ↓fz_11, ↓get_12, ↓set_12, ↓slot_12, ↓fz_12, ↓get_13, ↓set_13, ↓slot_13, ↓fz_13, ↓get_14, ↓set_14, ↓slot_14, ↓fz_14, ↓get_15, ↓set_15, ↓slot_15, ↓fz_15, ↓get_16, ↓set_16, ↓slot_16, ↓fz_16, ↓get_17, ↓set_17, ↓slot_17, ↓fz_17, ↓get_18, ↓set_18, ↓slot_18, ↓fz_18, ↓get_19, ↓set_19, ↓slot_19, ↓fz_19, ↓get_20, ↓set_20, ↓slot_20, ↓fz_20, ↓get_21, ↓set_21, ↓slot_21, ↓fz_21, ↓get_22, ↓set_22, ↓slot_22, ↓fz_22, ↓get_23, ↓set_23, ↓slot_23, ↓fz_23, ↓get_24, ↓set_24, ↓slot_24, ↓fz_24, ↓get_25, ↓set_25, ↓slot_25, ↓fz_25, ↓f_sub, ↓f_lt, ↓f_le, ↓f_gt, ↓f_ge, ↓f_add, ↓f_mod, ↓f_fdiv, ↓f_mulL, ↓f_mulR, ↓f_neg, ↓f_abs, ↓f_intI, ↓f_intB, ↓f_lenL, ↓f_lenT, ↓f_tupL, ↓f_tupT, ↓f_lisL, ↓f_lisT, ↓f_isB, ↓f_isNotB, ↓f_isN, ↓f_isNotN, ↓f_all, ↓f_any, ↓f_sum, ↓f_isi_int_int, ↓f_isi_int_bool, ↓f_isi_int_tuple, ↓f_isi_int_str, ↓f_isi_int_list, ↓f_isi_bool_int, ↓f_isi_bool_bool, ↓f_isi_bool_tuple, ↓f_isi_bool_str, ↓f_isi_bool_list, ↓f_isi_tuple_int, ↓f_isi_tuple_bool, ↓f_isi_tuple_tuple, ↓f_isi_tuple_str, ↓f_isi_tuple_list, ↓f_isi_str_int, ↓f_isi_str_bool, ↓f_isi_str_tuple, ↓f_isi_str_str, ↓f_isi_str_list, ↓f_isi_list_int, ↓f_isi_list_bool, ↓f_isi_list_tuple, ↓f_isi_list_str, ↓f_isi_list_list, ↓h_pop, ↓h_pop0, ↓f_rngI, ↓f_ixl0, ↓f_ixl1, ↓f_ixl2, ↓f_ixl3, ↓f_ixl4, ↓f_ixl5, ↓f_ixt0, ↓f_ixt1, ↓f_ixt2, ↓f_ixt3, ↓f_ixt4, ↓f_ixt5, ↓f_sd0, ↓f_sd1, ↓f_sd2, ↓f_sd3, ↓f_sd4, ↓f_sd5, nd_none, nd_bool, nd_int, nd_str, nd_list, nd_tuple, ↓q_ix hh1, ↓q_ix hv1, ↓q_ix ht1, ↓q_ix hw1, ↓q_p0, ↓q_ne, dep_list, dep_nat]
    by_cases hd : (A[h]![w]!).1 ≠ (B[t]![w]!).1
    · rw [if_pos hd] at z3
      simp only [eq_self, Int.reduceLT, Int.reduceLE, Nat.reduceLT, Nat.reduceLeDiff, Int.reduceToNat, Int.toNat_natCast, ↓ws_seq, ↓sq_nx, ↓sq_rt, ↓sq_rf, ↓sq_bk, ↓sq_ct, ↓lq_nx, ↓lq_ct, ↓lq_bk, ↓lq_rt, ↓lq_rf, ↓ou_nx, ↓ou_rt, ↓ou_rf, ↓ws_next, ↓ws_break, ↓ws_cont, ↓ws_retNone, ↓ws_drop, ↓ws_ret, ↓ws_retF, ↓ws_set, ↓ws_setF, ↓rn_st, ↓rn_ow, ↓ws_retN, ↓sn_st, ↓sn_ow, ↓ws_setN, ↓ite_t, ↓ite_f, ↓ws_if, ↓ws_asg, ↓ws_store, ↓ws_aug, ↓ws_for, ↓ws_while, ↓we_c, ↓we_n, ↓we_op, ↓we_int, ↓wv_nil, ↓wv_ex, ↓wv_nm, ↓re_nil, ↓re_ex, ↓re_nm, ↓st_st, ↓ow_ow, ↓lk_st, ↓lk_ow, ↓bo_bo, ↓in_in, ↓wt_test, ↓wt_tru, ↓tr_bo, ↓tr_in, ↓tr_li, ↓tr_tu, ↓tr_no, ↓wt_not, ↓wt_and, ↓wt_or, ↓we_and, ↓we_or, ↓we_not, ↓we_if, ↓di_nil, ↓di_1, ↓di_2, ↓di_3, ↓di_4, ↓di_5, ↓di_6, ↓di_7, ↓di_8, ↓di_9, ↓di_10, ↓di_11, ↓di_12, ↓we_tup, ↓we_lst, ↓wm_nil, ↓wm_cons, ↓wa_nil, ↓wa_ex, ↓wa_st, ↓wa_io, ↓fz_nil, ↓fz_ex, ↓fz_io, ↓fy_st, ↓fy_ow, ↓ar_nil, ↓ar_ex, ↓ar_st, ↓ar_io, ↓pu_nil, ↓pu_cons, ↓we_call, ij_nil, ij_ex, ij_st, ij_io, ↓wg_nm, ↓wg_tu, ↓wg_tl, ↓wgs_nil, ↓wgs_cons, ↓we_methS', ↓ls_li, ↓we_meth, ↓we_chain, ↓we_rg1, ↓we_dict0, ↓we_get, ↓isd_d, ↓we_get2, ↓ws_put, ↓we_val, ↓wi_seq, ↓wi_rng, ↓wi_enum, ↓fq_seqL, ↓fq_seqT, ↓wt_yes, ↓rs_nil, ↓rs_cons, ↓wp_nil, ↓wp_cons, ↓we_comp, ↓we_compD, ↓we_comp2, ↓we_sset, ↓we_lset, ↓we_rev, ↓rv_l, ↓rv_t, ↓f_zip, ↓iq_nil, ↓iq_cons, ↓get_0, ↓set_0, ↓slot_0, ↓fz_0, ↓get_1, ↓set_1, ↓slot_1, ↓fz_1, ↓get_2, ↓set_2, ↓slot_2, ↓fz_2, ↓get_3, ↓set_3, ↓slot_3, ↓fz_3, ↓get_4, ↓set_4, ↓slot_4, ↓fz_4, ↓get_5, ↓set_5, ↓slot_5, ↓fz_5, ↓get_6, ↓set_6, ↓slot_6, ↓fz_6, ↓get_7, ↓set_7, ↓slot_7, ↓fz_7, ↓get_8, ↓set_8, ↓slot_8, ↓fz_8, ↓get_9, ↓set_9, ↓slot_9, ↓fz_9, ↓get_10, ↓set_10, ↓slot_10, ↓fz_10, ↓get_11, ↓set_11, ↓slot_11, ↓fz_11, ↓get_12, ↓set_12, ↓slot_12, ↓fz_12, ↓get_13, ↓set_13, ↓slot_13, ↓fz_13, ↓get_14, ↓set_14, ↓slot_14, ↓fz_14, ↓get_15, ↓set_15, ↓slot_15, ↓fz_15, ↓get_16, ↓set_16, ↓slot_16, ↓fz_16, ↓get_17, ↓set_17, ↓slot_17, ↓fz_17, ↓get_18, ↓set_18, ↓slot_18, ↓fz_18, ↓get_19, ↓set_19, ↓slot_19, ↓fz_19, ↓get_20, ↓set_20, ↓slot_20, ↓fz_20, ↓get_21, ↓set_21, ↓slot_21, ↓fz_21, ↓get_22, ↓set_22, ↓slot_22, ↓fz_22, ↓get_23, ↓set_23, ↓slot_23, ↓fz_23, ↓get_24, ↓set_24, ↓slot_24, ↓fz_24, ↓get_25, ↓set_25, ↓slot_25, ↓fz_25, ↓f_sub, ↓f_lt, ↓f_le, ↓f_gt, ↓f_ge, ↓f_add, ↓f_mod, ↓f_fdiv, ↓f_mulL, ↓f_mulR, ↓f_neg, ↓f_abs, ↓f_intI, ↓f_intB, ↓f_lenL, ↓f_lenT, ↓f_tupL, ↓f_tupT, ↓f_lisL, ↓f_lisT, ↓f_isB, ↓f_isNotB, ↓f_isN, ↓f_isNotN, ↓f_all, ↓f_any, ↓f_sum, ↓f_isi_int_int, ↓f_isi_int_bool, ↓f_isi_int_tuple, ↓f_isi_int_str, ↓f_isi_int_list, ↓f_isi_bool_int, ↓f_isi_bool_bool, ↓f_isi_bool_tuple, ↓f_isi_bool_str, ↓f_isi_bool_list, ↓f_isi_tuple_int, ↓f_isi_tuple_bool, ↓f_isi_tuple_tuple, ↓f_isi_tuple_str, ↓f_isi_tuple_list, ↓f_isi_str_int, ↓f_isi_str_bool, ↓f_isi_str_tuple, ↓f_isi_str_str, ↓f_isi_str_list, ↓f_isi_list_int, ↓f_isi_list_bool, ↓f_isi_list_tuple, ↓f_isi_list_str, ↓f_isi_list_list, ↓h_pop, ↓h_pop0, ↓f_rngI, ↓f_ixl0, ↓f_ixl1, ↓f_ixl2, ↓f_ixl3, ↓f_ixl4, ↓f_ixl5, ↓f_ixt0, ↓f_ixt1, ↓f_ixt2, ↓f_ixt3, ↓f_ixt4, ↓f_ixt5, ↓f_sd0, ↓f_sd1, ↓f_sd2, ↓f_sd3, ↓f_sd4, ↓f_sd5, nd_none, nd_bool, nd_int, nd_str, nd_list, nd_tuple, ↓itT hd, ↓q_cat1n hrl, en_nd]
      exact q1 w _ z3.symm
    · rw [if_neg hd] at z3
      simp only [eq_self, Int.reduceLT, Int.reduceLE, Nat.reduceLT, Nat.reduceLeDiff, Int.reduceToNat, Int.toNat_natCast, ↓ws_seq, ↓sq_nx, ↓sq_rt, ↓sq_rf, ↓sq_bk, ↓sq_ct, ↓lq_nx, ↓lq_ct, ↓lq_bk, ↓lq_rt, ↓lq_rf, ↓ou_nx, ↓ou_rt, ↓ou_rf, ↓ws_next, ↓ws_break, ↓ws_cont, ↓ws_retNone, ↓ws_drop, ↓ws_ret, ↓ws_retF, ↓ws_set, ↓ws_setF, ↓rn_st, ↓rn_ow, ↓ws_retN, ↓sn_st, ↓sn_ow, ↓ws_setN, ↓ite_t, ↓ite_f, ↓ws_if, ↓ws_asg, ↓ws_store, ↓ws_aug, ↓ws_for, ↓ws_while, ↓we_c, ↓we_n, ↓we_op, ↓we_int, ↓wv_nil, ↓wv_ex, ↓wv_nm, ↓re_nil, ↓re_ex, ↓re_nm, ↓st_st, ↓ow_ow, ↓lk_st, ↓lk_ow, ↓bo_bo, ↓in_in, ↓wt_test, ↓wt_tru, ↓tr_bo, ↓tr_in, ↓tr_li, ↓tr_tu, ↓tr_no, ↓wt_not, ↓wt_and, ↓wt_or, ↓we_and, ↓we_or, ↓we_not, ↓we_if, ↓di_nil, ↓di_1, ↓di_2, ↓di_3, ↓di_4, ↓di_5, ↓di_6, ↓di_7, ↓di_8, ↓di_9, ↓di_10, ↓di_11, ↓di_12, ↓we_tup, ↓we_lst, ↓wm_nil, ↓wm_cons, ↓wa_nil, ↓wa_ex, ↓wa_st, ↓wa_io, ↓fz_nil, ↓fz_ex, ↓fz_io, ↓fy_st, ↓fy_ow, ↓ar_nil, ↓ar_ex, ↓ar_st, ↓ar_io, ↓pu_nil, ↓pu_cons, ↓we_call, ij_nil, ij_ex, ij_st, ij_io, ↓wg_nm, ↓wg_tu, ↓wg_tl, ↓wgs_nil, ↓wgs_cons, ↓we_methS', ↓ls_li, ↓we_meth, ↓we_chain, ↓we_rg1, ↓we_dict0, ↓we_get, ↓isd_d, ↓we_get2, ↓ws_put, ↓we_val, ↓wi_seq, ↓wi_rng, ↓wi_enum, ↓fq_seqL, ↓fq_seqT, ↓wt_yes, ↓rs_nil, ↓rs_cons, ↓wp_nil, ↓wp_cons, ↓we_comp, ↓we_compD, ↓we_comp2, ↓we_sset, ↓we_lset, ↓we_rev, ↓rv_l, ↓rv_t, ↓f_zip, ↓iq_nil, ↓iq_cons, ↓get_0, ↓set_0, ↓slot_0, ↓fz_0, ↓get_1, ↓set_1, ↓slot_1, ↓fz_1, ↓get_2, ↓set_2, ↓slot_2, ↓fz_2, ↓get_3, ↓set_3, ↓slot_3, ↓fz_3, ↓get_4, ↓set_4, ↓slot_4, ↓fz_4, ↓get_5, ↓set_5, ↓slot_5, ↓fz_5, ↓get_6, ↓set_6, ↓slot_6, ↓fz_6, ↓get_7, ↓set_7, ↓slot_7, ↓fz_7, ↓get_8, ↓set_8, ↓slot_8, ↓fz_8, ↓get_9, ↓set_9, ↓slot_9, ↓fz_9, ↓get_10, ↓set_10, ↓slot_10, ↓fz_10, ↓get_11, ↓set_11, ↓slot_11, ↓fz_11, ↓get_12, ↓set_12, ↓slot_12, ↓fz_12, ↓get_13, ↓set_13, ↓slot_13, ↓fz_13, ↓get_14, ↓set_14, ↓slot_14, ↓fz_14, ↓get_15, ↓set_15, ↓slot_15, ↓fz_15, ↓get_16, ↓set_16, ↓slot_16, ↓fz_16, ↓get_17, ↓set_17, ↓slot_17, ↓fz_17, ↓get_18, ↓set_18, ↓slot_18, ↓fz_18, ↓get_19, ↓set_19, ↓slot_19, ↓fz_19, ↓get_20, ↓set_20, ↓slot_20, ↓fz_20, ↓get_21, ↓set_21, ↓slot_21, ↓fz_21, ↓get_22, ↓set_22, ↓slot_22, ↓fz_22, ↓get_23, ↓set_23, ↓slot_23, ↓fz_23, ↓get_24, ↓set_24, ↓slot_24, ↓fz_24, ↓get_25, ↓set_25, ↓slot_25, ↓fz_25, ↓f_sub, ↓f_lt, ↓f_le, ↓f_gt, ↓f_ge, ↓f_add, ↓f_mod, ↓f_fdiv, ↓f_mulL, ↓f_mulR, ↓f_neg, ↓f_abs, ↓f_intI, ↓f_intB, ↓f_lenL, ↓f_lenT, ↓f_tupL, ↓f_tupT, ↓f_lisL, ↓f_lisT, ↓f_isB, ↓f_isNotB, ↓f_isN, ↓f_isNotN, ↓f_all, ↓f_any, ↓f_sum, ↓f_isi_int_int, ↓f_isi_int_bool, ↓f_isi_int_tuple, ↓f_isi_int_str, ↓f_isi_int_list, ↓f_isi_bool_int, ↓f_isi_bool_bool, ↓f_isi_bool_tuple, ↓f_isi_bool_str, ↓f_isi_bool_list, ↓f_isi_tuple_int, ↓f_isi_tuple_bool, ↓f_isi_tuple_tuple, ↓f_isi_tuple_str, ↓f_isi_tuple_list, ↓f_isi_str_int, ↓f_isi_str_bool, ↓f_isi_str_tuple, ↓f_isi_str_str, ↓f_isi_str_list, ↓f_isi_list_int, ↓f_isi_list_bool, ↓f_isi_list_tuple, ↓f_isi_list_str, ↓f_isi_list_list, ↓h_pop, ↓h_pop0, ↓f_rngI, ↓f_ixl0, ↓f_ixl1, ↓f_ixl2, ↓f_ixl3, ↓f_ixl4, ↓f_ixl5, ↓f_ixt0, ↓f_ixt1, ↓f_ixt2, ↓f_ixt3, ↓f_ixt4, ↓f_ixt5, ↓f_sd0, ↓f_sd1, ↓f_sd2, ↓f_sd3, ↓f_sd4, ↓f_sd5, nd_none, nd_bool, nd_int, nd_str, nd_list, nd_tuple, ↓itF hd, ↓q_p1, en_nat, ↓q_ix hh1, ↓q_ix hv1, ↓q_ix ht1, ↓q_ix hw1, t2n, ↓q_nin, dep_pair, dep_nat, Nat.max_self]
      by_cases hmm : ((A[h]![w]!).2, (B[t]![w]!).2) ∉ met1
      · rw [if_pos hmm] at z3
        simp only [eq_self, Int.reduceLT, Int.reduceLE, Nat.reduceLT, Nat.reduceLeDiff, Int.reduceToNat, Int.toNat_natCast, ↓ws_seq, ↓sq_nx, ↓sq_rt, ↓sq_rf, ↓sq_bk, ↓sq_ct, ↓lq_nx, ↓lq_ct, ↓lq_bk, ↓lq_rt, ↓lq_rf, ↓ou_nx, ↓ou_rt, ↓ou_rf, ↓ws_next, ↓ws_break, ↓ws_cont, ↓ws_retNone, ↓ws_drop, ↓ws_ret, ↓ws_retF, ↓ws_set, ↓ws_setF, ↓rn_st, ↓rn_ow, ↓ws_retN, ↓sn_st, ↓sn_ow, ↓ws_setN, ↓ite_t, ↓ite_f, ↓ws_if, ↓ws_asg, ↓ws_store, ↓ws_aug, ↓ws_for, ↓ws_while, ↓we_c, ↓we_n, ↓we_op, ↓we_int, ↓wv_nil, ↓wv_ex, ↓wv_nm, ↓re_nil, ↓re_ex, ↓re_nm, ↓st_st, ↓ow_ow, ↓lk_st, ↓lk_ow, ↓bo_bo, ↓in_in, ↓wt_test, ↓wt_tru, ↓tr_bo, ↓tr_in, ↓tr_li, ↓tr_tu, ↓tr_no, ↓wt_not, ↓wt_and, ↓wt_or, ↓we_and, ↓we_or, ↓we_not, ↓we_if, ↓di_nil, ↓di_1, ↓di_2, ↓di_3, ↓di_4, ↓di_5, ↓di_6, ↓di_7, ↓di_8, ↓di_9, ↓di_10, ↓di_11, ↓di_12, ↓we_tup, ↓we_lst, ↓wm_nil, ↓wm_cons, ↓wa_nil, ↓wa_ex, ↓wa_st, ↓wa_io, ↓fz_nil, ↓fz_ex, ↓fz_io, ↓fy_st, ↓fy_ow, ↓ar_nil, ↓ar_ex, ↓ar_st, ↓ar_io, ↓pu_nil, ↓pu_cons, ↓we_call, ij_nil, ij_ex, ij_st, ij_io, ↓wg_nm, ↓wg_tu, ↓wg_tl, ↓wgs_nil, ↓wgs_cons, ↓we_methS', ↓ls_li, ↓we_meth, ↓we_chain, ↓we_rg1, ↓we_dict0, ↓we_get, ↓isd_d, ↓we_get2, ↓ws_put, ↓we_val, ↓wi_seq, ↓wi_rng, ↓wi_enum, ↓fq_seqL, ↓fq_seqT, ↓wt_yes, ↓rs_nil, ↓rs_cons, ↓wp_nil, ↓wp_cons, ↓we_comp, ↓we_compD, ↓we_comp2, ↓we_sset, ↓we_lset, ↓we_rev, ↓rv_l, ↓rv_t, ↓f_zip, ↓iq_nil, ↓iq_cons, ↓get_0, ↓set_0, ↓slot_0, ↓fz_0, ↓get_1, ↓set_1, ↓slot_1, ↓fz_1, ↓get_2, ↓set_2, ↓slot_2, ↓fz_2, ↓get_3, ↓set_3, ↓slot_3, ↓fz_3, ↓get_4, ↓set_4, ↓slot_4, ↓fz_4, ↓get_5, ↓set_5, ↓slot_5, ↓fz_5, ↓get_6, ↓set_6, ↓slot_6, ↓fz_6, ↓get_7, ↓set_7, ↓slot_7, ↓fz_7, ↓get_8, ↓set_8, ↓slot_8, ↓fz_8, ↓get_9, ↓set_9, ↓slot_9, ↓fz_9, ↓get_10, ↓set_10, ↓slot_10, ↓fz_10, ↓get_11, ↓set_11, ↓slot_11, ↓fz_11, ↓get_12, ↓set_12, ↓slot_12, ↓fz_12, ↓get_13, ↓set_13, ↓slot_13, ↓fz_13, ↓get_14, ↓set_14, ↓slot_14, ↓fz_14, ↓get_15, ↓set_15, ↓slot_15, ↓fz_15, ↓get_16, ↓set_16, ↓slot_16, ↓fz_16, ↓get_17, ↓set_17, ↓slot_17, ↓fz_17, ↓get_18, ↓set_18, ↓slot_18, ↓fz_18, ↓get_19, ↓set_19, ↓slot_19, ↓fz_19, ↓get_20, ↓set_20, ↓slot_20, ↓fz_20, ↓get_21, ↓set_21, ↓slot_21, ↓fz_21, ↓get_22, ↓set_22, ↓slot_22, ↓fz_22, ↓get_23, ↓set_23, ↓slot_23, ↓fz_23, ↓get_24, ↓set_24, ↓slot_24, ↓fz_24, ↓get_25, ↓set_25, ↓slot_25, ↓fz_25, ↓f_sub, ↓f_lt, ↓f_le, ↓f_gt, ↓f_ge, ↓f_add, ↓f_mod, ↓f_fdiv, ↓f_mulL, ↓f_mulR, ↓f_neg, ↓f_abs, ↓f_intI, ↓f_intB, ↓f_lenL, ↓f_lenT, ↓f_tupL, ↓f_tupT, ↓f_lisL, ↓f_lisT, ↓f_isB, ↓f_isNotB, ↓f_isN, ↓f_isNotN, ↓f_all, ↓f_any, ↓f_sum, ↓f_isi_int_int, ↓f_isi_int_bool, ↓f_isi_int_tuple, ↓f_isi_int_str, ↓f_isi_int_list, ↓f_isi_bool_int, ↓f_isi_bool_bool, ↓f_isi_bool_tuple, ↓f_isi_bool_str, ↓f_isi_bool_list, ↓f_isi_tuple_int, ↓f_isi_tuple_bool, ↓f_isi_tuple_tuple, ↓f_isi_tuple_str, ↓f_isi_tuple_list, ↓f_isi_str_int, ↓f_isi_str_bool, ↓f_isi_str_tuple, ↓f_isi_str_str, ↓f_isi_str_list, ↓f_isi_list_int, ↓f_isi_list_bool, ↓f_isi_list_tuple, ↓f_isi_list_str, ↓f_isi_list_list, ↓h_pop, ↓h_pop0, ↓f_rngI, ↓f_ixl0, ↓f_ixl1, ↓f_ixl2, ↓f_ixl3, ↓f_ixl4, ↓f_ixl5, ↓f_ixt0, ↓f_ixt1, ↓f_ixt2, ↓f_ixt3, ↓f_ixt4, ↓f_ixt5, ↓f_sd0, ↓f_sd1, ↓f_sd2, ↓f_sd3, ↓f_sd4, ↓f_sd5, nd_none, nd_bool, nd_int, nd_str, nd_list, nd_tuple, ↓itT hmm, ↓q_p1, en_nat, t2n, ↓q_app hml, ↓q_cat1n hrl, en_nd, t3n, ↓q_app hql, ↓q_cat3]
        refine ⟨by omega, _, _, _, _, ?_, ?_, z3, by rw [List.append_assoc]⟩
        · rw [List.length_append]
          simp
          omega
        · rw [List.length_append]
          simp
          omega
      · rw [if_neg hmm] at z3
        simp only [eq_self, Int.reduceLT, Int.reduceLE, Nat.reduceLT, Nat.reduceLeDiff, Int.reduceToNat, Int.toNat_natCast, ↓ws_seq, ↓sq_nx, ↓sq_rt, ↓sq_rf, ↓sq_bk, ↓sq_ct, ↓lq_nx, ↓lq_ct, ↓lq_bk, ↓lq_rt, ↓lq_rf, ↓ou_nx, ↓ou_rt, ↓ou_rf, ↓ws_next, ↓ws_break, ↓ws_cont, ↓ws_retNone, ↓ws_drop, ↓ws_ret, ↓ws_retF, ↓ws_set, ↓ws_setF, ↓rn_st, ↓rn_ow, ↓ws_retN, ↓sn_st, ↓sn_ow, ↓ws_setN, ↓ite_t, ↓ite_f, ↓ws_if, ↓ws_asg, ↓ws_store, ↓ws_aug, ↓ws_for, ↓ws_while, ↓we_c, ↓we_n, ↓we_op, ↓we_int, ↓wv_nil, ↓wv_ex, ↓wv_nm, ↓re_nil, ↓re_ex, ↓re_nm, ↓st_st, ↓ow_ow, ↓lk_st, ↓lk_ow, ↓bo_bo, ↓in_in, ↓wt_test, ↓wt_tru, ↓tr_bo, ↓tr_in, ↓tr_li, ↓tr_tu, ↓tr_no, ↓wt_not, ↓wt_and, ↓wt_or, ↓we_and, ↓we_or, ↓we_not, ↓we_if, ↓di_nil, ↓di_1, ↓di_2, ↓di_3, ↓di_4, ↓di_5, ↓di_6, ↓di_7, ↓di_8, ↓di_9, ↓di_10, ↓di_11, ↓di_12, ↓we_tup, ↓we_lst, ↓wm_nil, ↓wm_cons, ↓wa_nil, ↓wa_ex, ↓wa_st, ↓wa_io, ↓fz_nil, ↓fz_ex, ↓fz_io, ↓fy_st, ↓fy_ow, ↓ar_nil, ↓ar_ex, ↓ar_st, ↓ar_io, ↓pu_nil, ↓pu_cons, ↓we_call, ij_nil, ij_ex, ij_st, ij_io, ↓wg_nm, ↓wg_tu, ↓wg_tl, ↓wgs_nil, ↓wgs_cons, ↓we_methS', ↓ls_li, ↓we_meth, ↓we_chain, ↓we_rg1, ↓we_dict0, ↓we_get, ↓isd_d, ↓we_get2, ↓ws_put, ↓we_val, ↓wi_seq, ↓wi_rng, ↓wi_enum, ↓fq_seqL, ↓fq_seqT, ↓wt_yes, ↓rs_nil, ↓rs_cons, ↓wp_nil, ↓wp_cons, ↓we_comp, ↓we_compD, ↓we_comp2, ↓we_sset, ↓we_lset, ↓we_rev, ↓rv_l, ↓rv_t, ↓f_zip, ↓iq_nil, ↓iq_cons, ↓get_0, ↓set_0, ↓slot_0, ↓fz_0, ↓get_1, ↓set_1, ↓slot_1, ↓fz_1, ↓get_2, ↓set_2, ↓slot_2, ↓fz_2, ↓get_3, ↓set_3, ↓slot_3, ↓fz_3, ↓get_4, ↓set_4, ↓slot_4, ↓fz_4, ↓get_5, ↓set_5, ↓slot_5, ↓fz_5, ↓get_6, ↓set_6, ↓slot_6, ↓fz_6, ↓get_7, ↓set_7, ↓slot_7, ↓fz_7, ↓get_8, ↓set_8, ↓slot_8, ↓fz_8, ↓get_9, ↓set_9, ↓slot_9, ↓fz_9, ↓get_10, ↓set_10, ↓slot_10, ↓fz_10, ↓get_11, ↓set_11, ↓slot_11, ↓fz_11, ↓get_12, ↓set_12, ↓slot_12, ↓fz_12, ↓get_13, ↓set_13, ↓slot_13, ↓fz_13, ↓get_14, ↓set_14, ↓slot_14, ↓fz_14, ↓get_15, ↓set_15, ↓slot_15, ↓fz_15, ↓get_16, ↓set_16, ↓slot_16, ↓fz_16, ↓get_17, ↓set_17, ↓slot_17, ↓fz_17, ↓get_18, ↓set_18, ↓slot_18, ↓fz_18, ↓get_19, ↓set_19, ↓slot_19, ↓fz_19, ↓get_20, ↓set_20, ↓slot_20, ↓fz_20, ↓get_21, ↓set_21, ↓slot_21, ↓fz_21, ↓get_22, ↓set_22, ↓slot_22, ↓fz_22, ↓get_23, ↓set_23, ↓slot_23, ↓fz_23, ↓get_24, ↓set_24, ↓slot_24, ↓fz_24, ↓get_25, ↓set_25, ↓slot_25, ↓fz_25, ↓f_sub, ↓f_lt, ↓f_le, ↓f_gt, ↓f_ge, ↓f_add, ↓f_mod, ↓f_fdiv, ↓f_mulL, ↓f_mulR, ↓f_neg, ↓f_abs, ↓f_intI, ↓f_intB, ↓f_lenL, ↓f_lenT, ↓f_tupL, ↓f_tupT, ↓f_lisL, ↓f_lisT, ↓f_isB, ↓f_isNotB, ↓f_isN, ↓f_isNotN, ↓f_all, ↓f_any, ↓f_sum, ↓f_isi_int_int, ↓f_isi_int_bool, ↓f_isi_int_tuple, ↓f_isi_int_str, ↓f_isi_int_list, ↓f_isi_bool_int, ↓f_isi_bool_bool, ↓f_isi_bool_tuple, ↓f_isi_bool_str, ↓f_isi_bool_list, ↓f_isi_tuple_int, ↓f_isi_tuple_bool, ↓f_isi_tuple_tuple, ↓f_isi_tuple_str, ↓f_isi_tuple_list, ↓f_isi_str_int, ↓f_isi_str_bool, ↓f_isi_str_tuple, ↓f_isi_str_str, ↓f_isi_str_list, ↓f_isi_list_int, ↓f_isi_list_bool, ↓f_isi_list_tuple, ↓f_isi_list_str, ↓f_isi_list_list, ↓h_pop, ↓h_pop0, ↓f_rngI, ↓f_ixl0, ↓f_ixl1, ↓f_ixl2, ↓f_ixl3, ↓f_ixl4, ↓f_ixl5, ↓f_ixt0, ↓f_ixt1, ↓f_ixt2, ↓f_ixt3, ↓f_ixt4, ↓f_ixt5, ↓f_sd0, ↓f_sd1, ↓f_sd2, ↓f_sd3, ↓f_sd4, ↓f_sd5, nd_none, nd_bool, nd_int, nd_str, nd_list, nd_tuple, ↓itF hmm]
        exact ⟨by omega, met1, new1, _, _, by omega, by omega, z3, rfl⟩
  · obtain ⟨_, met1, new1, x10, x11, z1, z2, z3, rfl⟩ := z
    rw [Nat.sub_self] at z3
    exact q2 _ _ _ _ z3.symm
theorem law_row_apart_eq (hA : MOk A words ka) (hB : MOk B words kb) (hi : i < ka) (hj : j < kb) (hka : ka ≤ 100) (hkb : kb ≤ 100) (hw : words ≤ 100) :
    F_law_row_apart [e A, .int (i : Int), e B, .int (j : Int)] = some (e (resL (bfs A B words (ka * kb) [⟨i, j, []⟩] [(i, j)])), []) := wf_eq (by
  rw [run_law_row_apart]
  unfold m_law_row_apart
  have hN : ka * kb ≤ 10000 := Nat.mul_le_mul hka hkb
  have hN2 : ka * kb < 2 ^ 62 := Nat.lt_of_le_of_lt hN (by decide)
  have hN3 : ka < 2 ^ 62 := Nat.lt_of_le_of_lt hka (by decide)
  have hW : words < 2 ^ 62 := Nat.lt_of_le_of_lt hw (by decide)
  have e0 : PyData.tuple [.int (i : Int), .int (j : Int), .tuple []] = e (T3.mk i j ([] : List Nat)) := rfl
  have e1 : PyData.list [e ((i, j) : Nat × Nat)] = .list ([((i, j) : Nat × Nat)].map e) := rfl
  have e2 : PyData.list [e (T3.mk i j ([] : List Nat))] = .list ([(T3.mk i j [] : Ent)].map e) := rfl
  simp only [eq_self, Int.reduceLT, Int.reduceLE, Nat.reduceLT, Nat.reduceLeDiff, Int.reduceToNat, Int.toNat_natCast, ↓ws_seq, ↓sq_nx, ↓sq_rt, ↓sq_rf, ↓sq_bk, ↓sq_ct, ↓lq_nx, ↓lq_ct, ↓lq_bk, ↓lq_rt, ↓lq_rf, ↓ou_nx, ↓ou_rt, ↓ou_rf, ↓ws_next, ↓ws_break, ↓ws_cont, ↓ws_retNone, ↓ws_drop, ↓ws_ret, ↓ws_retF, ↓ws_set, ↓ws_setF, ↓rn_st, ↓rn_ow, ↓ws_retN, ↓sn_st, ↓sn_ow, ↓ws_setN, ↓ite_t, ↓ite_f, ↓ws_if, ↓ws_asg, ↓ws_store, ↓ws_aug, ↓ws_for, ↓ws_while, ↓we_c, ↓we_n, ↓we_op, ↓we_int, ↓wv_nil, ↓wv_ex, ↓wv_nm, ↓re_nil, ↓re_ex, ↓re_nm, ↓st_st, ↓ow_ow, ↓lk_st, ↓lk_ow, ↓bo_bo, ↓in_in, ↓wt_test, ↓wt_tru, ↓tr_bo, ↓tr_in, ↓tr_li, ↓tr_tu, ↓tr_no, ↓wt_not, ↓wt_and, ↓wt_or, ↓we_and, ↓we_or, ↓we_not, ↓we_if, ↓di_nil, ↓di_1, ↓di_2, ↓di_3, ↓di_4, ↓di_5, ↓di_6, ↓di_7, ↓di_8, ↓di_9, ↓di_10, ↓di_11, ↓di_12, ↓we_tup, ↓we_lst, ↓wm_nil, ↓wm_cons, ↓wa_nil, ↓wa_ex, ↓wa_st, ↓wa_io, ↓fz_nil, ↓fz_ex, ↓fz_io, ↓fy_st, ↓fy_ow, ↓ar_nil, ↓ar_ex, ↓ar_st, ↓ar_io, ↓pu_nil, ↓pu_cons, ↓we_call, ij_nil, ij_ex, ij_st, ij_io, ↓wg_nm, ↓wg_tu, ↓wg_tl, ↓wgs_nil, ↓wgs_cons, ↓we_methS', ↓ls_li, ↓we_meth, ↓we_chain, ↓we_rg1, ↓we_dict0, ↓we_get, ↓isd_d, ↓we_get2, ↓ws_put, ↓we_val, ↓wi_seq, ↓wi_rng, ↓wi_enum, ↓fq_seqL, ↓fq_seqT, ↓wt_yes, ↓rs_nil, ↓rs_cons, ↓wp_nil, ↓wp_cons, ↓we_comp, ↓we_compD, ↓we_comp2, ↓we_sset, ↓we_lset, ↓we_rev, ↓rv_l, ↓rv_t, ↓f_zip, ↓iq_nil, ↓iq_cons, ↓get_0, ↓set_0, ↓slot_0, ↓fz_0, ↓get_1, ↓set_1, ↓slot_1, ↓fz_1, ↓get_2, ↓set_2, ↓slot_2, ↓fz_2, ↓get_3, ↓set_3, ↓slot_3, ↓fz_3, ↓get_4, ↓set_4, ↓slot_4, ↓fz_4, ↓get_5, ↓set_5, ↓slot_5, ↓fz_5, ↓get_6, ↓set_6, ↓slot_6, ↓fz_6, ↓get_7, ↓set_7, ↓slot_7, ↓fz_7, ↓get_8, ↓set_8, ↓slot_8, ↓fz_8, ↓get_9, ↓set_9, ↓slot_9, ↓fz_9, ↓get_10, ↓set_10, ↓slot_10, ↓fz_10, ↓get_11, ↓set_11, ↓slot_11, ↓fz_11, ↓get_12, ↓set_12, ↓slot_12, ↓fz_12, ↓get_13, ↓set_13, ↓slot_13, ↓fz_13, ↓get_14, ↓set_14, ↓slot_14, ↓fz_14, ↓get_15, ↓set_15, ↓slot_15, ↓fz_15, ↓get_16, ↓set_16, ↓slot_16, ↓fz_16, ↓get_17, ↓set_17, ↓slot_17, ↓fz_17, ↓get_18, ↓set_18, ↓slot_18, ↓fz_18, ↓get_19, ↓set_19, ↓slot_19, ↓fz_19, ↓get_20, ↓set_20, ↓slot_20, ↓fz_20, ↓get_21, ↓set_21, ↓slot_21, ↓fz_21, ↓get_22, ↓set_22, ↓slot_22, ↓fz_22, ↓get_23, ↓set_23, ↓slot_23, ↓fz_23, ↓get_24, ↓set_24, ↓slot_24, ↓fz_24, ↓get_25, ↓set_25, ↓slot_25, ↓fz_25, ↓f_sub, ↓f_lt, ↓f_le, ↓f_gt, ↓f_ge, ↓f_add, ↓f_mod, ↓f_fdiv, ↓f_mulL, ↓f_mulR, ↓f_neg, ↓f_abs, ↓f_intI, ↓f_intB, ↓f_lenL, ↓f_lenT, ↓f_tupL, ↓f_tupT, ↓f_lisL, ↓f_lisT, ↓f_isB, ↓f_isNotB, ↓f_isN, ↓f_isNotN, ↓f_all, ↓f_any, ↓f_sum, ↓f_isi_int_int, ↓f_isi_int_bool, ↓f_isi_int_tuple, ↓f_isi_int_str, ↓f_isi_int_list, ↓f_isi_bool_int, ↓f_isi_bool_bool, ↓f_isi_bool_tuple, ↓f_isi_bool_str, ↓f_isi_bool_list, ↓f_isi_tuple_int, ↓f_isi_tuple_bool, ↓f_isi_tuple_tuple, ↓f_isi_tuple_str, ↓f_isi_tuple_list, ↓f_isi_str_int, ↓f_isi_str_bool, ↓f_isi_str_tuple, ↓f_isi_str_str, ↓f_isi_str_list, ↓f_isi_list_int, ↓f_isi_list_bool, ↓f_isi_list_tuple, ↓f_isi_list_str, ↓f_isi_list_list, ↓h_pop, ↓h_pop0, ↓f_rngI, ↓f_ixl0, ↓f_ixl1, ↓f_ixl2, ↓f_ixl3, ↓f_ixl4, ↓f_ixl5, ↓f_ixt0, ↓f_ixt1, ↓f_ixt2, ↓f_ixt3, ↓f_ixt4, ↓f_ixt5, ↓f_sd0, ↓f_sd1, ↓f_sd2, ↓f_sd3, ↓f_sd4, ↓f_sd5, nd_none, nd_bool, nd_int, nd_str, nd_list, nd_tuple, e0, t2n, en_nd, ↓q_len, hA.len, hB.len, ↓q_mulN hN3, ↓f_rng1 hN2]
  rw [e1, e2]
  refine wl_rng (fun p ρ => p ≤ ka * kb ∧ ∃ (found : List Ent) (met : List (Nat × Nat)) (x6 x7 x8 x9 x10 x11 : Option SV), ((BI A B words ka kb i j (ka * kb - p) (found.drop p) met ∧ bfs A B words (ka * kb - p) (found.drop p) met = bfs A B words (ka * kb) [⟨i, j, []⟩] [(i, j)] ∧ p ≤ found.length ∧ found.length = met.length) ∨ (found.drop p = [] ∧ bfs A B words (ka * kb) [⟨i, j, []⟩] [(i, j)] = none)) ∧
    ρ = [some (.st (e A)), some (.st (.int (i : Int))), some (.st (e B)), some (.st (.int (j : Int))), some (.ow (.list (found.map e))), some (.ow (.list (met.map e))), x6, x7, x8, x9, x10, x11])
    ⟨Nat.zero_le _, _, _, _, _, _, _, _, _, .inl ⟨BI.start hi hj, rfl, Nat.zero_le _, rfl⟩, rfl⟩ (fun p ρ hp z => ?_) fun ρ z => ?_
  · obtain ⟨_, found, met, x6, x7, x8, x9, x10, x11, hz, rfl⟩ := z
    unfold b2_law_row_apart
    simp only [eq_self, Int.reduceLT, Int.reduceLE, Nat.reduceLT, Nat.reduceLeDiff, Int.reduceToNat, Int.toNat_natCast, ↓ws_seq, ↓sq_nx, ↓sq_rt, ↓sq_rf, ↓sq_bk, ↓sq_ct, ↓lq_nx, ↓lq_ct, ↓lq_bk, ↓lq_rt, ↓lq_rf, ↓ou_nx, ↓ou_rt, ↓ou_rf, ↓ws_next, ↓ws_break, ↓ws_cont, ↓ws_retNone, ↓ws_drop, ↓ws_ret, ↓ws_retF, ↓ws_set, ↓ws_setF, ↓rn_st, ↓rn_ow, ↓ws_retN, ↓sn_st, ↓sn_ow, ↓ws_setN, ↓ite_t, ↓ite_f, ↓ws_if, ↓ws_asg, ↓ws_store, ↓ws_aug, ↓ws_for, ↓ws_while, ↓we_c, ↓we_n, ↓we_op, ↓we_int, ↓wv_nil, ↓wv_ex, ↓wv_nm, ↓re_nil, ↓re_ex, ↓re_nm, ↓st_st, ↓ow_ow, ↓lk_st, ↓lk_ow, ↓bo_bo, ↓in_in, ↓wt_test, ↓wt_tru, ↓tr_bo, ↓tr_in, ↓tr_li, ↓tr_tu, ↓tr_no, ↓wt_not, ↓wt_and, ↓wt_or, ↓we_and, ↓we_or, ↓we_not, ↓we_if, ↓di_nil, ↓di_1, ↓di_2, ↓di_3, ↓di_4, ↓di_5, ↓di_6, ↓di_7, ↓di_8, ↓di_9, ↓di_10, ↓di_11, ↓di_12, ↓we_tup, ↓we_lst, ↓wm_nil, ↓wm_cons, ↓wa_nil, ↓wa_ex, ↓wa_st, ↓wa_io, ↓fz_nil, ↓fz_ex, ↓fz_io, ↓fy_st, ↓fy_ow, ↓ar_nil, ↓ar_ex, ↓ar_st, ↓ar_io, ↓pu_nil, ↓pu_cons, ↓we_call, ij_nil, ij_ex, ij_st, ij_io, ↓wg_nm, ↓wg_tu, ↓wg_tl, ↓wgs_nil, ↓wgs_cons, ↓we_methS', ↓ls_li, ↓we_meth, ↓we_chain, ↓we_rg1, ↓we_dict0, ↓we_get, ↓isd_d, ↓we_get2, ↓ws_put, ↓we_val, ↓wi_seq, ↓wi_rng, ↓wi_enum, ↓fq_seqL, ↓fq_seqT, ↓wt_yes, ↓rs_nil, ↓rs_cons, ↓wp_nil, ↓wp_cons, ↓we_comp, ↓we_compD, ↓we_comp2, ↓we_sset, ↓we_lset, ↓we_rev, ↓rv_l, ↓rv_t, ↓f_zip, ↓iq_nil, ↓iq_cons, ↓get_0, ↓set_0, ↓slot_0, ↓fz_0, ↓get_1, ↓set_1, ↓slot_1, ↓fz_1, ↓get_2, ↓set_2, ↓slot_2, ↓fz_2, ↓get_3, ↓set_3, ↓slot_3, ↓fz_3, ↓get_4, ↓set_4, ↓slot_4, ↓fz_4, ↓get_5, ↓set_5, ↓slot_5, ↓fz_5, ↓get_6, ↓set_6, ↓slot_6, ↓fz_6, ↓get_7, ↓set_7, ↓slot_7, ↓fz_7, ↓get_8, ↓set_8, ↓slot_8, ↓fz_8, ↓get_9, ↓set_9, ↓slot_9, ↓fz_9, ↓get_10, ↓set_10, ↓slot_10, ↓fz_10, ↓get_11, ↓set_11, ↓slot_11, ↓fz_11, ↓get_12, ↓set_12, ↓slot_12, ↓fz_12, ↓get_13, ↓set_13, ↓slot_13, ↓fz_13, ↓get_14, ↓set_14, ↓slot_14, ↓fz_14, ↓get_15, ↓set_15, ↓slot_15, ↓fz_15, ↓get_16, ↓set_16, ↓slot_16, ↓fz_16, ↓get_17, ↓set_17, ↓slot_17, ↓fz_17, ↓get_18, ↓set_18, ↓slot_18, ↓fz_18, ↓get_19, ↓set_19, ↓slot_19, ↓fz_19, ↓get_20, ↓set_20, ↓slot_20, ↓fz_20, ↓get_21, ↓set_21, ↓slot_21, ↓fz_21, ↓get_22, ↓set_22, ↓slot_22, ↓fz_22, ↓get_23, ↓set_23, ↓slot_23, ↓fz_23, ↓get_24, ↓set_24, ↓slot_24, ↓fz_24, ↓get_25, ↓set_25, ↓slot_25, ↓fz_25, ↓f_sub, ↓f_lt, ↓f_le, ↓f_gt, ↓f_ge, ↓f_add, ↓f_mod, ↓f_fdiv, ↓f_mulL, ↓f_mulR, ↓f_neg, ↓f_abs, ↓f_intI, ↓f_intB, ↓f_lenL, ↓f_lenT, ↓f_tupL, ↓f_tupT, ↓f_lisL, ↓f_lisT, ↓f_isB, ↓f_isNotB, ↓f_isN, ↓f_isNotN, ↓f_all, ↓f_any, ↓f_sum, ↓f_isi_int_int, ↓f_isi_int_bool, ↓f_isi_int_tuple, ↓f_isi_int_str, ↓f_isi_int_list, ↓f_isi_bool_int, ↓f_isi_bool_bool, ↓f_isi_bool_tuple, ↓f_isi_bool_str, ↓f_isi_bool_list, ↓f_isi_tuple_int, ↓f_isi_tuple_bool, ↓f_isi_tuple_tuple, ↓f_isi_tuple_str, ↓f_isi_tuple_list, ↓f_isi_str_int, ↓f_isi_str_bool, ↓f_isi_str_tuple, ↓f_isi_str_str, ↓f_isi_str_list, ↓f_isi_list_int, ↓f_isi_list_bool, ↓f_isi_list_tuple, ↓f_isi_list_str, ↓f_isi_list_list, ↓h_pop, ↓h_pop0, ↓f_rngI, ↓f_ixl0, ↓f_ixl1, ↓f_ixl2, ↓f_ixl3, ↓f_ixl4, ↓f_ixl5, ↓f_ixt0, ↓f_ixt1, ↓f_ixt2, ↓f_ixt3, ↓f_ixt4, ↓f_ixt5, ↓f_sd0, ↓f_sd1, ↓f_sd2, ↓f_sd3, ↓f_sd4, ↓f_sd5, nd_none, nd_bool, nd_int, nd_str, nd_list, nd_tuple, ↓q_lenl, Int.ofNat_lt, List.length_map]
    by_cases hlt : p < found.length
    · rw [itT hlt]
      rcases hz with ⟨I, hb, hpl, hfl⟩ | ⟨hd, _⟩
      · have hd : found.drop p = found[p] :: found.drop (p + 1) := List.drop_eq_getElem_cons hlt
        rw [show ka * kb - p = (ka * kb - (p + 1)) + 1 by omega] at I hb
        have hg : found[p]! = found[p] := getElem!_pos found p hlt
        rw [hd] at I hb
        rw [← hg] at I hb
        obtain ⟨xa, xb, xc, xd, xe, xf⟩ := I.en _ List.mem_cons_self
        have hxa : found[p]!.a < A.length := by rw [hA.len]; exact xa
        have hml := I.ml
        simp only [eq_self, Int.reduceLT, Int.reduceLE, Nat.reduceLT, Nat.reduceLeDiff, Int.reduceToNat, Int.toNat_natCast, ↓ws_seq, ↓sq_nx, ↓sq_rt, ↓sq_rf, ↓sq_bk, ↓sq_ct, ↓lq_nx, ↓lq_ct, ↓lq_bk, ↓lq_rt, ↓lq_rf, ↓ou_nx, ↓ou_rt, ↓ou_rf, ↓ws_next, ↓ws_break, ↓ws_cont, ↓ws_retNone, ↓ws_drop, ↓ws_ret, ↓ws_retF, ↓ws_set, ↓ws_setF, ↓rn_st, ↓rn_ow, ↓ws_retN, ↓sn_st, ↓sn_ow, ↓ws_setN, ↓ite_t, ↓ite_f, ↓ws_if, ↓ws_asg, ↓ws_store, ↓ws_aug, ↓ws_for, ↓ws_while, ↓we_c, ↓we_n, ↓we_op, ↓we_int, ↓wv_nil, ↓wv_ex, ↓wv_nm, ↓re_nil, ↓re_ex, ↓re_nm, ↓st_st, ↓ow_ow, ↓lk_st, ↓lk_ow, ↓bo_bo, ↓in_in, ↓wt_test, ↓wt_tru, ↓tr_bo, ↓tr_in, ↓tr_li, ↓tr_tu, ↓tr_no, ↓wt_not, ↓wt_and, ↓wt_or, ↓we_and, ↓we_or, ↓we_not, ↓we_if, ↓di_nil, ↓di_1, ↓di_2, ↓di_3, ↓di_4, ↓di_5, ↓di_6, ↓di_7, ↓di_8, ↓di_9, ↓di_10, ↓di_11, ↓di_12, ↓we_tup, ↓we_lst, ↓wm_nil, ↓wm_cons, ↓wa_nil, ↓wa_ex, ↓wa_st, ↓wa_io, ↓fz_nil, ↓fz_ex, ↓fz_io, ↓fy_st, ↓fy_ow, ↓ar_nil, ↓ar_ex, ↓ar_st, ↓ar_io, ↓pu_nil, ↓pu_cons, ↓we_call, ij_nil, ij_ex, ij_st, ij_io, ↓wg_nm, ↓wg_tu, ↓wg_tl, ↓wgs_nil, ↓wgs_cons, ↓we_methS', ↓ls_li, ↓we_meth, ↓we_chain, ↓we_rg1, ↓we_dict0, ↓we_get, ↓isd_d, ↓we_get2, ↓ws_put, ↓we_val, ↓wi_seq, ↓wi_rng, ↓wi_enum, ↓fq_seqL, ↓fq_seqT, ↓wt_yes, ↓rs_nil, ↓rs_cons, ↓wp_nil, ↓wp_cons, ↓we_comp, ↓we_compD, ↓we_comp2, ↓we_sset, ↓we_lset, ↓we_rev, ↓rv_l, ↓rv_t, ↓f_zip, ↓iq_nil, ↓iq_cons, ↓get_0, ↓set_0, ↓slot_0, ↓fz_0, ↓get_1, ↓set_1, ↓slot_1, ↓fz_1, ↓get_2, ↓set_2, ↓slot_2, ↓fz_2, ↓get_3, ↓set_3, ↓slot_3, ↓fz_3, ↓get_4, ↓set_4, ↓slot_4, ↓fz_4, ↓get_5, ↓set_5, ↓slot_5, ↓fz_5, ↓get_6, ↓set_6, ↓slot_6, ↓fz_6, ↓get_7, ↓set_7, ↓slot_7, ↓fz_7, ↓get_8, ↓set_8, ↓slot_8, ↓fz_8, ↓get_9, ↓set_9, ↓slot_9, ↓fz_9, ↓get_10, ↓set_10, ↓slot_10, ↓fz_10, ↓get_11, ↓set_11, ↓slot_11, ↓fz_11, ↓get_12, ↓set_12, ↓slot_12, ↓fz_12, ↓get_13, ↓set_13, ↓slot_13, ↓fz_13, ↓get_14, ↓set_14, ↓slot_14, ↓fz_14, ↓get_15, ↓set_15, ↓slot_15, ↓fz_15, ↓get_16, ↓set_16, ↓slot_16, ↓fz_16, ↓get_17, ↓set_17, ↓slot_17, ↓fz_17, ↓get_18, ↓set_18, ↓slot_18, ↓fz_18, ↓get_19, ↓set_19, ↓slot_19, ↓fz_19, ↓get_20, ↓set_20, ↓slot_20, ↓fz_20, ↓get_21, ↓set_21, ↓slot_21, ↓fz_21, ↓get_22, ↓set_22, ↓slot_22, ↓fz_22, ↓get_23, ↓set_23, ↓slot_23, ↓fz_23, ↓get_24, ↓set_24, ↓slot_24, ↓fz_24, ↓get_25, ↓set_25, ↓slot_25, ↓fz_25, ↓f_sub, ↓f_lt, ↓f_le, ↓f_gt, ↓f_ge, ↓f_add, ↓f_mod, ↓f_fdiv, ↓f_mulL, ↓f_mulR, ↓f_neg, ↓f_abs, ↓f_intI, ↓f_intB, ↓f_lenL, ↓f_lenT, ↓f_tupL, ↓f_tupT, ↓f_lisL, ↓f_lisT, ↓f_isB, ↓f_isNotB, ↓f_isN, ↓f_isNotN, ↓f_all, ↓f_any, ↓f_sum, ↓f_isi_int_int, ↓f_isi_int_bool, ↓f_isi_int_tuple, ↓f_isi_int_str, ↓f_isi_int_list, ↓f_isi_bool_int, ↓f_isi_bool_bool, ↓f_isi_bool_tuple, ↓f_isi_bool_str, ↓f_isi_bool_list, ↓f_isi_tuple_int, ↓f_isi_tuple_bool, ↓f_isi_tuple_tuple, ↓f_isi_tuple_str, ↓f_isi_tuple_list, ↓f_isi_str_int, ↓f_isi_str_bool, ↓f_isi_str_tuple, ↓f_isi_str_str, ↓f_isi_str_list, ↓f_isi_list_int, ↓f_isi_list_bool, ↓f_isi_list_tuple, ↓f_isi_list_str, ↓f_isi_list_list, ↓h_pop, ↓h_pop0, ↓f_rngI, ↓f_ixl0, ↓f_ixl1, ↓f_ixl2, ↓f_ixl3, ↓f_ixl4, ↓f_ixl5, ↓f_ixt0, ↓f_ixt1, ↓f_ixt2, ↓f_ixt3, ↓f_ixt4, ↓f_ixt5, ↓f_sd0, ↓f_sd1, ↓f_sd2, ↓f_sd3, ↓f_sd4, ↓f_sd5, nd_none, nd_bool, nd_int, nd_str, nd_list, nd_tuple, ↓q_ixl hlt, ↓q_wgt, en_nat, ↓q_ix hxa, ↓q_len, hA.row' xa, ↓f_rng1 hW]
        rw [show bfs A B words (ka * kb - (p + 1) + 1) (found[p]! :: found.drop (p + 1)) met = match inner A B found[p]!.a found[p]!.b found[p]!.c words 0 met [] with
          | .error w => some (found[p]!.c ++ [w])
          | .ok (met', new) => bfs A B words (ka * kb - (p + 1)) (found.drop (p + 1) ++ new) met' from rfl] at hb
        refine lra_inner hA hB xa xb hw (by omega) (by omega) (by omega) (fun v ρ hv => ?_) fun met' new x10 x11 hv => ?_
        · rw [hv] at hb
          simp only [eq_self, Int.reduceLT, Int.reduceLE, Nat.reduceLT, Nat.reduceLeDiff, Int.reduceToNat, Int.toNat_natCast, ↓ws_seq, ↓sq_nx, ↓sq_rt, ↓sq_rf, ↓sq_bk, ↓sq_ct, ↓lq_nx, ↓lq_ct, ↓lq_bk, ↓lq_rt, ↓lq_rf, ↓ou_nx, ↓ou_rt, ↓ou_rf, ↓ws_next, ↓ws_break, ↓ws_cont, ↓ws_retNone, ↓ws_drop, ↓ws_ret, ↓ws_retF, ↓ws_set, ↓ws_setF, ↓rn_st, ↓rn_ow, ↓ws_retN, ↓sn_st, ↓sn_ow, ↓ws_setN, ↓ite_t, ↓ite_f, ↓ws_if, ↓ws_asg, ↓ws_store, ↓ws_aug, ↓ws_for, ↓ws_while, ↓we_c, ↓we_n, ↓we_op, ↓we_int, ↓wv_nil, ↓wv_ex, ↓wv_nm, ↓re_nil, ↓re_ex, ↓re_nm, ↓st_st, ↓ow_ow, ↓lk_st, ↓lk_ow, ↓bo_bo, ↓in_in, ↓wt_test, ↓wt_tru, ↓tr_bo, ↓tr_in, ↓tr_li, ↓tr_tu, ↓tr_no, ↓wt_not, ↓wt_and, ↓wt_or, ↓we_and, ↓we_or, ↓we_not, ↓we_if, ↓di_nil, ↓di_1, ↓di_2, ↓di_3, ↓di_4, ↓di_5, ↓di_6, ↓di_7, ↓di_8, ↓di_9, ↓di_10, ↓di_11, ↓di_12, ↓we_tup, ↓we_lst, ↓wm_nil, ↓wm_cons, ↓wa_nil, ↓wa_ex, ↓wa_st, ↓wa_io, ↓fz_nil, ↓fz_ex, ↓fz_io, ↓fy_st, ↓fy_ow, ↓ar_nil, ↓ar_ex, ↓ar_st, ↓ar_io, ↓pu_nil, ↓pu_cons, ↓we_call, ij_nil, ij_ex, ij_st, ij_io, ↓wg_nm, ↓wg_tu, ↓wg_tl, ↓wgs_nil, ↓wgs_cons, ↓we_methS', ↓ls_li, ↓we_meth, ↓we_chain, ↓we_rg1, ↓we_dict0, ↓we_get, ↓isd_d, ↓we_get2, ↓ws_put, ↓we_val, ↓wi_seq, ↓wi_rng, ↓wi_enum, ↓fq_seqL, ↓fq_seqT, ↓wt_yes, ↓rs_nil, ↓rs_cons, ↓wp_nil, ↓wp_cons, ↓we_comp, ↓we_compD, ↓we_comp2, ↓we_sset, ↓we_lset, ↓we_rev, ↓rv_l, ↓rv_t, ↓f_zip, ↓iq_nil, ↓iq_cons, ↓get_0, ↓set_0, ↓slot_0, ↓fz_0, ↓get_1, ↓set_1, ↓slot_1, ↓fz_1, ↓get_2, ↓set_2, ↓slot_2, ↓fz_2, ↓get_3, ↓set_3, ↓slot_3, ↓fz_3, ↓get_4, ↓set_4, ↓slot_4, ↓fz_4, ↓get_5, ↓set_5, ↓slot_5, ↓fz_5, ↓get_6, ↓set_6, ↓slot_6, ↓fz_6, ↓get_7, ↓set_7, ↓slot_7, ↓fz_7, ↓get_8, ↓set_8, ↓slot_8, ↓fz_8, ↓get_9, ↓set_9, ↓slot_9, ↓fz_9, ↓get_10, ↓set_10, ↓slot_10, ↓fz_10, ↓get_11, ↓set_11, ↓slot_11, ↓fz_11, ↓get_12, ↓set_12, ↓slot_12, ↓fz_12, ↓get_13, ↓set_13, ↓slot_13, ↓fz_13, ↓get_14, ↓set_14, ↓slot_14, ↓fz_14, ↓get_15, ↓set_15, ↓slot_15, ↓fz_15, ↓get_16, ↓set_16, ↓slot_16, ↓fz_16, ↓get_17, ↓set_17, ↓slot_17, ↓fz_17, ↓get_18, ↓set_18, ↓slot_18, ↓fz_18, ↓get_19, ↓set_19, ↓slot_19, ↓fz_19, ↓get_20, ↓set_20, ↓slot_20, ↓fz_20, ↓get_21, ↓set_21, ↓slot_21, ↓fz_21, ↓get_22, ↓set_22, ↓slot_22, ↓fz_22, ↓get_23, ↓set_23, ↓slot_23, ↓fz_23, ↓get_24, ↓set_24, ↓slot_24, ↓fz_24, ↓get_25, ↓set_25, ↓slot_25, ↓fz_25, ↓f_sub, ↓f_lt, ↓f_le, ↓f_gt, ↓f_ge, ↓f_add, ↓f_mod, ↓f_fdiv, ↓f_mulL, ↓f_mulR, ↓f_neg, ↓f_abs, ↓f_intI, ↓f_intB, ↓f_lenL, ↓f_lenT, ↓f_tupL, ↓f_tupT, ↓f_lisL, ↓f_lisT, ↓f_isB, ↓f_isNotB, ↓f_isN, ↓f_isNotN, ↓f_all, ↓f_any, ↓f_sum, ↓f_isi_int_int, ↓f_isi_int_bool, ↓f_isi_int_tuple, ↓f_isi_int_str, ↓f_isi_int_list, ↓f_isi_bool_int, ↓f_isi_bool_bool, ↓f_isi_bool_tuple, ↓f_isi_bool_str, ↓f_isi_bool_list, ↓f_isi_tuple_int, ↓f_isi_tuple_bool, ↓f_isi_tuple_tuple, ↓f_isi_tuple_str, ↓f_isi_tuple_list, ↓f_isi_str_int, ↓f_isi_str_bool, ↓f_isi_str_tuple, ↓f_isi_str_str, ↓f_isi_str_list, ↓f_isi_list_int, ↓f_isi_list_bool, ↓f_isi_list_tuple, ↓f_isi_list_str, ↓f_isi_list_list, ↓h_pop, ↓h_pop0, ↓f_rngI, ↓f_ixl0, ↓f_ixl1, ↓f_ixl2, ↓f_ixl3, ↓f_ixl4, ↓f_ixl5, ↓f_ixt0, ↓f_ixt1, ↓f_ixt2, ↓f_ixt3, ↓f_ixt4, ↓f_ixt5, ↓f_sd0, ↓f_sd1, ↓f_sd2, ↓f_sd3, ↓f_sd4, ↓f_sd5, nd_none, nd_bool, nd_int, nd_str, nd_list, nd_tuple]
          rw [← hb]
          exact ⟨rfl, trivial⟩
        · rw [hv] at hb
          simp only [eq_self, Int.reduceLT, Int.reduceLE, Nat.reduceLT, Nat.reduceLeDiff, Int.reduceToNat, Int.toNat_natCast, ↓ws_seq, ↓sq_nx, ↓sq_rt, ↓sq_rf, ↓sq_bk, ↓sq_ct, ↓lq_nx, ↓lq_ct, ↓lq_bk, ↓lq_rt, ↓lq_rf, ↓ou_nx, ↓ou_rt, ↓ou_rf, ↓ws_next, ↓ws_break, ↓ws_cont, ↓ws_retNone, ↓ws_drop, ↓ws_ret, ↓ws_retF, ↓ws_set, ↓ws_setF, ↓rn_st, ↓rn_ow, ↓ws_retN, ↓sn_st, ↓sn_ow, ↓ws_setN, ↓ite_t, ↓ite_f, ↓ws_if, ↓ws_asg, ↓ws_store, ↓ws_aug, ↓ws_for, ↓ws_while, ↓we_c, ↓we_n, ↓we_op, ↓we_int, ↓wv_nil, ↓wv_ex, ↓wv_nm, ↓re_nil, ↓re_ex, ↓re_nm, ↓st_st, ↓ow_ow, ↓lk_st, ↓lk_ow, ↓bo_bo, ↓in_in, ↓wt_test, ↓wt_tru, ↓tr_bo, ↓tr_in, ↓tr_li, ↓tr_tu, ↓tr_no, ↓wt_not, ↓wt_and, ↓wt_or, ↓we_and, ↓we_or, ↓we_not, ↓we_if, ↓di_nil, ↓di_1, ↓di_2, ↓di_3, ↓di_4, ↓di_5, ↓di_6, ↓di_7, ↓di_8, ↓di_9, ↓di_10, ↓di_11, ↓di_12, ↓we_tup, ↓we_lst, ↓wm_nil, ↓wm_cons, ↓wa_nil, ↓wa_ex, ↓wa_st, ↓wa_io, ↓fz_nil, ↓fz_ex, ↓fz_io, ↓fy_st, ↓fy_ow, ↓ar_nil, ↓ar_ex, ↓ar_st, ↓ar_io, ↓pu_nil, ↓pu_cons, ↓we_call, ij_nil, ij_ex, ij_st, ij_io, ↓wg_nm, ↓wg_tu, ↓wg_tl, ↓wgs_nil, ↓wgs_cons, ↓we_methS', ↓ls_li, ↓we_meth, ↓we_chain, ↓we_rg1, ↓we_dict0, ↓we_get, ↓isd_d, ↓we_get2, ↓ws_put, ↓we_val, ↓wi_seq, ↓wi_rng, ↓wi_enum, ↓fq_seqL, ↓fq_seqT, ↓wt_yes, ↓rs_nil, ↓rs_cons, ↓wp_nil, ↓wp_cons, ↓we_comp, ↓we_compD, ↓we_comp2, ↓we_sset, ↓we_lset, ↓we_rev, ↓rv_l, ↓rv_t, ↓f_zip, ↓iq_nil, ↓iq_cons, ↓get_0, ↓set_0, ↓slot_0, ↓fz_0, ↓get_1, ↓set_1, ↓slot_1, ↓fz_1, ↓get_2, ↓set_2, ↓slot_2, ↓fz_2, ↓get_3, ↓set_3, ↓slot_3, ↓fz_3, ↓get_4, ↓set_4, ↓slot_4, ↓fz_4, ↓get_5, ↓set_5, ↓slot_5, ↓fz_5, ↓get_6, ↓set_6, ↓slot_6, ↓fz_6, ↓get_7, ↓set_7, ↓slot_7, ↓fz_7, ↓get_8, ↓set_8, ↓slot_8, ↓fz_8, ↓get_9, ↓set_9, ↓slot_9, ↓fz_9, ↓get_10, ↓set_10, ↓slot_10, ↓fz_10, ↓get_11, ↓set_11, ↓slot_11, ↓fz_11, ↓get_12, ↓set_12, ↓slot_12, ↓fz_12, ↓get_13, ↓set_13, ↓slot_13, ↓fz_13, ↓get_14, ↓set_14, ↓slot_14, ↓fz_14, ↓get_15, ↓set_15, ↓slot_15, ↓fz_15, ↓get_16, ↓set_16, ↓slot_16, ↓fz_16, ↓get_17, ↓set_17, ↓slot_17, ↓fz_17, ↓get_18, ↓set_18, ↓slot_18, ↓fz_18, ↓get_19, ↓set_19, ↓slot_19, ↓fz_19, ↓get_20, ↓set_20, ↓slot_20, ↓fz_20, ↓get_21, ↓set_21, ↓slot_21, ↓fz_21, ↓get_22, ↓set_22, ↓slot_22, ↓fz_22, ↓get_23, ↓set_23, ↓slot_23, ↓fz_23, ↓get_24, ↓set_24, ↓slot_24, ↓fz_24, ↓get_25, ↓set_25, ↓slot_25, ↓fz_25, ↓f_sub, ↓f_lt, ↓f_le, ↓f_gt, ↓f_ge, ↓f_add, ↓f_mod, ↓f_fdiv, ↓f_mulL, ↓f_mulR, ↓f_neg, ↓f_abs, ↓f_intI, ↓f_intB, ↓f_lenL, ↓f_lenT, ↓f_tupL, ↓f_tupT, ↓f_lisL, ↓f_lisT, ↓f_isB, ↓f_isNotB, ↓f_isN, ↓f_isNotN, ↓f_all, ↓f_any, ↓f_sum, ↓f_isi_int_int, ↓f_isi_int_bool, ↓f_isi_int_tuple, ↓f_isi_int_str, ↓f_isi_int_list, ↓f_isi_bool_int, ↓f_isi_bool_bool, ↓f_isi_bool_tuple, ↓f_isi_bool_str, ↓f_isi_bool_list, ↓f_isi_tuple_int, ↓f_isi_tuple_bool, ↓f_isi_tuple_tuple, ↓f_isi_tuple_str, ↓f_isi_tuple_list, ↓f_isi_str_int, ↓f_isi_str_bool, ↓f_isi_str_tuple, ↓f_isi_str_str, ↓f_isi_str_list, ↓f_isi_list_int, ↓f_isi_list_bool, ↓f_isi_list_tuple, ↓f_isi_list_str, ↓f_isi_list_list, ↓h_pop, ↓h_pop0, ↓f_rngI, ↓f_ixl0, ↓f_ixl1, ↓f_ixl2, ↓f_ixl3, ↓f_ixl4, ↓f_ixl5, ↓f_ixt0, ↓f_ixt1, ↓f_ixt2, ↓f_ixt3, ↓f_ixt4, ↓f_ixt5, ↓f_sd0, ↓f_sd1, ↓f_sd2, ↓f_sd3, ↓f_sd4, ↓f_sd5, nd_none, nd_bool, nd_int, nd_str, nd_list, nd_tuple]
          refine ⟨hp, _, _, _, _, _, _, _, _, .inl ⟨?_, ?_, ?_, ?_⟩, rfl⟩
          · rw [List.drop_append_of_le_length hlt]
            exact I.step hA hB hv
          · rw [List.drop_append_of_le_length hlt]
            exact hb
          · rw [List.length_append]
            omega
          · obtain ⟨l, e1, e2, _⟩ := inner_spec.2 met' new hv
            rw [e1, e2]
            simp [hfl]
      · have := List.drop_eq_nil_iff.mp hd
        omega
    · rw [itF hlt]
      have hd : found.drop p = [] := List.drop_eq_nil_iff.mpr (by omega)
      refine ⟨hp, _, _, _, _, _, _, _, _, .inr ⟨List.drop_eq_nil_iff.mpr (by omega), ?_⟩, rfl⟩
      rcases hz with ⟨I, hb, _⟩ | ⟨_, hb⟩
      · rw [hd, bfs_nil] at hb
        exact hb.symm
      · exact hb
  · obtain ⟨_, found, met, x6, x7, x8, x9, x10, x11, hz, rfl⟩ := z
    have hr : bfs A B words (ka * kb) [⟨i, j, []⟩] [(i, j)] = none := by
      rcases hz with ⟨I, hb, _⟩ | ⟨_, hb⟩
      · rw [Nat.sub_self] at hb
        exact hb.symm
      · exact hb
    simp only [eq_self, Int.reduceLT, Int.reduceLE, Nat.reduceLT, Nat.reduceLeDiff, Int.reduceToNat, Int.toNat_natCast, ↓ws_seq, ↓sq_nx, ↓sq_rt, ↓sq_rf, ↓sq_bk, ↓sq_ct, ↓lq_nx, ↓lq_ct, ↓lq_bk, ↓lq_rt, ↓lq_rf, ↓ou_nx, ↓ou_rt, ↓ou_rf, ↓ws_next, ↓ws_break, ↓ws_cont, ↓ws_retNone, ↓ws_drop, ↓ws_ret, ↓ws_retF, ↓ws_set, ↓ws_setF, ↓rn_st, ↓rn_ow, ↓ws_retN, ↓sn_st, ↓sn_ow, ↓ws_setN, ↓ite_t, ↓ite_f, ↓ws_if, ↓ws_asg, ↓ws_store, ↓ws_aug, ↓ws_for, ↓ws_while, ↓we_c, ↓we_n, ↓we_op, ↓we_int, ↓wv_nil, ↓wv_ex, ↓wv_nm, ↓re_nil, ↓re_ex, ↓re_nm, ↓st_st, ↓ow_ow, ↓lk_st, ↓lk_ow, ↓bo_bo, ↓in_in, ↓wt_test, ↓wt_tru, ↓tr_bo, ↓tr_in, ↓tr_li, ↓tr_tu, ↓tr_no, ↓wt_not, ↓wt_and, ↓wt_or, ↓we_and, ↓we_or, ↓we_not, ↓we_if, ↓di_nil, ↓di_1, ↓di_2, ↓di_3, ↓di_4, ↓di_5, ↓di_6, ↓di_7, ↓di_8, ↓di_9, ↓di_10, ↓di_11, ↓di_12, ↓we_tup, ↓we_lst, ↓wm_nil, ↓wm_cons, ↓wa_nil, ↓wa_ex, ↓wa_st, ↓wa_io, ↓fz_nil, ↓fz_ex, ↓fz_io, ↓fy_st, ↓fy_ow, ↓ar_nil, ↓ar_ex, ↓ar_st, ↓ar_io, ↓pu_nil, ↓pu_cons, ↓we_call, ij_nil, ij_ex, ij_st, ij_io, ↓wg_nm, ↓wg_tu, ↓wg_tl, ↓wgs_nil, ↓wgs_cons, ↓we_methS', ↓ls_li, ↓we_meth, ↓we_chain, ↓we_rg1, ↓we_dict0, ↓we_get, ↓isd_d, ↓we_get2, ↓ws_put, ↓we_val, ↓wi_seq, ↓wi_rng, ↓wi_enum, ↓fq_seqL, ↓fq_seqT, ↓wt_yes, ↓rs_nil, ↓rs_cons, ↓wp_nil, ↓wp_cons, ↓we_comp, ↓we_compD, ↓we_comp2, ↓we_sset, ↓we_lset, ↓we_rev, ↓rv_l, ↓rv_t, ↓f_zip, ↓iq_nil, ↓iq_cons, ↓get_0, ↓set_0, ↓slot_0, ↓fz_0, ↓get_1, ↓set_1, ↓slot_1, ↓fz_1, ↓get_2, ↓set_2, ↓slot_2, ↓fz_2, ↓get_3, ↓set_3, ↓slot_3, ↓fz_3, ↓get_4, ↓set_4, ↓slot_4, ↓fz_4, ↓get_5, ↓set_5, ↓slot_5, ↓fz_5, ↓get_6, ↓set_6, ↓slot_6, ↓fz_6, ↓get_7, ↓set_7, ↓slot_7, ↓fz_7, ↓get_8, ↓set_8, ↓slot_8, ↓fz_8, ↓get_9, ↓set_9, ↓slot_9, ↓fz_9, ↓get_10, ↓set_10, ↓slot_10, ↓fz_10, ↓get_11, ↓set_11, ↓slot_11, ↓fz_11, ↓get_12, ↓set_12, ↓slot_12, ↓fz_12, ↓get_13, ↓set_13, ↓slot_13, ↓fz_13, ↓get_14, ↓set_14, ↓slot_14, ↓fz_14, ↓get_15, ↓set_15, ↓slot_15, ↓fz_15, ↓get_16, ↓set_16, ↓slot_16, ↓fz_16, ↓get_17, ↓set_17, ↓slot_17, ↓fz_17, ↓get_18, ↓set_18, ↓slot_18, ↓fz_18, ↓get_19, ↓set_19, ↓slot_19, ↓fz_19, ↓get_20, ↓set_20, ↓slot_20, ↓fz_20, ↓get_21, ↓set_21, ↓slot_21, ↓fz_21, ↓get_22, ↓set_22, ↓slot_22, ↓fz_22, ↓get_23, ↓set_23, ↓slot_23, ↓fz_23, ↓get_24, ↓set_24, ↓slot_24, ↓fz_24, ↓get_25, ↓set_25, ↓slot_25, ↓fz_25, ↓f_sub, ↓f_lt, ↓f_le, ↓f_gt, ↓f_ge, ↓f_add, ↓f_mod, ↓f_fdiv, ↓f_mulL, ↓f_mulR, ↓f_neg, ↓f_abs, ↓f_intI, ↓f_intB, ↓f_lenL, ↓f_lenT, ↓f_tupL, ↓f_tupT, ↓f_lisL, ↓f_lisT, ↓f_isB, ↓f_isNotB, ↓f_isN, ↓f_isNotN, ↓f_all, ↓f_any, ↓f_sum, ↓f_isi_int_int, ↓f_isi_int_bool, ↓f_isi_int_tuple, ↓f_isi_int_str, ↓f_isi_int_list, ↓f_isi_bool_int, ↓f_isi_bool_bool, ↓f_isi_bool_tuple, ↓f_isi_bool_str, ↓f_isi_bool_list, ↓f_isi_tuple_int, ↓f_isi_tuple_bool, ↓f_isi_tuple_tuple, ↓f_isi_tuple_str, ↓f_isi_tuple_list, ↓f_isi_str_int, ↓f_isi_str_bool, ↓f_isi_str_tuple, ↓f_isi_str_str, ↓f_isi_str_list, ↓f_isi_list_int, ↓f_isi_list_bool, ↓f_isi_list_tuple, ↓f_isi_list_str, ↓f_isi_list_list, ↓h_pop, ↓h_pop0, ↓f_rngI, ↓f_ixl0, ↓f_ixl1, ↓f_ixl2, ↓f_ixl3, ↓f_ixl4, ↓f_ixl5, ↓f_ixt0, ↓f_ixt1, ↓f_ixt2, ↓f_ixt3, ↓f_ixt4, ↓f_ixt5, ↓f_sd0, ↓f_sd1, ↓f_sd2, ↓f_sd3, ↓f_sd4, ↓f_sd5, nd_none, nd_bool, nd_int, nd_str, nd_list, nd_tuple, hr]
    exact ⟨rfl, trivial⟩)
end
end VK

set_option Elab.async false
set_option linter.all false
set_option maxRecDepth 100000

namespace Gk03
open PySem PySem.Spec PyProof.Rows L2 VS VK

def topS (i : Nat) : Stmt := PySem.Challenge.pw_fewkinds_k03_kinds_by_trees.main.body.getD i (.Pass ⟨0, 0, 0, 0⟩)
abbrev s_value : Stmt := topS 1
abbrev n_value : List Str := ["f", "pairs", "table", "name", "number", "coefficient"]
theorem sc_value : FnScope n_value ["f", "pairs"] (defScope s_value) := ⟨rfl, rfl, rfl, by decide +kernel, rfl, by decide +kernel, by decide +kernel⟩
abbrev s_state_names : Stmt := topS 3
abbrev n_state_names : List Str := ["part", "number"]
theorem sc_state_names : FnScope n_state_names ["part"] (defScope s_state_names) := ⟨rfl, rfl, rfl, by decide +kernel, rfl, by decide +kernel, by decide +kernel⟩
abbrev s_leaf_at : Stmt := topS 6
abbrev n_leaf_at : List Str := ["tree", "pairs"]
theorem sc_leaf_at : FnScope n_leaf_at ["tree", "pairs"] (defScope s_leaf_at) := ⟨rfl, rfl, rfl, by decide +kernel, rfl, by decide +kernel, by decide +kernel⟩
abbrev s_kind_of : Stmt := topS 8
abbrev n_kind_of : List Str := ["part", "tree", "state"]
theorem sc_kind_of : FnScope n_kind_of ["part", "tree", "state"] (defScope s_kind_of) := ⟨rfl, rfl, rfl, by decide +kernel, rfl, by decide +kernel, by decide +kernel⟩
abbrev s_law_start : Stmt := topS 10
abbrev n_law_start : List Str := ["script"]
theorem sc_law_start : FnScope n_law_start ["script"] (defScope s_law_start) := ⟨rfl, rfl, rfl, by decide +kernel, rfl, by decide +kernel, by decide +kernel⟩
abbrev s_law_draw : Stmt := topS 11
abbrev n_law_draw : List Str := ["state", "most", "found", "cell", "mixed"]
theorem sc_law_draw : FnScope n_law_draw ["state", "most"] (defScope s_law_draw) := ⟨rfl, rfl, rfl, by decide +kernel, rfl, by decide +kernel, by decide +kernel⟩
abbrev s_law_is_int : Stmt := topS 12
abbrev n_law_is_int : List Str := ["x"]
theorem sc_law_is_int : FnScope n_law_is_int ["x"] (defScope s_law_is_int) := ⟨rfl, rfl, rfl, by decide +kernel, rfl, by decide +kernel, by decide +kernel⟩
abbrev s_law_form : Stmt := topS 13
abbrev n_law_form : List Str := ["constant", "pairs", "sums", "name", "number"]
theorem sc_law_form : FnScope n_law_form ["constant", "pairs"] (defScope s_law_form) := ⟨rfl, rfl, rfl, by decide +kernel, rfl, by decide +kernel, by decide +kernel⟩
abbrev s_law_tree : Stmt := topS 14
abbrev n_law_tree : List Str := ["state", "names", "deep", "pick", "f", "x"]
theorem sc_law_tree : FnScope n_law_tree ["state", "names", "deep"] (defScope s_law_tree) := ⟨rfl, rfl, rfl, by decide +kernel, rfl, by decide +kernel, by decide +kernel⟩
abbrev s_law_leaf : Stmt := topS 15
abbrev n_law_leaf : List Str := ["tree", "table", "turn", "total", "x", "number"]
theorem sc_law_leaf : FnScope n_law_leaf ["tree", "table"] (defScope s_law_leaf) := ⟨rfl, rfl, rfl, by decide +kernel, rfl, by decide +kernel, by decide +kernel⟩
abbrev s_law : Stmt := topS 16
abbrev n_law : List Str := ["script", "state", "turn", "ints", "names", "tree", "again", "here", "table", "k", "leaf", "found", "x"]
theorem sc_law : FnScope n_law ["script"] (defScope s_law) := ⟨rfl, rfl, rfl, by decide +kernel, rfl, by decide +kernel, by decide +kernel⟩
structure Facts (K : Frag') (mg : Str → Option Value) : Prop where
  b : ∀ y ∈ (["abs", "bool", "int", "isinstance", "len", "list", "range", "sorted", "str", "sum", "tuple", "zip"] : List Str), mg y = none
  d_value : ∃ f fd, mg "value" = some (.ref f) ∧ Fun K "value" "value" s_value f fd ∧ Binds K fd ["f", "pairs"] []
  d_state_names : ∃ f fd, mg "state_names" = some (.ref f) ∧ Fun K "state_names" "state_names" s_state_names f fd ∧ Binds K fd ["part"] []
  d_leaf_at : ∃ f fd, mg "leaf_at" = some (.ref f) ∧ Fun K "leaf_at" "leaf_at" s_leaf_at f fd ∧ Binds K fd ["tree", "pairs"] []
  d_kind_of : ∃ f fd, mg "kind_of" = some (.ref f) ∧ Fun K "kind_of" "kind_of" s_kind_of f fd ∧ Binds K fd ["part", "tree", "state"] []
  d_law_start : ∃ f fd, mg "_law_start" = some (.ref f) ∧ Fun K "_law_start" "_law_start" s_law_start f fd ∧ Binds K fd ["script"] []
  d_law_draw : ∃ f fd, mg "_law_draw" = some (.ref f) ∧ Fun K "_law_draw" "_law_draw" s_law_draw f fd ∧ Binds K fd ["state", "most"] []
  d_law_is_int : ∃ f fd, mg "_law_is_int" = some (.ref f) ∧ Fun K "_law_is_int" "_law_is_int" s_law_is_int f fd ∧ Binds K fd ["x"] []
  d_law_form : ∃ f fd, mg "_law_form" = some (.ref f) ∧ Fun K "_law_form" "_law_form" s_law_form f fd ∧ Binds K fd ["constant", "pairs"] []
  d_law_tree : ∃ f fd, mg "_law_tree" = some (.ref f) ∧ Fun K "_law_tree" "_law_tree" s_law_tree f fd ∧ Binds K fd ["state", "names", "deep"] []
  d_law_leaf : ∃ f fd, mg "_law_leaf" = some (.ref f) ∧ Fun K "_law_leaf" "_law_leaf" s_law_leaf f fd ∧ Binds K fd ["tree", "table"] []
  d_law : ∃ f fd, mg "law" = some (.ref f) ∧ Fun K "law" "law" s_law f fd ∧ Binds K fd ["script"] []
  c_TEST : ∃ t, mg "TEST" = some (.str "test" t)

noncomputable section
def m_value : MS :=
    (mSeq (mSet 2 (mCompD [3, 4] (.tu [3, 4]) (mSeqI (.st 1)) mYes (mN 3) (mN 4)))
    (mRet (mOp addD [(.ex (mOp ixD [(.nm 0), (.ex (mC (.int 0)))])), (.ex (mOp sumD [(.ex (mComp [3, 5] (.tu [3, 5]) (mSeqI (.ex (mOp ixD [(.nm 0), (.ex (mC (.int 1)))]))) mYes (mOp mulD [(.nm 5), (.ex (mGet 2 (mN 3)))])))]))])))
theorem ex_value : ∃ f : List D → Option (D × List D), f = runF (6 : Nat) 2 [] false m_value := ⟨_, rfl⟩
noncomputable def F_value : List D → Option (D × List D) := Classical.choose ex_value
theorem def_value : F_value = runF (6 : Nat) 2 [] false m_value := Classical.choose_spec ex_value
theorem run_value {a0 a1 : D} {R : D → List D → Prop} : @WF F_value [a0, a1] R = @WS m_value [some (.st a0), some (.st a1), none, none, none, none] (outQ [] false R) := by
  rw [def_value]
  exact wf_run rfl
def m_state_names : MS :=
    (mRet (mOp tupleD [(.ex (mComp [1] (.nm 1) (mRng rng1F [(.ex (mOp ixD [(.nm 0), (.ex (mC (.int 0)))]))]) mYes (mOp addD [(.ex (mC (.str "s"))), (.ex (mOp strD [(.nm 1)]))])))]))
theorem ex_state_names : ∃ f : List D → Option (D × List D), f = runF (2 : Nat) 1 [] false m_state_names := ⟨_, rfl⟩
noncomputable def F_state_names : List D → Option (D × List D) := Classical.choose ex_state_names
theorem def_state_names : F_state_names = runF (2 : Nat) 1 [] false m_state_names := Classical.choose_spec ex_state_names
theorem run_state_names {a0 : D} {R : D → List D → Prop} : @WF F_state_names [a0] R = @WS m_state_names [some (.st a0), none] (outQ [] false R) := by
  rw [def_state_names]
  exact wf_run rfl
def b1_leaf_at : MS :=
    (mSet 0 (mIf (mTest (mOp geI [(.ex (mCall F_value [.ex (mOp ixD [(.nm 0), (.ex (mC (.int 1)))]), .st 1])), (.ex (mC (.int 0)))])) (mOp ixD [(.nm 0), (.ex (mC (.int 2)))]) (mOp ixD [(.nm 0), (.ex (mC (.int 3)))])))
def m_leaf_at : MS :=
    (mSeq (whileN (mTest (mOp eqD [(.ex (mOp ixD [(.nm 0), (.ex (mC (.int 0)))])), (.ex (mC (.str "test")))])) b1_leaf_at FUEL)
    (mRetN 0))
theorem ex_leaf_at : ∃ f : List D → Option (D × List D), f = runF (2 : Nat) 2 [] false m_leaf_at := ⟨_, rfl⟩
noncomputable def F_leaf_at : List D → Option (D × List D) := Classical.choose ex_leaf_at
theorem def_leaf_at : F_leaf_at = runF (2 : Nat) 2 [] false m_leaf_at := Classical.choose_spec ex_leaf_at
theorem run_leaf_at {a0 a1 : D} {R : D → List D → Prop} : @WF F_leaf_at [a0, a1] R = @WS m_leaf_at [some (.st a0), some (.st a1)] (outQ [] false R) := by
  rw [def_leaf_at]
  exact wf_run rfl
def m_kind_of : MS :=
    (mRet (mOp ixD [(.ex (mCall F_leaf_at [.st 1, .ex (mOp zipD [(.ex (mCall F_state_names [.st 0])), (.nm 2)])])), (.ex (mC (.int 1)))]))
theorem ex_kind_of : ∃ f : List D → Option (D × List D), f = runF (3 : Nat) 3 [] false m_kind_of := ⟨_, rfl⟩
noncomputable def F_kind_of : List D → Option (D × List D) := Classical.choose ex_kind_of
theorem def_kind_of : F_kind_of = runF (3 : Nat) 3 [] false m_kind_of := Classical.choose_spec ex_kind_of
theorem run_kind_of {a0 a1 a2 : D} {R : D → List D → Prop} : @WF F_kind_of [a0, a1, a2] R = @WS m_kind_of [some (.st a0), some (.st a1), some (.st a2)] (outQ [] false R) := by
  rw [def_kind_of]
  exact wf_run rfl
def b1_law_form : MS :=
    (mPut 2 (mN 3) (mOp addD [(.ex (mGet2 2 (mN 3) (mC (.int 0)))), (.nm 4)]))
def m_law_form : MS :=
    (mSeq (mSetF 2 mDict0)
    (mSeq (mFor (.tu [3, 4]) (mSeqI (.st 1)) b1_law_form)
    (mRet (mTup [(mN 0), (mOp tupleD [(.ex (mComp [3] (.nm 3) (mSeqI (.ex (mOp sortKD [(.nm 2)]))) (mTest (mOp neD [(.ex (mGet 2 (mN 3))), (.ex (mC (.int 0)))])) (mTup [(mN 3), (mGet 2 (mN 3))])))])]))))
theorem ex_law_form : ∃ f : List D → Option (D × List D), f = runF (5 : Nat) 2 [] false m_law_form := ⟨_, rfl⟩
noncomputable def F_law_form : List D → Option (D × List D) := Classical.choose ex_law_form
theorem def_law_form : F_law_form = runF (5 : Nat) 2 [] false m_law_form := Classical.choose_spec ex_law_form
theorem run_law_form {a0 a1 : D} {R : D → List D → Prop} : @WF F_law_form [a0, a1] R = @WS m_law_form [some (.st a0), some (.st a1), none, none, none] (outQ [] false R) := by
  rw [def_law_form]
  exact wf_run rfl
def m_law_tree (r : List D → Option (D × List D)) : MS :=
    (mSeq (mSet 3 (mCall F_law_draw [.io 0, .ex (mC (.int 4))]))
    (mSeq (mIfS (mOr (mTest (mOp eqD [(.nm 2), (.ex (mC (.int 0)))])) (mTest (mOp eqD [(.nm 3), (.ex (mC (.int 0)))])))
    (mSeq (mIfS (mTest (mOp eqD [(.ex (mCall F_law_draw [.io 0, .ex (mC (.int 7))])), (.ex (mC (.int 0)))]))
    (mRet (mTup [(mC (.str "none"))]))
    mNext)
    (mRet (mTup [(mC (.str "kind")), (mCall F_law_draw [.io 0, .ex (mC (.int 6))])])))
    mNext)
    (mSeq (mSet 4 (mCall F_law_form [.ex (mOp subD [(.ex (mCall F_law_draw [.io 0, .ex (mC (.int 13))])), (.ex (mC (.int 6)))]), .ex (mComp [5] (.nm 5) (mSeqI (.st 1)) mYes (mTup [(mN 5), (mOp subD [(.ex (mCall F_law_draw [.io 0, .ex (mC (.int 5))])), (.ex (mC (.int 2)))])]))]))
    (mRet (mTup [(mC (.str "test")), (mN 4), (mCall r [.io 0, .st 1, .ex (mOp subD [(.nm 2), (.ex (mC (.int 1)))])]), (mCall r [.io 0, .st 1, .ex (mOp subD [(.nm 2), (.ex (mC (.int 1)))])])])))))
def G_law_tree : Nat → List D → Option (D × List D)
  | 0 => fun _ => none
  | n + 1 => runF (6 : Nat) 3 [0] false (m_law_tree (G_law_tree n))
theorem ex_law_tree : ∃ f : Nat → List D → Option (D × List D), f = G_law_tree := ⟨_, rfl⟩
noncomputable def F_law_tree : Nat → List D → Option (D × List D) := Classical.choose ex_law_tree
theorem def_law_tree {n : Nat} : F_law_tree (n + 1) = runF (6 : Nat) 3 [0] false (m_law_tree (F_law_tree n)) := by
  rw [show F_law_tree = G_law_tree from Classical.choose_spec ex_law_tree]
  rfl
theorem def0_law_tree : F_law_tree 0 = fun _ => none := by
  rw [show F_law_tree = G_law_tree from Classical.choose_spec ex_law_tree]
  rfl
theorem run_law_tree {n : Nat} {a0 a1 a2 : D} {R : D → List D → Prop} : @WF (F_law_tree (n + 1)) [a0, a1, a2] R = @WS (m_law_tree (F_law_tree n)) [some (.ow a0), some (.st a1), some (.st a2), none, none, none] (outQ [0] false R) := by
  rw [def_law_tree]
  exact wf_run rfl
def b1_law_leaf : MS :=
    (mSeq (mIfS (mTest (mOp neD [(.ex (mOp ixD [(.nm 0), (.ex (mC (.int 0)))])), (.ex (mC (.str "test")))]))
    (mRetN 0)
    mNext)
    (mSeq (mSet 3 (mOp addD [(.ex (mOp ixD [(.ex (mOp ixD [(.nm 0), (.ex (mC (.int 1)))])), (.ex (mC (.int 0)))])), (.ex (mOp sumD [(.ex (mComp [4, 5] (.tu [4, 5]) (mSeqI (.ex (mOp ixD [(.ex (mOp ixD [(.nm 0), (.ex (mC (.int 1)))])), (.ex (mC (.int 1)))]))) mYes (mOp mulD [(.nm 5), (.ex (mGet 1 (mN 4)))])))]))]))
    (mSet 0 (mOp ixD [(.nm 0), (.ex (mOp subD [(.ex (mC (.int 3))), (.ex (mOp intD [(.ex (mOp geI [(.nm 3), (.ex (mC (.int 0)))]))]))]))]))))
def m_law_leaf : MS :=
    (mSeq (mFor (.nm 2) (mRng rng1F [(.ex (mC (.int 9)))]) b1_law_leaf)
    (mRetN 0))
theorem ex_law_leaf : ∃ f : List D → Option (D × List D), f = runF (6 : Nat) 2 [] false m_law_leaf := ⟨_, rfl⟩
noncomputable def F_law_leaf : List D → Option (D × List D) := Classical.choose ex_law_leaf
theorem def_law_leaf : F_law_leaf = runF (6 : Nat) 2 [] false m_law_leaf := Classical.choose_spec ex_law_leaf
theorem run_law_leaf {a0 a1 : D} {R : D → List D → Prop} : @WF F_law_leaf [a0, a1] R = @WS m_law_leaf [some (.st a0), some (.st a1), none, none, none, none] (outQ [] false R) := by
  rw [def_law_leaf]
  exact wf_run rfl
def b1_law : MS :=
    (mPut 8 (mOp ixD [(.nm 4), (.nm 9)]) (mOp ixD [(.nm 7), (.nm 9)]))
def b2_law : MS :=
    (mSeq (mSet 7 (mOp tupleD [(.ex (mComp [12] (.nm 12) (mSeqI (.st 4)) mYes (mOp subD [(.ex (mCall F_law_draw [.io 1, .ex (mC (.int 19))])), (.ex (mC (.int 9)))])))]))
    (mSeq (mSetF 8 mDict0)
    (mSeq (mFor (.nm 9) (mRng rng1F [(.nm 3)]) b1_law)
    (mSeq (mSet 10 (mCall F_law_leaf [.st 5, .st 8]))
    (mIfS (mTest (mOp eqD [(.ex (mOp ixD [(.nm 10), (.ex (mC (.int 0)))])), (.ex (mC (.str "kind")))]))
    (mSeq (mSet 11 (mCall F_kind_of [.ex (mTup [(mN 3), (mTup [(mTup [(mC (.str "wa")), (mTup [])])]), (mN 7)]), .st 5, .st 7]))
    (mIfS (mOr (mNot (mTru (.ex (mCall F_law_is_int [.st 11])))) (mTest (mOp neD [(.nm 11), (.ex (mOp ixD [(.nm 10), (.ex (mC (.int 1)))]))])))
    (mRet (mC (.bool false)))
    mNext))
    mNext)))))
def b3_law : MS :=
    (mSeq (mSet 3 (mCall F_law_draw [.io 1, .ex (mC (.int 4))]))
    (mSeq (mSetF 4 (mComp [9] (.nm 9) (mRng rng1F [(.nm 3)]) mYes (mOp addD [(.ex (mC (.str "s"))), (.ex (mOp strD [(.nm 9)]))])))
    (mSeq (mSet 5 (mCall (F_law_tree 10) [.io 1, .st 4, .ex (mC (.int 4))]))
    (mFor (.nm 6) (mRng rng1F [(.ex (mC (.int 12)))]) b2_law))))
def m_law : MS :=
    (mSeq (mSetF 1 (mCall F_law_start [.st 0]))
    (mSeq (mFor (.nm 2) (mRng rng1F [(.ex (mC (.int 3)))]) b3_law)
    (mRet (mC (.bool true)))))
theorem ex_law : ∃ f : List D → Option (D × List D), f = runF (13 : Nat) 1 [] false m_law := ⟨_, rfl⟩
noncomputable def F_law : List D → Option (D × List D) := Classical.choose ex_law
theorem def_law : F_law = runF (13 : Nat) 1 [] false m_law := Classical.choose_spec ex_law
theorem run_law {a0 : D} {R : D → List D → Prop} : @WF F_law [a0] R = @WS m_law [some (.st a0), none, none, none, none, none, none, none, none, none, none, none, none] (outQ [] false R) := by
  rw [def_law]
  exact wf_run rfl
end
section
variable {P : Program} {w : World} {K : Frag'} {mg : Str → Option Value} {base : Heap}
theorem fn_value (Z : Facts K mg) : Fn P w K mg base 1 "value" ["f", "pairs"] [] false F_value := by
  rw [def_value]
  obtain ⟨f, fd, hm, F, hb⟩ := Z.d_value
  refine fn_def (N := n_value) (k := 0) (m := m_value) F sc_value hm hb fun cdv A outer s H E C hC hr => ?_
  exact
      (ss_cons (s_set sc_value.nd (i := 2) rfl (.inr rfl) (nio hC (by decide)) (e_of (f_dc (own := [("name", 3), ("number", 4)]) rfl sc_value.nd (i_seq (a := .st 1) (pv 1) (nioA hC (by decide)) rfl) (blkOk_by (N := n_value) (sc := defScope s_value) (own := [("name", 3), ("number", 4)]) (by decide +kernel)) (by decide) (nioL hC (by decide)) (fun _ _ _ _ _ => (g_tu rfl sc_value.nd (gn_cons (i := 3) rfl (Or.inl rfl) (nio hC (by decide)) (gn_cons (i := 4) rfl (Or.inl rfl) (nio hC (by decide)) gn_nil)))) (fun _ _ _ _ _ => ts_nil) (fun _ _ _ _ _ => (e_nm (pv 3))) (fun _ _ _ _ _ => (e_nm (pv 4))))))
      (ss_one (s_ret (e_op op_addD add_ok (o_ex (e_ix ix_seq ix_ok (o_nm (pv 0)) (o_ex e_int) (fun _ _ => rfl))) (o_ex (e_callB (cr_sum rfl) sum_ok (by rfl) (Z.b "sum" (by decide)) (by decide +kernel) (os_cons (o_ex (e_of (f_lc (own := [("name", 3), ("coefficient", 5)]) rfl sc_value.nd (i_seq (a := .ex (mOp ixD [(.nm 0), (.ex (mC (.int 1)))])) (e_ix ix_seq ix_ok (o_nm (pv 0)) (o_ex e_int) (fun _ _ => rfl)) (nioA hC (by decide)) rfl) (blkOk_by (N := n_value) (sc := defScope s_value) (own := [("name", 3), ("coefficient", 5)]) (by decide +kernel)) (by decide) (nioL hC (by decide)) (fun _ _ _ _ _ => (g_tu rfl sc_value.nd (gn_cons (i := 3) rfl (Or.inl rfl) (nio hC (by decide)) (gn_cons (i := 5) rfl (Or.inl rfl) (nio hC (by decide)) gn_nil)))) (fun _ _ _ _ _ => ts_nil) (fun _ _ _ _ _ => (e_op op_mul mul_ok (o_nm (pv 5)) (o_ex (e_dget (un65 hr) (pv 2) (e_nm (pv 3)) (fun _ _ => rfl)))))))) os_nil)))))))
theorem fn_state_names (Z : Facts K mg) : Fn P w K mg base 1 "state_names" ["part"] [] false F_state_names := by
  rw [def_state_names]
  obtain ⟨f, fd, hm, F, hb⟩ := Z.d_state_names
  refine fn_def (N := n_state_names) (k := 0) (m := m_state_names) F sc_state_names hm hb fun cdv A outer s H E C hC hr => ?_
  exact
      (ss_one (s_ret (e_callTy call_tuple_of tuple_ok (by rfl) (Z.b "tuple" (by decide)) (by decide +kernel) (os_cons (o_ex (e_of (f_lc (own := [("number", 1)]) rfl sc_state_names.nd (i_rng1 (by rfl) (Z.b "range" (by decide)) (os_cons (o_ex (e_ix ix_seq ix_ok (o_nm (pv 0)) (o_ex e_int) (fun _ _ => rfl))) os_nil)) (blkOk_by (N := n_state_names) (sc := defScope s_state_names) (own := [("number", 1)]) (by decide +kernel)) (by decide) (nioL hC (by decide)) (fun _ _ _ _ _ => (g_nm sc_state_names.nd (i := 1) rfl (Or.inl rfl) (nio hC (by decide)))) (fun _ _ _ _ _ => ts_nil) (fun _ _ _ _ _ => (e_op op_addD add_ok (o_ex e_str) (o_ex (e_callTy call_str_int str_ok (by rfl) (Z.b "str" (by decide)) (by decide +kernel) (os_cons (o_nm (pv 1)) os_nil)))))))) os_nil))))
theorem fn_leaf_at (Z : Facts K mg) : Fn P w K mg base 2 "leaf_at" ["tree", "pairs"] [] false F_leaf_at := by
  rw [def_leaf_at]
  obtain ⟨f, fd, hm, F, hb⟩ := Z.d_leaf_at
  refine fn_def (N := n_leaf_at) (k := 1) (m := m_leaf_at) F sc_leaf_at hm hb fun cdv A outer s H E C hC hr => ?_
  exact
      (ss_cons (s_while FUEL PassesOwn.never (t_cmp (op_eqD hr.units) eq_ok (o_ex (e_ix ix_seq ix_ok (o_nm (pv 0)) (o_ex e_int) (fun _ _ => rfl))) (o_ex (Z.c_TEST.elim fun t h => e_glob (v := .str "test") (by rfl) h ⟨t, rfl⟩ (.str _))) (nomark _))
      (ss_one (s_set sc_leaf_at.nd (i := 0) rfl (.inl rfl) (nio hC (by decide)) (v_if (t_cmp op_ge geI_ok (o_ex (e_call (fn_value Z) (hr.mono (by decide)) (by rfl) (as_ex (e_ix ix_seq ix_ok (o_nm (pv 0)) (o_ex e_int) (fun _ _ => rfl)) (as_st (pv 1) as_nil)) (nioA hC (by decide)) rfl (by decide) rfl)) (o_ex e_int) (nomark _)) (e_ix ix_seq ix_ok (o_nm (pv 0)) (o_ex e_int) (fun _ _ => rfl)) (e_ix ix_seq ix_ok (o_nm (pv 0)) (o_ex e_int) (fun _ _ => rfl))))))
      (ss_one (s_retN (pv 0) (nio hC (by decide)))))
theorem fn_kind_of (Z : Facts K mg) : Fn P w K mg base 3 "kind_of" ["part", "tree", "state"] [] false F_kind_of := by
  rw [def_kind_of]
  obtain ⟨f, fd, hm, F, hb⟩ := Z.d_kind_of
  refine fn_def (N := n_kind_of) (k := 2) (m := m_kind_of) F sc_kind_of hm hb fun cdv A outer s H E C hC hr => ?_
  exact
      (ss_one (s_ret (e_ix ix_seq ix_ok (o_ex (e_call (fn_leaf_at Z) (hr.mono (by decide)) (by rfl) (as_st (pv 1) (as_ex (e_tupZip (by rfl) (by rfl) (Z.b "tuple" (by decide)) (by rfl) (Z.b "zip" (by decide)) (os_cons (o_ex (e_call (fn_state_names Z) (hr.mono (by decide)) (by rfl) (as_st (pv 0) as_nil) (nioA hC (by decide)) rfl (by decide) rfl)) (os_cons (o_nm (pv 2)) os_nil))) as_nil)) (nioA hC (by decide)) rfl (by decide) rfl)) (o_ex e_int) (fun _ _ => rfl))))
theorem fn_law_start (Z : Facts K mg) : Fn P w K mg base 1 "_law_start" ["script"] [] true F_law_start := by
  rw [def_law_start]
  obtain ⟨f, fd, hm, F, hb⟩ := Z.d_law_start
  refine fn_def (N := n_law_start) (k := 0) (m := m_law_start) F sc_law_start hm hb fun cdv A outer s H E C hC hr => ?_
  exact
      (ss_one (s_retF (f_lst (ms_cons (e_of (f_callTy call_list_of list_fr (by rfl) (Z.b "list" (by decide)) boot_list (os_cons (o_nm (pv 0)) os_nil))) (ms_cons e_int (ms_cons e_int (ms_cons e_int ms_nil)))))))
theorem fn_law_draw (Z : Facts K mg) : Fn P w K mg base 1 "_law_draw" ["state", "most"] [0] false F_law_draw := by
  rw [def_law_draw]
  obtain ⟨f, fd, hm, F, hb⟩ := Z.d_law_draw
  refine fn_def (N := n_law_draw) (k := 0) (m := m_law_draw) F sc_law_draw hm hb fun cdv A outer s H E C hC hr => ?_
  exact
      (ss_cons (s_store (pv 0) e_int (e_op op_addD add_ok (o_ex (e_ix ix_seq ix_ok (o_nm (pv 0)) (o_ex e_int) (fun _ _ => rfl))) (o_ex e_int)))
      (ss_cons (s_if (t_cmp op_gt gtI_ok (o_ex (e_ix ix_seq ix_ok (o_nm (pv 0)) (o_ex e_int) (fun _ _ => rfl))) (o_ex e_int) (nomark _))
      (ss_cons (s_set sc_law_draw.nd (i := 2) rfl (.inl rfl) (nio hC (by decide)) (e_op op_mod mod_ok (o_ex (e_callTy call_int1 int_ok (by rfl) (Z.b "int" (by decide)) (by decide +kernel) (os_cons (o_ex (e_ix ix_seq ix_ok (o_nm (pv 0)) (o_ex e_int) (fun _ _ => rfl))) os_nil))) (o_nm (pv 1))))
      (ss_cons (s_store (pv 0) e_int (e_op op_fdiv fdiv_ok (o_ex (e_ix ix_seq ix_ok (o_nm (pv 0)) (o_ex e_int) (fun _ _ => rfl))) (o_nm (pv 1))))
      (ss_one (s_retN (pv 2) (nio hC (by decide))))))
      ss_nil)
      (ss_cons (s_set sc_law_draw.nd (i := 3) rfl (.inl rfl) (nio hC (by decide)) e_int)
      (ss_cons (s_if (t_cmp op_gt gtI_ok (o_ex (e_callB call_lenV len_ok (by rfl) (Z.b "len" (by decide)) PySem.boot_len (os_cons (o_ex (e_ix ix_seq ix_ok (o_nm (pv 0)) (o_ex e_int) (fun _ _ => rfl))) os_nil))) (o_ex e_int) (nomark _))
      (ss_one (s_set sc_law_draw.nd (i := 3) rfl (.inl rfl) (nio hC (by decide)) (e_callB call_abs abs_ok (by rfl) (Z.b "abs" (by decide)) (by decide +kernel) (os_cons (o_ex (e_ix ix_seq ix_ok (o_ex (e_ix ix_seq ix_ok (o_nm (pv 0)) (o_ex e_int) (fun _ _ => rfl))) (o_ex (e_op op_mod mod_ok (o_ex (e_callTy call_int1 int_ok (by rfl) (Z.b "int" (by decide)) (by decide +kernel) (os_cons (o_ex (e_ix ix_seq ix_ok (o_nm (pv 0)) (o_ex e_int) (fun _ _ => rfl))) os_nil))) (o_ex (e_callB call_lenV len_ok (by rfl) (Z.b "len" (by decide)) PySem.boot_len (os_cons (o_ex (e_ix ix_seq ix_ok (o_nm (pv 0)) (o_ex e_int) (fun _ _ => rfl))) os_nil))))) (fun _ _ => rfl))) os_nil))))
      ss_nil)
      (ss_cons (s_store (pv 0) e_int (e_op op_addD add_ok (o_ex (e_ix ix_seq ix_ok (o_nm (pv 0)) (o_ex e_int) (fun _ _ => rfl))) (o_ex e_int)))
      (ss_cons (s_if (t_cmp op_ge geI_ok (o_nm (pv 3)) (o_ex (e_op op_pow pow_ok (o_ex e_int) (o_ex e_int))) (nomark _))
      (ss_cons (s_store (pv 0) e_int (e_op op_fdiv fdiv_ok (o_nm (pv 3)) (o_nm (pv 1))))
      (ss_one (s_ret (e_op op_mod mod_ok (o_ex (e_callTy call_int1 int_ok (by rfl) (Z.b "int" (by decide)) (by decide +kernel) (os_cons (o_nm (pv 3)) os_nil))) (o_nm (pv 1))))))
      ss_nil)
      (ss_cons (s_set sc_law_draw.nd (i := 4) rfl (.inl rfl) (nio hC (by decide)) (e_op op_mod mod_ok (o_ex (e_callTy call_int1 int_ok (by rfl) (Z.b "int" (by decide)) (by decide +kernel) (os_cons (o_ex (e_op op_addD add_ok (o_ex (e_op op_mul mul_ok (o_ex (e_op op_addD add_ok (o_nm (pv 3)) (o_ex e_int))) (o_ex e_int))) (o_ex (e_op op_mul mul_ok (o_ex (e_ix ix_seq ix_ok (o_nm (pv 0)) (o_ex e_int) (fun _ _ => rfl))) (o_ex e_int))))) os_nil))) (o_ex e_int)))
      (ss_cons (s_set sc_law_draw.nd (i := 4) rfl (.inl rfl) (nio hC (by decide)) (e_op op_mod mod_ok (o_ex (e_callTy call_int1 int_ok (by rfl) (Z.b "int" (by decide)) (by decide +kernel) (os_cons (o_ex (e_op op_addD add_ok (o_ex (e_op op_addD add_ok (o_ex (e_op op_mul mul_ok (o_nm (pv 4)) (o_ex e_int))) (o_ex (e_op op_fdiv fdiv_ok (o_nm (pv 3)) (o_ex e_int))))) (o_ex (e_ix ix_seq ix_ok (o_nm (pv 0)) (o_ex e_int) (fun _ _ => rfl))))) os_nil))) (o_ex e_int)))
      (ss_one (s_ret (e_op op_mod mod_ok (o_ex (e_op op_fdiv fdiv_ok (o_nm (pv 4)) (o_ex e_int))) (o_nm (pv 1)))))))))))))
theorem fn_law_is_int (Z : Facts K mg) : Fn P w K mg base 1 "_law_is_int" ["x"] [] false F_law_is_int := by
  rw [def_law_is_int]
  obtain ⟨f, fd, hm, F, hb⟩ := Z.d_law_is_int
  refine fn_def (N := n_law_is_int) (k := 0) (m := m_law_is_int) F sc_law_is_int hm hb fun cdv A outer s H E C hC hr => ?_
  exact
      (ss_one (s_ret (v_and (e_isi (T := "int") (o_nm (pv 0)) (by rfl) (Z.b "isinstance" (by decide)) (by rfl) (Z.b "int" (by decide)) (by decide +kernel)) (v_one (v_not (e_isi (T := "bool") (o_nm (pv 0)) (by rfl) (Z.b "isinstance" (by decide)) (by rfl) (Z.b "bool" (by decide)) (by decide +kernel)))))))
theorem fn_law_form (Z : Facts K mg) : Fn P w K mg base 1 "_law_form" ["constant", "pairs"] [] false F_law_form := by
  rw [def_law_form]
  obtain ⟨f, fd, hm, F, hb⟩ := Z.d_law_form
  refine fn_def (N := n_law_form) (k := 0) (m := m_law_form) F sc_law_form hm hb fun cdv A outer s H E C hC hr => ?_
  exact
      (ss_cons (s_setF sc_law_form.nd (i := 2) rfl (.inr rfl) (nio hC (by decide)) f_dict0)
      (ss_cons (s_for PassesOwn.never rfl (i_seq (a := .st 1) (pv 1) (nioA hC (by decide)) rfl) (g_tu rfl sc_law_form.nd (gn_cons (i := 3) rfl (.inl rfl) (nio hC (by decide)) (gn_cons (i := 4) rfl (.inl rfl) (nio hC (by decide)) gn_nil)))
      (ss_one (s_put (un65 hr) (pv 2) (e_nm (pv 3)) (e_op op_addD add_ok (o_ex (e_dget2 (un65 hr) (pv 2) (e_nm (pv 3)) e_int ⟨by rfl, by rfl, by rfl, by rfl⟩)) (o_nm (pv 4))))))
      (ss_one (s_ret (e_tup (ms_cons (e_nm (pv 0)) (ms_cons (e_callTy call_tuple_of tuple_ok (by rfl) (Z.b "tuple" (by decide)) (by decide +kernel) (os_cons (o_ex (e_of (f_lc (own := [("name", 3)]) rfl sc_law_form.nd (i_seq (a := .ex (mOp sortKD [(.nm 2)])) (e_of (f_callB (call_sortedD (by rfl)) sortK_fr (by rfl) (Z.b "sorted" (by decide)) (by decide +kernel) (os_cons (o_nm (pv 2)) os_nil))) (nioA hC (by decide)) rfl) (blkOk_by (N := n_law_form) (sc := defScope s_law_form) (own := [("name", 3)]) (by decide +kernel)) (by decide) (nioL hC (by decide)) (fun _ _ _ _ _ => (g_nm sc_law_form.nd (i := 3) rfl (Or.inl rfl) (nio hC (by decide)))) (fun _ _ _ _ _ => (ts_one (t_cmp (op_neD hr.units) ne_ok (o_ex (e_dget (un65 hr) (pv 2) (e_nm (pv 3)) (fun _ _ => rfl))) (o_ex e_int) (nomark _)))) (fun _ _ _ _ _ => (e_tup (ms_cons (e_nm (pv 3)) (ms_cons (e_dget (un65 hr) (pv 2) (e_nm (pv 3)) (fun _ _ => rfl)) ms_nil))))))) os_nil)) ms_nil)))))))
theorem fn_law_tree (Z : Facts K mg) : ∀ n : Nat, Fn P w K mg base (1 + n) "_law_tree" ["state", "names", "deep"] [0] false (F_law_tree n)
  | 0 => by
    rw [def0_law_tree]
    obtain ⟨f, fd, hm, F, hb⟩ := Z.d_law_tree
    exact fn_none (N := n_law_tree) F hm hb
  | n + 1 => by
    rw [def_law_tree]
    obtain ⟨f, fd, hm, F, hb⟩ := Z.d_law_tree
    have hr0 := fn_law_tree Z n
    refine fn_def (N := n_law_tree) (k := 1 + n) (m := m_law_tree (F_law_tree n)) F sc_law_tree hm hb fun cdv A outer s H E C hC hr => ?_
    have hrr := hr.mono (show 1 + n ≤ 1 + n from Nat.le_refl _)
    have hr : Room 1 _ := hr.mono (by omega)
    exact
      (ss_cons (s_set sc_law_tree.nd (i := 3) rfl (.inl rfl) (nio hC (by decide)) (e_call (fn_law_draw Z) (hr.mono (by decide)) (by rfl) (as_io (pv 0) (as_ex e_int as_nil)) (nioA hC (by decide)) rfl (by decide) rfl))
      (ss_cons (s_if (w_pt (w_or (t_cmp (op_eqD hr.units) eq_ok (o_nm (pv 2)) (o_ex e_int) (nomark _)) (w_or1 (t_cmp (op_eqD hr.units) eq_ok (o_nm (pv 3)) (o_ex e_int) (nomark _)))))
      (ss_cons (s_if (t_cmp (op_eqD hr.units) eq_ok (o_ex (e_call (fn_law_draw Z) (hr.mono (by decide)) (by rfl) (as_io (pv 0) (as_ex e_int as_nil)) (nioA hC (by decide)) rfl (by decide) rfl)) (o_ex e_int) (nomark _))
      (ss_one (s_ret (e_tup (ms_cons e_str ms_nil))))
      ss_nil)
      (ss_one (s_ret (e_tup (ms_cons e_str (ms_cons (e_call (fn_law_draw Z) (hr.mono (by decide)) (by rfl) (as_io (pv 0) (as_ex e_int as_nil)) (nioA hC (by decide)) rfl (by decide) rfl) ms_nil))))))
      ss_nil)
      (ss_cons (s_set sc_law_tree.nd (i := 4) rfl (.inl rfl) (nio hC (by decide)) (e_call (fn_law_form Z) (hr.mono (by decide)) (by rfl) (as_ex (e_op op_sub sub_ok (o_ex (e_call (fn_law_draw Z) (hr.mono (by decide)) (by rfl) (as_io (pv 0) (as_ex e_int as_nil)) (nioA hC (by decide)) rfl (by decide) rfl)) (o_ex e_int)) (as_ex (e_of (f_lc (own := [("x", 5)]) rfl sc_law_tree.nd (i_seq (a := .st 1) (pv 1) (nioA hC (by decide)) rfl) (blkOk_by (N := n_law_tree) (sc := defScope s_law_tree) (own := [("x", 5)]) (by decide +kernel)) (by decide) (nioL hC (by decide)) (fun _ _ _ _ _ => (g_nm sc_law_tree.nd (i := 5) rfl (Or.inl rfl) (nio hC (by decide)))) (fun _ _ _ _ _ => ts_nil) (fun _ _ _ _ _ => (e_tup (ms_cons (e_nm (pv 5)) (ms_cons (e_op op_sub sub_ok (o_ex (e_call (fn_law_draw Z) (hr.mono (by decide)) (by rfl) (as_io (pv 0) (as_ex e_int as_nil)) (nioA hC (by decide)) rfl (by decide) rfl)) (o_ex e_int)) ms_nil)))))) as_nil)) (nioA hC (by decide)) rfl (by decide) rfl))
      (ss_one (s_ret (e_tup (ms_cons e_str (ms_cons (e_nm (pv 4)) (ms_cons (e_call hr0 hrr (by rfl) (as_io (pv 0) (as_st (pv 1) (as_ex (e_op op_sub sub_ok (o_nm (pv 2)) (o_ex e_int)) as_nil))) (nioA hC (by decide)) rfl (by decide) rfl) (ms_cons (e_call hr0 hrr (by rfl) (as_io (pv 0) (as_st (pv 1) (as_ex (e_op op_sub sub_ok (o_nm (pv 2)) (o_ex e_int)) as_nil))) (nioA hC (by decide)) rfl (by decide) rfl) ms_nil))))))))))
theorem fn_law_leaf (Z : Facts K mg) : Fn P w K mg base 1 "_law_leaf" ["tree", "table"] [] false F_law_leaf := by
  rw [def_law_leaf]
  obtain ⟨f, fd, hm, F, hb⟩ := Z.d_law_leaf
  refine fn_def (N := n_law_leaf) (k := 0) (m := m_law_leaf) F sc_law_leaf hm hb fun cdv A outer s H E C hC hr => ?_
  exact
      (ss_cons (s_for PassesOwn.never rfl (i_rng1 (by rfl) (Z.b "range" (by decide)) (os_cons (o_ex e_int) os_nil)) (g_nm sc_law_leaf.nd (i := 2) rfl (.inl rfl) (nio hC (by decide)))
      (ss_cons (s_if (t_cmp (op_neD hr.units) ne_ok (o_ex (e_ix ix_seq ix_ok (o_nm (pv 0)) (o_ex e_int) (fun _ _ => rfl))) (o_ex e_str) (nomark _))
      (ss_one (s_retN (pv 0) (nio hC (by decide))))
      ss_nil)
      (ss_cons (s_set sc_law_leaf.nd (i := 3) rfl (.inl rfl) (nio hC (by decide)) (e_op op_addD add_ok (o_ex (e_ix ix_seq ix_ok (o_ex (e_ix ix_seq ix_ok (o_nm (pv 0)) (o_ex e_int) (fun _ _ => rfl))) (o_ex e_int) (fun _ _ => rfl))) (o_ex (e_callB (cr_sum rfl) sum_ok (by rfl) (Z.b "sum" (by decide)) (by decide +kernel) (os_cons (o_ex (e_of (f_lc (own := [("x", 4), ("number", 5)]) rfl sc_law_leaf.nd (i_seq (a := .ex (mOp ixD [(.ex (mOp ixD [(.nm 0), (.ex (mC (.int 1)))])), (.ex (mC (.int 1)))])) (e_ix ix_seq ix_ok (o_ex (e_ix ix_seq ix_ok (o_nm (pv 0)) (o_ex e_int) (fun _ _ => rfl))) (o_ex e_int) (fun _ _ => rfl)) (nioA hC (by decide)) rfl) (blkOk_by (N := n_law_leaf) (sc := defScope s_law_leaf) (own := [("x", 4), ("number", 5)]) (by decide +kernel)) (by decide) (nioL hC (by decide)) (fun _ _ _ _ _ => (g_tu rfl sc_law_leaf.nd (gn_cons (i := 4) rfl (Or.inl rfl) (nio hC (by decide)) (gn_cons (i := 5) rfl (Or.inl rfl) (nio hC (by decide)) gn_nil)))) (fun _ _ _ _ _ => ts_nil) (fun _ _ _ _ _ => (e_op op_mul mul_ok (o_nm (pv 5)) (o_ex (e_dget (un65 hr) (pv 1) (e_nm (pv 4)) (fun _ _ => rfl)))))))) os_nil)))))
      (ss_one (s_set sc_law_leaf.nd (i := 0) rfl (.inl rfl) (nio hC (by decide)) (e_ix ix_seq ix_ok (o_nm (pv 0)) (o_ex (e_op op_sub sub_ok (o_ex e_int) (o_ex (e_callTy call_int1 int_ok (by rfl) (Z.b "int" (by decide)) (by decide +kernel) (os_cons (o_ex (e_cmp op_ge geI_ok (o_nm (pv 3)) (o_ex e_int) (nomark _))) os_nil))))) (fun _ _ => rfl)))))))
      (ss_one (s_retN (pv 0) (nio hC (by decide)))))
theorem ok_law (Z : Facts K mg) {f : Addr} {fd : FuncData} (F : Fun K "law" "law" s_law f fd) : FnOk P w K mg base CX0 13 f fd ["script"] (spF K 1 [] false F_law) := by
  rw [def_law]
  refine ok_def (N := n_law) (k := 12) (m := m_law) F sc_law fun cdv A outer s H E C hC hr => ?_
  exact
      (ss_cons (s_setF sc_law.nd (i := 1) rfl (.inr rfl) (nio hC (by decide)) (f_call (fn_law_start Z) (hr.mono (by decide)) (by rfl) (as_st (pv 0) as_nil) (nioA hC (by decide)) rfl (by decide) rfl))
      (ss_cons (s_for PassesOwn.never rfl (i_rng1 (by rfl) (Z.b "range" (by decide)) (os_cons (o_ex e_int) os_nil)) (g_nm sc_law.nd (i := 2) rfl (.inl rfl) (nio hC (by decide)))
      (ss_cons (s_set sc_law.nd (i := 3) rfl (.inl rfl) (nio hC (by decide)) (e_call (fn_law_draw Z) (hr.mono (by decide)) (by rfl) (as_io (pv 1) (as_ex e_int as_nil)) (nioA hC (by decide)) rfl (by decide) rfl))
      (ss_cons (s_setLc (i := 4) (own := [("k", 9)]) rfl sc_law.nd rfl rfl (nio hC (by decide)) (sw_true rfl rfl rfl (by decide +kernel)) (i_rng1 (by rfl) (Z.b "range" (by decide)) (os_cons (o_nm (pv 3)) os_nil)) (blkOk_by (N := n_law) (sc := defScope s_law) (own := [("k", 9)]) (by decide +kernel)) (by decide) (nioL hC (by decide)) (fun _ _ _ _ _ => (g_nm sc_law.nd (i := 9) rfl (Or.inl rfl) (nio hC (by decide)))) (fun _ _ _ _ _ => ts_nil) (fun _ _ _ _ _ => (e_op op_addD add_ok (o_ex e_str) (o_ex (e_callTy call_str_int str_ok (by rfl) (Z.b "str" (by decide)) (by decide +kernel) (os_cons (o_nm (pv 9)) os_nil))))))
      (ss_cons (s_set sc_law.nd (i := 5) rfl (.inl rfl) (nio hC (by decide)) (e_call (fn_law_tree Z 10) (hr.mono (by decide)) (by rfl) (as_io (pv 1) (as_st (pv 4) (as_ex e_int as_nil))) (nioA hC (by decide)) rfl (by decide) rfl))
      (ss_one (s_for PassesOwn.never rfl (i_rng1 (by rfl) (Z.b "range" (by decide)) (os_cons (o_ex e_int) os_nil)) (g_nm sc_law.nd (i := 6) rfl (.inl rfl) (nio hC (by decide)))
      (ss_cons (s_set sc_law.nd (i := 7) rfl (.inl rfl) (nio hC (by decide)) (e_callTy call_tuple_of tuple_ok (by rfl) (Z.b "tuple" (by decide)) (by decide +kernel) (os_cons (o_ex (e_of (f_lc (own := [("x", 12)]) rfl sc_law.nd (i_seq (a := .st 4) (pv 4) (nioA hC (by decide)) rfl) (blkOk_by (N := n_law) (sc := defScope s_law) (own := [("x", 12)]) (by decide +kernel)) (by decide) (nioL hC (by decide)) (fun _ _ _ _ _ => (g_nm sc_law.nd (i := 12) rfl (Or.inl rfl) (nio hC (by decide)))) (fun _ _ _ _ _ => ts_nil) (fun _ _ _ _ _ => (e_op op_sub sub_ok (o_ex (e_call (fn_law_draw Z) (hr.mono (by decide)) (by rfl) (as_io (pv 1) (as_ex e_int as_nil)) (nioA hC (by decide)) rfl (by decide) rfl)) (o_ex e_int)))))) os_nil)))
      (ss_cons (s_setF sc_law.nd (i := 8) rfl (.inl rfl) (nio hC (by decide)) f_dict0)
      (ss_cons (s_for PassesOwn.never rfl (i_rng1 (by rfl) (Z.b "range" (by decide)) (os_cons (o_nm (pv 3)) os_nil)) (g_nm sc_law.nd (i := 9) rfl (.inl rfl) (nio hC (by decide)))
      (ss_one (s_put (un65 hr) (pv 8) (e_ix ix_seq ix_ok (o_nm (pv 4)) (o_nm (pv 9)) (fun _ _ => rfl)) (e_ix ix_seq ix_ok (o_nm (pv 7)) (o_nm (pv 9)) (fun _ _ => rfl)))))
      (ss_cons (s_set sc_law.nd (i := 10) rfl (.inl rfl) (nio hC (by decide)) (e_call (fn_law_leaf Z) (hr.mono (by decide)) (by rfl) (as_st (pv 5) (as_st (pv 8) as_nil)) (nioA hC (by decide)) rfl (by decide) rfl))
      (ss_one (s_if (t_cmp (op_eqD hr.units) eq_ok (o_ex (e_ix ix_seq ix_ok (o_nm (pv 10)) (o_ex e_int) (fun _ _ => rfl))) (o_ex e_str) (nomark _))
      (ss_cons (s_set sc_law.nd (i := 11) rfl (.inl rfl) (nio hC (by decide)) (e_call (fn_kind_of Z) (hr.mono (by decide)) (by rfl) (as_ex (e_tup (ms_cons (e_nm (pv 3)) (ms_cons (e_tup (ms_cons (e_tup (ms_cons e_str (ms_cons (e_tup ms_nil) ms_nil))) ms_nil)) (ms_cons (e_nm (pv 7)) ms_nil)))) (as_st (pv 5) (as_st (pv 7) as_nil))) (nioA hC (by decide)) rfl (by decide) rfl))
      (ss_one (s_if (w_pt (w_or (t_not (t_tru (o_ex (e_call (fn_law_is_int Z) (hr.mono (by decide)) (by rfl) (as_st (pv 11) as_nil) (nioA hC (by decide)) rfl (by decide) rfl)))) (w_or1 (t_cmp (op_neD hr.units) ne_ok (o_nm (pv 11)) (o_ex (e_ix ix_seq ix_ok (o_nm (pv 10)) (o_ex e_int) (fun _ _ => rfl))) (nomark _)))))
      (ss_one (s_ret e_bool))
      ss_nil)))
      ss_nil))))))))))))
      (ss_one (s_ret e_bool))))
end
end Gk03

set_option Elab.async false
set_option linter.all false
set_option maxRecDepth 100000
namespace Gk03
open PySem PySem.Spec PyProof.Rows L2 VS VK
open VS.Enc (e)
/-! ### names -/
def nm (k : Nat) : Str := ("s" : Str) ++ (Str.ofString (toString (k : Int)))
theorem nm_inj : ∀ i, i < 4 → ∀ j, j < 4 → nm i = nm j → i = j := by decide +kernel
theorem nm_key : ∀ i, i < 4 → (Str.ofString "test" == nm i) = false := by decide +kernel
abbrev nD (k : Nat) : D := .str (nm k)
theorem s_test : shp (.str "test") = true := by decide +kernel
theorem s_kind : shp (.str "kind") = true := by decide +kernel
theorem s_none : shp (.str "none") = true := by decide +kernel
/-! ### dicts of names -/
abbrev nk (k : Nat) : Key := .inr (nm k)
def tab (v : Nat → Int) (n : Nat) : List (D × D) := (List.range n).map fun i => (kD (nk i), .int (v i))
theorem nk_ne {i j : Nat} (hi : i < 4) (hj : j < 4) (h : i ≠ j) : nk i ≠ nk j := fun e => h (nm_inj i hi j hj (Sum.inr.inj e))
theorem dg_tab {v : Nat → Int} {n k : Nat} (hn : n < 4) (hk : k < n) {K : D → Prop} : @dgQ (.dict (tab v n)) (nD k) K = K (.int (v k)) := by
  show @oQ _ (dgetD (tab v n) (nk k)) K = _
  rw [show dgetD (tab v n) (nk k) = some (.int (v k)) from dget_map (kf := nk) (f := fun i => .int (v i)) (List.mem_range.mpr hk) fun b hb e => nm_inj b (by have := List.mem_range.mp hb; omega) k (by omega) (Sum.inr.inj e)]
  rfl
theorem tab_put {v : Nat → Int} {n : Nat} (hn : n < 4) : dputD (tab v n) (nk n) (.int (v n)) = tab v (n + 1) := by
  unfold tab
  rw [List.range_succ, List.map_append, dput_no (kf := nk) (f := fun i => .int (v i)) fun b hb => nk_ne (by have := List.mem_range.mp hb; omega) hn (by have := List.mem_range.mp hb; omega)]
  rfl
/-! ### trees -/
abbrev Tm := Nat × Int
def tmD (t : Tm) : D := .tuple [nD t.1, .int t.2]
inductive Tr where
  | no | kind (n : Nat) | test (c : Int) (ts : List Tm) (a b : Tr)
def fD (c : Int) (ts : List Tm) : D := .tuple [.int c, .tuple (ts.map tmD)]
def Tr.d : Tr → D
  | no => .tuple [.str "none"]
  | kind n => .tuple [.str "kind", .int (n : Nat)]
  | test c ts a b => .tuple [.str "test", fD c ts, a.d, b.d]
def Tr.ok (n : Nat) : Tr → Prop
  | test _ ts a b => (ts.length ≤ 3 ∧ ∀ t ∈ ts, t.1 < n) ∧ a.ok n ∧ b.ok n
  | _ => True
def Tr.dep : Tr → Nat
  | test _ _ a b => max a.dep b.dep + 1
  | _ => 0
def val (v : Nat → Int) (c : Int) (ts : List Tm) : Int := c + (ts.map fun t => t.2 * v t.1).sum
def Tr.leaf (v : Nat → Int) : Tr → Tr
  | test c ts a b => if 0 ≤ val v c ts then a.leaf v else b.leaf v
  | x => x
theorem d_no : Tr.no.d = .tuple [.str "none"] := no_rfl rfl
theorem d_kind {n : Nat} : (Tr.kind n).d = .tuple [.str "kind", .int (n : Nat)] := no_rfl rfl
theorem d_test {c : Int} {ts : List Tm} {a b : Tr} : (Tr.test c ts a b).d = .tuple [.str "test", fD c ts, a.d, b.d] := no_rfl rfl
theorem nd_f {c : Int} {ts : List Tm} : noDict (fD c ts) = true := of_eq_true (eq_true rfl)
theorem nd_T {T : Tr} : noDict T.d = true := by cases T <;> rfl
def small (v : Nat → Int) (n : Nat) : Prop := ∀ k, k < n → small64 (v k) = true
theorem value_eq {v : Nat → Int} {n : Nat} (hn : n < 4) (hv : small v n) {c : Int} {ts : List Tm} (hl : ts.length ≤ 3) (ht : ∀ t ∈ ts, t.1 < n) : F_value [fD c ts, .tuple ((List.range n).map fun i => .tuple [nD i, .int (v i)])] = some (.int (val v c ts), []) := wf_eq (by
  rw [run_value]
  unfold m_value fD
  simp only [eq_self, Int.reduceLT, Int.reduceLE, Nat.reduceLT, Nat.reduceLeDiff, Int.reduceToNat, Int.toNat_natCast, ↓ws_seq, ↓sq_nx, ↓sq_rt, ↓sq_rf, ↓sq_bk, ↓sq_ct, ↓lq_nx, ↓lq_ct, ↓lq_bk, ↓lq_rt, ↓lq_rf, ↓ou_nx, ↓ou_rt, ↓ou_rf, ↓ws_next, ↓ws_break, ↓ws_cont, ↓ws_retNone, ↓ws_drop, ↓ws_ret, ↓ws_retF, ↓ws_set, ↓ws_setF, ↓rn_st, ↓rn_ow, ↓ws_retN, ↓sn_st, ↓sn_ow, ↓ws_setN, ↓ite_t, ↓ite_f, ↓ws_if, ↓ws_asg, ↓ws_store, ↓ws_aug, ↓ws_for, ↓ws_while, ↓we_c, ↓we_n, ↓we_op, ↓we_int, ↓wv_nil, ↓wv_ex, ↓wv_nm, ↓re_nil, ↓re_ex, ↓re_nm, ↓st_st, ↓ow_ow, ↓lk_st, ↓lk_ow, ↓bo_bo, ↓in_in, ↓wt_test, ↓wt_tru, ↓tr_bo, ↓tr_in, ↓tr_li, ↓tr_tu, ↓tr_no, ↓wt_not, ↓wt_and, ↓wt_or, ↓we_and, ↓we_or, ↓we_not, ↓we_if, ↓di_nil, ↓di_1, ↓di_2, ↓di_3, ↓di_4, ↓di_5, ↓di_6, ↓di_7, ↓di_8, ↓di_9, ↓di_10, ↓di_11, ↓di_12, ↓we_tup, ↓we_lst, ↓wm_nil, ↓wm_cons, ↓wa_nil, ↓wa_ex, ↓wa_st, ↓wa_io, ↓fz_nil, ↓fz_ex, ↓fz_io, ↓fy_st, ↓fy_ow, ↓ar_nil, ↓ar_ex, ↓ar_st, ↓ar_io, ↓pu_nil, ↓pu_cons, ↓we_call, ij_nil, ij_ex, ij_st, ij_io, ↓wg_nm, ↓wg_tu, ↓wg_tl, ↓wgs_nil, ↓wgs_cons, ↓we_methS', ↓ls_li, ↓we_meth, ↓we_chain, ↓we_rg1, ↓we_dict0, ↓we_get, ↓isd_d, ↓we_get2, ↓ws_put, ↓we_val, ↓wi_seq, ↓wi_rng, ↓wi_enum, ↓fq_seqL, ↓fq_seqT, ↓wt_yes, ↓rs_nil, ↓rs_cons, ↓wp_nil, ↓wp_cons, ↓we_comp, ↓we_compD, ↓we_comp2, ↓we_sset, ↓we_lset, ↓we_rev, ↓rv_l, ↓rv_t, ↓f_zip, ↓iq_nil, ↓iq_cons, ↓get_0, ↓set_0, ↓slot_0, ↓fz_0, ↓get_1, ↓set_1, ↓slot_1, ↓fz_1, ↓get_2, ↓set_2, ↓slot_2, ↓fz_2, ↓get_3, ↓set_3, ↓slot_3, ↓fz_3, ↓get_4, ↓set_4, ↓slot_4, ↓fz_4, ↓get_5, ↓set_5, ↓slot_5, ↓fz_5, ↓get_6, ↓set_6, ↓slot_6, ↓fz_6, ↓get_7, ↓set_7, ↓slot_7, ↓fz_7, ↓get_8, ↓set_8, ↓slot_8, ↓fz_8, ↓get_9, ↓set_9, ↓slot_9, ↓fz_9, ↓get_10, ↓set_10, ↓slot_10, ↓fz_10, ↓get_11, ↓set_11, ↓slot_11, ↓fz_11, ↓get_12, ↓set_12, ↓slot_12, ↓fz_12, ↓get_13, ↓set_13, ↓slot_13, ↓fz_13, ↓get_14, ↓set_14, ↓slot_14, ↓fz_14, ↓get_15, ↓set_15, ↓slot_15, ↓fz_15, ↓get_16, ↓set_16, ↓slot_16, ↓fz_16, ↓get_17, ↓set_17, ↓slot_17, ↓fz_17, ↓get_18, ↓set_18, ↓slot_18, ↓fz_18, ↓get_19, ↓set_19, ↓slot_19, ↓fz_19, ↓get_20, ↓set_20, ↓slot_20, ↓fz_20, ↓get_21, ↓set_21, ↓slot_21, ↓fz_21, ↓get_22, ↓set_22, ↓slot_22, ↓fz_22, ↓get_23, ↓set_23, ↓slot_23, ↓fz_23, ↓get_24, ↓set_24, ↓slot_24, ↓fz_24, ↓get_25, ↓set_25, ↓slot_25, ↓fz_25, ↓f_sub, ↓f_lt, ↓f_le, ↓f_gt, ↓f_ge, ↓f_add, ↓f_mod, ↓f_fdiv, ↓f_mulL, ↓f_mulR, ↓f_neg, ↓f_abs, ↓f_intI, ↓f_intB, ↓f_lenL, ↓f_lenT, ↓f_tupL, ↓f_tupT, ↓f_lisL, ↓f_lisT, ↓f_isB, ↓f_isNotB, ↓f_isN, ↓f_isNotN, ↓f_all, ↓f_any, ↓f_sum, ↓f_isi_int_int, ↓f_isi_int_bool, ↓f_isi_int_tuple, ↓f_isi_int_str, ↓f_isi_int_list, ↓f_isi_bool_int, ↓f_isi_bool_bool, ↓f_isi_bool_tuple, ↓f_isi_bool_str, ↓f_isi_bool_list, ↓f_isi_tuple_int, ↓f_isi_tuple_bool, ↓f_isi_tuple_tuple, ↓f_isi_tuple_str, ↓f_isi_tuple_list, ↓f_isi_str_int, ↓f_isi_str_bool, ↓f_isi_str_tuple, ↓f_isi_str_str, ↓f_isi_str_list, ↓f_isi_list_int, ↓f_isi_list_bool, ↓f_isi_list_tuple, ↓f_isi_list_str, ↓f_isi_list_list, ↓h_pop, ↓h_pop0, ↓f_rngI, ↓f_ixl0, ↓f_ixl1, ↓f_ixl2, ↓f_ixl3, ↓f_ixl4, ↓f_ixl5, ↓f_ixt0, ↓f_ixt1, ↓f_ixt2, ↓f_ixt3, ↓f_ixt4, ↓f_ixt5, ↓f_sd0, ↓f_sd1, ↓f_sd2, ↓f_sd3, ↓f_sd4, ↓f_sd5, nd_none, nd_bool, nd_int, nd_str, nd_list, nd_tuple]
  refine ⟨rfl, ?_⟩
  refine wcd_inv (fun k acc ρ => k ≤ n ∧ acc = tab v k ∧ ∃ x3 x4, ρ = [some (.st (fD c ts)), some (.st (.tuple ((List.range n).map fun i => .tuple [nD i, .int (v i)]))), none, x3, x4, none]) [] ⟨Nat.zero_le _, rfl, _, _, rfl⟩ (fun k d acc ρ ge z => ?_) fun acc ρ z => ?_
  · obtain ⟨_, rfl, x3, x4, rfl⟩ := z
    rw [List.getElem?_map] at ge
    obtain ⟨i, gi, rfl⟩ := Option.map_eq_some_iff.mp ge
    obtain ⟨hk, rfl⟩ := List.getElem?_eq_some_iff.mp gi
    rw [List.length_range] at hk
    rw [List.getElem_range]
    simp only [eq_self, Int.reduceLT, Int.reduceLE, Nat.reduceLT, Nat.reduceLeDiff, Int.reduceToNat, Int.toNat_natCast, ↓ws_seq, ↓sq_nx, ↓sq_rt, ↓sq_rf, ↓sq_bk, ↓sq_ct, ↓lq_nx, ↓lq_ct, ↓lq_bk, ↓lq_rt, ↓lq_rf, ↓ou_nx, ↓ou_rt, ↓ou_rf, ↓ws_next, ↓ws_break, ↓ws_cont, ↓ws_retNone, ↓ws_drop, ↓ws_ret, ↓ws_retF, ↓ws_set, ↓ws_setF, ↓rn_st, ↓rn_ow, ↓ws_retN, ↓sn_st, ↓sn_ow, ↓ws_setN, ↓ite_t, ↓ite_f, ↓ws_if, ↓ws_asg, ↓ws_store, ↓ws_aug, ↓ws_for, ↓ws_while, ↓we_c, ↓we_n, ↓we_op, ↓we_int, ↓wv_nil, ↓wv_ex, ↓wv_nm, ↓re_nil, ↓re_ex, ↓re_nm, ↓st_st, ↓ow_ow, ↓lk_st, ↓lk_ow, ↓bo_bo, ↓in_in, ↓wt_test, ↓wt_tru, ↓tr_bo, ↓tr_in, ↓tr_li, ↓tr_tu, ↓tr_no, ↓wt_not, ↓wt_and, ↓wt_or, ↓we_and, ↓we_or, ↓we_not, ↓we_if, ↓di_nil, ↓di_1, ↓di_2, ↓di_3, ↓di_4, ↓di_5, ↓di_6, ↓di_7, ↓di_8, ↓di_9, ↓di_10, ↓di_11, ↓di_12, ↓we_tup, ↓we_lst, ↓wm_nil, ↓wm_cons, ↓wa_nil, ↓wa_ex, ↓wa_st, ↓wa_io, ↓fz_nil, ↓fz_ex, ↓fz_io, ↓fy_st, ↓fy_ow, ↓ar_nil, ↓ar_ex, ↓ar_st, ↓ar_io, ↓pu_nil, ↓pu_cons, ↓we_call, ij_nil, ij_ex, ij_st, ij_io, ↓wg_nm, ↓wg_tu, ↓wg_tl, ↓wgs_nil, ↓wgs_cons, ↓we_methS', ↓ls_li, ↓we_meth, ↓we_chain, ↓we_rg1, ↓we_dict0, ↓we_get, ↓isd_d, ↓we_get2, ↓ws_put, ↓we_val, ↓wi_seq, ↓wi_rng, ↓wi_enum, ↓fq_seqL, ↓fq_seqT, ↓wt_yes, ↓rs_nil, ↓rs_cons, ↓wp_nil, ↓wp_cons, ↓we_comp, ↓we_compD, ↓we_comp2, ↓we_sset, ↓we_lset, ↓we_rev, ↓rv_l, ↓rv_t, ↓f_zip, ↓iq_nil, ↓iq_cons, ↓get_0, ↓set_0, ↓slot_0, ↓fz_0, ↓get_1, ↓set_1, ↓slot_1, ↓fz_1, ↓get_2, ↓set_2, ↓slot_2, ↓fz_2, ↓get_3, ↓set_3, ↓slot_3, ↓fz_3, ↓get_4, ↓set_4, ↓slot_4, ↓fz_4, ↓get_5, ↓set_5, ↓slot_5, ↓fz_5, ↓get_6, ↓set_6, ↓slot_6, ↓fz_6, ↓get_7, ↓set_7, ↓slot_7, ↓fz_7, ↓get_8, ↓set_8, ↓slot_8, ↓fz_8, ↓get_9, ↓set_9, ↓slot_9, ↓fz_9, ↓get_10, ↓set_10, ↓slot_10, ↓fz_10, ↓get_11, ↓set_11, ↓slot_11, ↓fz_11, ↓get_12, ↓set_12, ↓slot_12, ↓fz_12, ↓get_13, ↓set_13, ↓slot_13, ↓fz_13, ↓get_14, ↓set_14, ↓slot_14, ↓fz_14, ↓get_15, ↓set_15, ↓slot_15, ↓fz_15, ↓get_16, ↓set_16, ↓slot_16, ↓fz_16, ↓get_17, ↓set_17, ↓slot_17, ↓fz_17, ↓get_18, ↓set_18, ↓slot_18, ↓fz_18, ↓get_19, ↓set_19, ↓slot_19, ↓fz_19, ↓get_20, ↓set_20, ↓slot_20, ↓fz_20, ↓get_21, ↓set_21, ↓slot_21, ↓fz_21, ↓get_22, ↓set_22, ↓slot_22, ↓fz_22, ↓get_23, ↓set_23, ↓slot_23, ↓fz_23, ↓get_24, ↓set_24, ↓slot_24, ↓fz_24, ↓get_25, ↓set_25, ↓slot_25, ↓fz_25, ↓f_sub, ↓f_lt, ↓f_le, ↓f_gt, ↓f_ge, ↓f_add, ↓f_mod, ↓f_fdiv, ↓f_mulL, ↓f_mulR, ↓f_neg, ↓f_abs, ↓f_intI, ↓f_intB, ↓f_lenL, ↓f_lenT, ↓f_tupL, ↓f_tupT, ↓f_lisL, ↓f_lisT, ↓f_isB, ↓f_isNotB, ↓f_isN, ↓f_isNotN, ↓f_all, ↓f_any, ↓f_sum, ↓f_isi_int_int, ↓f_isi_int_bool, ↓f_isi_int_tuple, ↓f_isi_int_str, ↓f_isi_int_list, ↓f_isi_bool_int, ↓f_isi_bool_bool, ↓f_isi_bool_tuple, ↓f_isi_bool_str, ↓f_isi_bool_list, ↓f_isi_tuple_int, ↓f_isi_tuple_bool, ↓f_isi_tuple_tuple, ↓f_isi_tuple_str, ↓f_isi_tuple_list, ↓f_isi_str_int, ↓f_isi_str_bool, ↓f_isi_str_tuple, ↓f_isi_str_str, ↓f_isi_str_list, ↓f_isi_list_int, ↓f_isi_list_bool, ↓f_isi_list_tuple, ↓f_isi_list_str, ↓f_isi_list_list, ↓h_pop, ↓h_pop0, ↓f_rngI, ↓f_ixl0, ↓f_ixl1, ↓f_ixl2, ↓f_ixl3, ↓f_ixl4, ↓f_ixl5, ↓f_ixt0, ↓f_ixt1, ↓f_ixt2, ↓f_ixt3, ↓f_ixt4, ↓f_ixt5, ↓f_sd0, ↓f_sd1, ↓f_sd2, ↓f_sd3, ↓f_sd4, ↓f_sd5, nd_none, nd_bool, nd_int, nd_str, nd_list, nd_tuple]
    show @oQ _ (some (nk k)) (fun _ => _)
    refine ⟨trivial, ?_, hk, tab_put (by omega), _, _, rfl⟩
    rw [tab, List.length_map, List.length_range]
    exact Nat.lt_of_lt_of_le (show k < 4 by omega) (by decide)
  · obtain ⟨_, rfl, x3, x4, rfl⟩ := z
    rw [List.length_map, List.length_range]
    unfold fD
    simp only [eq_self, Int.reduceLT, Int.reduceLE, Nat.reduceLT, Nat.reduceLeDiff, Int.reduceToNat, Int.toNat_natCast, ↓ws_seq, ↓sq_nx, ↓sq_rt, ↓sq_rf, ↓sq_bk, ↓sq_ct, ↓lq_nx, ↓lq_ct, ↓lq_bk, ↓lq_rt, ↓lq_rf, ↓ou_nx, ↓ou_rt, ↓ou_rf, ↓ws_next, ↓ws_break, ↓ws_cont, ↓ws_retNone, ↓ws_drop, ↓ws_ret, ↓ws_retF, ↓ws_set, ↓ws_setF, ↓rn_st, ↓rn_ow, ↓ws_retN, ↓sn_st, ↓sn_ow, ↓ws_setN, ↓ite_t, ↓ite_f, ↓ws_if, ↓ws_asg, ↓ws_store, ↓ws_aug, ↓ws_for, ↓ws_while, ↓we_c, ↓we_n, ↓we_op, ↓we_int, ↓wv_nil, ↓wv_ex, ↓wv_nm, ↓re_nil, ↓re_ex, ↓re_nm, ↓st_st, ↓ow_ow, ↓lk_st, ↓lk_ow, ↓bo_bo, ↓in_in, ↓wt_test, ↓wt_tru, ↓tr_bo, ↓tr_in, ↓tr_li, ↓tr_tu, ↓tr_no, ↓wt_not, ↓wt_and, ↓wt_or, ↓we_and, ↓we_or, ↓we_not, ↓we_if, ↓di_nil, ↓di_1, ↓di_2, ↓di_3, ↓di_4, ↓di_5, ↓di_6, ↓di_7, ↓di_8, ↓di_9, ↓di_10, ↓di_11, ↓di_12, ↓we_tup, ↓we_lst, ↓wm_nil, ↓wm_cons, ↓wa_nil, ↓wa_ex, ↓wa_st, ↓wa_io, ↓fz_nil, ↓fz_ex, ↓fz_io, ↓fy_st, ↓fy_ow, ↓ar_nil, ↓ar_ex, ↓ar_st, ↓ar_io, ↓pu_nil, ↓pu_cons, ↓we_call, ij_nil, ij_ex, ij_st, ij_io, ↓wg_nm, ↓wg_tu, ↓wg_tl, ↓wgs_nil, ↓wgs_cons, ↓we_methS', ↓ls_li, ↓we_meth, ↓we_chain, ↓we_rg1, ↓we_dict0, ↓we_get, ↓isd_d, ↓we_get2, ↓ws_put, ↓we_val, ↓wi_seq, ↓wi_rng, ↓wi_enum, ↓fq_seqL, ↓fq_seqT, ↓wt_yes, ↓rs_nil, ↓rs_cons, ↓wp_nil, ↓wp_cons, ↓we_comp, ↓we_compD, ↓we_comp2, ↓we_sset, ↓we_lset, ↓we_rev, ↓rv_l, ↓rv_t, ↓f_zip, ↓iq_nil, ↓iq_cons, ↓get_0, ↓set_0, ↓slot_0, ↓fz_0, ↓get_1, ↓set_1, ↓slot_1, ↓fz_1, ↓get_2, ↓set_2, ↓slot_2, ↓fz_2, ↓get_3, ↓set_3, ↓slot_3, ↓fz_3, ↓get_4, ↓set_4, ↓slot_4, ↓fz_4, ↓get_5, ↓set_5, ↓slot_5, ↓fz_5, ↓get_6, ↓set_6, ↓slot_6, ↓fz_6, ↓get_7, ↓set_7, ↓slot_7, ↓fz_7, ↓get_8, ↓set_8, ↓slot_8, ↓fz_8, ↓get_9, ↓set_9, ↓slot_9, ↓fz_9, ↓get_10, ↓set_10, ↓slot_10, ↓fz_10, ↓get_11, ↓set_11, ↓slot_11, ↓fz_11, ↓get_12, ↓set_12, ↓slot_12, ↓fz_12, ↓get_13, ↓set_13, ↓slot_13, ↓fz_13, ↓get_14, ↓set_14, ↓slot_14, ↓fz_14, ↓get_15, ↓set_15, ↓slot_15, ↓fz_15, ↓get_16, ↓set_16, ↓slot_16, ↓fz_16, ↓get_17, ↓set_17, ↓slot_17, ↓fz_17, ↓get_18, ↓set_18, ↓slot_18, ↓fz_18, ↓get_19, ↓set_19, ↓slot_19, ↓fz_19, ↓get_20, ↓set_20, ↓slot_20, ↓fz_20, ↓get_21, ↓set_21, ↓slot_21, ↓fz_21, ↓get_22, ↓set_22, ↓slot_22, ↓fz_22, ↓get_23, ↓set_23, ↓slot_23, ↓fz_23, ↓get_24, ↓set_24, ↓slot_24, ↓fz_24, ↓get_25, ↓set_25, ↓slot_25, ↓fz_25, ↓f_sub, ↓f_lt, ↓f_le, ↓f_gt, ↓f_ge, ↓f_add, ↓f_mod, ↓f_fdiv, ↓f_mulL, ↓f_mulR, ↓f_neg, ↓f_abs, ↓f_intI, ↓f_intB, ↓f_lenL, ↓f_lenT, ↓f_tupL, ↓f_tupT, ↓f_lisL, ↓f_lisT, ↓f_isB, ↓f_isNotB, ↓f_isN, ↓f_isNotN, ↓f_all, ↓f_any, ↓f_sum, ↓f_isi_int_int, ↓f_isi_int_bool, ↓f_isi_int_tuple, ↓f_isi_int_str, ↓f_isi_int_list, ↓f_isi_bool_int, ↓f_isi_bool_bool, ↓f_isi_bool_tuple, ↓f_isi_bool_str, ↓f_isi_bool_list, ↓f_isi_tuple_int, ↓f_isi_tuple_bool, ↓f_isi_tuple_tuple, ↓f_isi_tuple_str, ↓f_isi_tuple_list, ↓f_isi_str_int, ↓f_isi_str_bool, ↓f_isi_str_tuple, ↓f_isi_str_str, ↓f_isi_str_list, ↓f_isi_list_int, ↓f_isi_list_bool, ↓f_isi_list_tuple, ↓f_isi_list_str, ↓f_isi_list_list, ↓h_pop, ↓h_pop0, ↓f_rngI, ↓f_ixl0, ↓f_ixl1, ↓f_ixl2, ↓f_ixl3, ↓f_ixl4, ↓f_ixl5, ↓f_ixt0, ↓f_ixt1, ↓f_ixt2, ↓f_ixt3, ↓f_ixt4, ↓f_ixt5, ↓f_sd0, ↓f_sd1, ↓f_sd2, ↓f_sd3, ↓f_sd4, ↓f_sd5, nd_none, nd_bool, nd_int, nd_str, nd_list, nd_tuple]
    refine ⟨⟨rfl, by rw [List.length_map]; exact Nat.le_trans hl (by decide)⟩, ?_⟩
    refine wc_map (f := tmD) (fun t => .int (t.2 * v t.1)) (fun ρ => ∃ x3 x5, ρ = [some (.st (fD c ts)), some (.st (.tuple ((List.range n).map fun i => .tuple [nD i, .int (v i)]))), some (.st (.dict (tab v n))), x3, none, x5]) ⟨_, _, rfl⟩ (fun k ρ hk z => ?_) fun ρ z => ?_
    · obtain ⟨x3, x5, rfl⟩ := z
      have hm := List.getElem_mem hk
      rw [← getElem!_pos ts k hk] at hm
      have h1 := ht _ hm
      have h2 := hv _ h1
      unfold tmD
      simp only [eq_self, Int.reduceLT, Int.reduceLE, Nat.reduceLT, Nat.reduceLeDiff, Int.reduceToNat, Int.toNat_natCast, ↓ws_seq, ↓sq_nx, ↓sq_rt, ↓sq_rf, ↓sq_bk, ↓sq_ct, ↓lq_nx, ↓lq_ct, ↓lq_bk, ↓lq_rt, ↓lq_rf, ↓ou_nx, ↓ou_rt, ↓ou_rf, ↓ws_next, ↓ws_break, ↓ws_cont, ↓ws_retNone, ↓ws_drop, ↓ws_ret, ↓ws_retF, ↓ws_set, ↓ws_setF, ↓rn_st, ↓rn_ow, ↓ws_retN, ↓sn_st, ↓sn_ow, ↓ws_setN, ↓ite_t, ↓ite_f, ↓ws_if, ↓ws_asg, ↓ws_store, ↓ws_aug, ↓ws_for, ↓ws_while, ↓we_c, ↓we_n, ↓we_op, ↓we_int, ↓wv_nil, ↓wv_ex, ↓wv_nm, ↓re_nil, ↓re_ex, ↓re_nm, ↓st_st, ↓ow_ow, ↓lk_st, ↓lk_ow, ↓bo_bo, ↓in_in, ↓wt_test, ↓wt_tru, ↓tr_bo, ↓tr_in, ↓tr_li, ↓tr_tu, ↓tr_no, ↓wt_not, ↓wt_and, ↓wt_or, ↓we_and, ↓we_or, ↓we_not, ↓we_if, ↓di_nil, ↓di_1, ↓di_2, ↓di_3, ↓di_4, ↓di_5, ↓di_6, ↓di_7, ↓di_8, ↓di_9, ↓di_10, ↓di_11, ↓di_12, ↓we_tup, ↓we_lst, ↓wm_nil, ↓wm_cons, ↓wa_nil, ↓wa_ex, ↓wa_st, ↓wa_io, ↓fz_nil, ↓fz_ex, ↓fz_io, ↓fy_st, ↓fy_ow, ↓ar_nil, ↓ar_ex, ↓ar_st, ↓ar_io, ↓pu_nil, ↓pu_cons, ↓we_call, ij_nil, ij_ex, ij_st, ij_io, ↓wg_nm, ↓wg_tu, ↓wg_tl, ↓wgs_nil, ↓wgs_cons, ↓we_methS', ↓ls_li, ↓we_meth, ↓we_chain, ↓we_rg1, ↓we_dict0, ↓we_get, ↓isd_d, ↓we_get2, ↓ws_put, ↓we_val, ↓wi_seq, ↓wi_rng, ↓wi_enum, ↓fq_seqL, ↓fq_seqT, ↓wt_yes, ↓rs_nil, ↓rs_cons, ↓wp_nil, ↓wp_cons, ↓we_comp, ↓we_compD, ↓we_comp2, ↓we_sset, ↓we_lset, ↓we_rev, ↓rv_l, ↓rv_t, ↓f_zip, ↓iq_nil, ↓iq_cons, ↓get_0, ↓set_0, ↓slot_0, ↓fz_0, ↓get_1, ↓set_1, ↓slot_1, ↓fz_1, ↓get_2, ↓set_2, ↓slot_2, ↓fz_2, ↓get_3, ↓set_3, ↓slot_3, ↓fz_3, ↓get_4, ↓set_4, ↓slot_4, ↓fz_4, ↓get_5, ↓set_5, ↓slot_5, ↓fz_5, ↓get_6, ↓set_6, ↓slot_6, ↓fz_6, ↓get_7, ↓set_7, ↓slot_7, ↓fz_7, ↓get_8, ↓set_8, ↓slot_8, ↓fz_8, ↓get_9, ↓set_9, ↓slot_9, ↓fz_9, ↓get_10, ↓set_10, ↓slot_10, ↓fz_10, ↓get_11, ↓set_11, ↓slot_11, ↓fz_11, ↓get_12, ↓set_12, ↓slot_12, ↓fz_12, ↓get_13, ↓set_13, ↓slot_13, ↓fz_13, ↓get_14, ↓set_14, ↓slot_14, ↓fz_14, ↓get_15, ↓set_15, ↓slot_15, ↓fz_15, ↓get_16, ↓set_16, ↓slot_16, ↓fz_16, ↓get_17, ↓set_17, ↓slot_17, ↓fz_17, ↓get_18, ↓set_18, ↓slot_18, ↓fz_18, ↓get_19, ↓set_19, ↓slot_19, ↓fz_19, ↓get_20, ↓set_20, ↓slot_20, ↓fz_20, ↓get_21, ↓set_21, ↓slot_21, ↓fz_21, ↓get_22, ↓set_22, ↓slot_22, ↓fz_22, ↓get_23, ↓set_23, ↓slot_23, ↓fz_23, ↓get_24, ↓set_24, ↓slot_24, ↓fz_24, ↓get_25, ↓set_25, ↓slot_25, ↓fz_25, ↓f_sub, ↓f_lt, ↓f_le, ↓f_gt, ↓f_ge, ↓f_add, ↓f_mod, ↓f_fdiv, ↓f_mulL, ↓f_mulR, ↓f_neg, ↓f_abs, ↓f_intI, ↓f_intB, ↓f_lenL, ↓f_lenT, ↓f_tupL, ↓f_tupT, ↓f_lisL, ↓f_lisT, ↓f_isB, ↓f_isNotB, ↓f_isN, ↓f_isNotN, ↓f_all, ↓f_any, ↓f_sum, ↓f_isi_int_int, ↓f_isi_int_bool, ↓f_isi_int_tuple, ↓f_isi_int_str, ↓f_isi_int_list, ↓f_isi_bool_int, ↓f_isi_bool_bool, ↓f_isi_bool_tuple, ↓f_isi_bool_str, ↓f_isi_bool_list, ↓f_isi_tuple_int, ↓f_isi_tuple_bool, ↓f_isi_tuple_tuple, ↓f_isi_tuple_str, ↓f_isi_tuple_list, ↓f_isi_str_int, ↓f_isi_str_bool, ↓f_isi_str_tuple, ↓f_isi_str_str, ↓f_isi_str_list, ↓f_isi_list_int, ↓f_isi_list_bool, ↓f_isi_list_tuple, ↓f_isi_list_str, ↓f_isi_list_list, ↓h_pop, ↓h_pop0, ↓f_rngI, ↓f_ixl0, ↓f_ixl1, ↓f_ixl2, ↓f_ixl3, ↓f_ixl4, ↓f_ixl5, ↓f_ixt0, ↓f_ixt1, ↓f_ixt2, ↓f_ixt3, ↓f_ixt4, ↓f_ixt5, ↓f_sd0, ↓f_sd1, ↓f_sd2, ↓f_sd3, ↓f_sd4, ↓f_sd5, nd_none, nd_bool, nd_int, nd_str, nd_list, nd_tuple, ↓dg_tab hn h1, ↓f_mulR h2]
      exact ⟨trivial, trivial, trivial, _, _, rfl⟩
    · obtain ⟨x3, x5, rfl⟩ := z
      have e1 : (ts.map fun t => PyData.int (t.2 * v t.1)) = (ts.map fun t => t.2 * v t.1).map .int := by rw [List.map_map]; rfl
      rw [e1]
      simp only [eq_self, Int.reduceLT, Int.reduceLE, Nat.reduceLT, Nat.reduceLeDiff, Int.reduceToNat, Int.toNat_natCast, ↓ws_seq, ↓sq_nx, ↓sq_rt, ↓sq_rf, ↓sq_bk, ↓sq_ct, ↓lq_nx, ↓lq_ct, ↓lq_bk, ↓lq_rt, ↓lq_rf, ↓ou_nx, ↓ou_rt, ↓ou_rf, ↓ws_next, ↓ws_break, ↓ws_cont, ↓ws_retNone, ↓ws_drop, ↓ws_ret, ↓ws_retF, ↓ws_set, ↓ws_setF, ↓rn_st, ↓rn_ow, ↓ws_retN, ↓sn_st, ↓sn_ow, ↓ws_setN, ↓ite_t, ↓ite_f, ↓ws_if, ↓ws_asg, ↓ws_store, ↓ws_aug, ↓ws_for, ↓ws_while, ↓we_c, ↓we_n, ↓we_op, ↓we_int, ↓wv_nil, ↓wv_ex, ↓wv_nm, ↓re_nil, ↓re_ex, ↓re_nm, ↓st_st, ↓ow_ow, ↓lk_st, ↓lk_ow, ↓bo_bo, ↓in_in, ↓wt_test, ↓wt_tru, ↓tr_bo, ↓tr_in, ↓tr_li, ↓tr_tu, ↓tr_no, ↓wt_not, ↓wt_and, ↓wt_or, ↓we_and, ↓we_or, ↓we_not, ↓we_if, ↓di_nil, ↓di_1, ↓di_2, ↓di_3, ↓di_4, ↓di_5, ↓di_6, ↓di_7, ↓di_8, ↓di_9, ↓di_10, ↓di_11, ↓di_12, ↓we_tup, ↓we_lst, ↓wm_nil, ↓wm_cons, ↓wa_nil, ↓wa_ex, ↓wa_st, ↓wa_io, ↓fz_nil, ↓fz_ex, ↓fz_io, ↓fy_st, ↓fy_ow, ↓ar_nil, ↓ar_ex, ↓ar_st, ↓ar_io, ↓pu_nil, ↓pu_cons, ↓we_call, ij_nil, ij_ex, ij_st, ij_io, ↓wg_nm, ↓wg_tu, ↓wg_tl, ↓wgs_nil, ↓wgs_cons, ↓we_methS', ↓ls_li, ↓we_meth, ↓we_chain, ↓we_rg1, ↓we_dict0, ↓we_get, ↓isd_d, ↓we_get2, ↓ws_put, ↓we_val, ↓wi_seq, ↓wi_rng, ↓wi_enum, ↓fq_seqL, ↓fq_seqT, ↓wt_yes, ↓rs_nil, ↓rs_cons, ↓wp_nil, ↓wp_cons, ↓we_comp, ↓we_compD, ↓we_comp2, ↓we_sset, ↓we_lset, ↓we_rev, ↓rv_l, ↓rv_t, ↓f_zip, ↓iq_nil, ↓iq_cons, ↓get_0, ↓set_0, ↓slot_0, ↓fz_0, ↓get_1, ↓set_1, ↓slot_1, ↓fz_1, ↓get_2, ↓set_2, ↓slot_2, ↓fz_2, ↓get_3, ↓set_3, ↓slot_3, ↓fz_3, ↓get_4, ↓set_4, ↓slot_4, ↓fz_4, ↓get_5, ↓set_5, ↓slot_5, ↓fz_5, ↓get_6, ↓set_6, ↓slot_6, ↓fz_6, ↓get_7, ↓set_7, ↓slot_7, ↓fz_7, ↓get_8, ↓set_8, ↓slot_8, ↓fz_8, ↓get_9, ↓set_9, ↓slot_9, ↓fz_9, ↓get_10, ↓set_10, ↓slot_10, ↓fz_10, ↓get_11, ↓set_11, ↓slot_11, ↓fz_11, ↓get_12, ↓set_12, ↓slot_12, ↓fz_12, ↓get_13, ↓set_13, ↓slot_13, ↓fz_13, ↓get_14, ↓set_14, ↓slot_14, ↓fz_14, ↓get_15, ↓set_15, ↓slot_15, ↓fz_15, ↓get_16, ↓set_16, ↓slot_16, ↓fz_16, ↓get_17, ↓set_17, ↓slot_17, ↓fz_17, ↓get_18, ↓set_18, ↓slot_18, ↓fz_18, ↓get_19, ↓set_19, ↓slot_19, ↓fz_19, ↓get_20, ↓set_20, ↓slot_20, ↓fz_20, ↓get_21, ↓set_21, ↓slot_21, ↓fz_21, ↓get_22, ↓set_22, ↓slot_22, ↓fz_22, ↓get_23, ↓set_23, ↓slot_23, ↓fz_23, ↓get_24, ↓set_24, ↓slot_24, ↓fz_24, ↓get_25, ↓set_25, ↓slot_25, ↓fz_25, ↓f_sub, ↓f_lt, ↓f_le, ↓f_gt, ↓f_ge, ↓f_add, ↓f_mod, ↓f_fdiv, ↓f_mulL, ↓f_mulR, ↓f_neg, ↓f_abs, ↓f_intI, ↓f_intB, ↓f_lenL, ↓f_lenT, ↓f_tupL, ↓f_tupT, ↓f_lisL, ↓f_lisT, ↓f_isB, ↓f_isNotB, ↓f_isN, ↓f_isNotN, ↓f_all, ↓f_any, ↓f_sum, ↓f_isi_int_int, ↓f_isi_int_bool, ↓f_isi_int_tuple, ↓f_isi_int_str, ↓f_isi_int_list, ↓f_isi_bool_int, ↓f_isi_bool_bool, ↓f_isi_bool_tuple, ↓f_isi_bool_str, ↓f_isi_bool_list, ↓f_isi_tuple_int, ↓f_isi_tuple_bool, ↓f_isi_tuple_tuple, ↓f_isi_tuple_str, ↓f_isi_tuple_list, ↓f_isi_str_int, ↓f_isi_str_bool, ↓f_isi_str_tuple, ↓f_isi_str_str, ↓f_isi_str_list, ↓f_isi_list_int, ↓f_isi_list_bool, ↓f_isi_list_tuple, ↓f_isi_list_str, ↓f_isi_list_list, ↓h_pop, ↓h_pop0, ↓f_rngI, ↓f_ixl0, ↓f_ixl1, ↓f_ixl2, ↓f_ixl3, ↓f_ixl4, ↓f_ixl5, ↓f_ixt0, ↓f_ixt1, ↓f_ixt2, ↓f_ixt3, ↓f_ixt4, ↓f_ixt5, ↓f_sd0, ↓f_sd1, ↓f_sd2, ↓f_sd3, ↓f_sd4, ↓f_sd5, nd_none, nd_bool, nd_int, nd_str, nd_list, nd_tuple]
      exact ⟨rfl, trivial⟩)
/-- the law's walk, the program's walk -/
theorem leaf_at_eq {v : Nat → Int} {n : Nat} (hn : n < 4) (hv : small v n) {T : Tr} (hT : T.ok n) (hd : T.dep < FUEL) : F_leaf_at [T.d, .tuple ((List.range n).map fun i => .tuple [nD i, .int (v i)])] = some ((T.leaf v).d, []) := wf_eq (by
  rw [run_leaf_at]
  unfold m_leaf_at
  simp only [eq_self, Int.reduceLT, Int.reduceLE, Nat.reduceLT, Nat.reduceLeDiff, Int.reduceToNat, Int.toNat_natCast, ↓ws_seq, ↓sq_nx, ↓sq_rt, ↓sq_rf, ↓sq_bk, ↓sq_ct, ↓lq_nx, ↓lq_ct, ↓lq_bk, ↓lq_rt, ↓lq_rf, ↓ou_nx, ↓ou_rt, ↓ou_rf, ↓ws_next, ↓ws_break, ↓ws_cont, ↓ws_retNone, ↓ws_drop, ↓ws_ret, ↓ws_retF, ↓ws_set, ↓ws_setF, ↓rn_st, ↓rn_ow, ↓ws_retN, ↓sn_st, ↓sn_ow, ↓ws_setN, ↓ite_t, ↓ite_f, ↓ws_if, ↓ws_asg, ↓ws_store, ↓ws_aug, ↓ws_for, ↓ws_while, ↓we_c, ↓we_n, ↓we_op, ↓we_int, ↓wv_nil, ↓wv_ex, ↓wv_nm, ↓re_nil, ↓re_ex, ↓re_nm, ↓st_st, ↓ow_ow, ↓lk_st, ↓lk_ow, ↓bo_bo, ↓in_in, ↓wt_test, ↓wt_tru, ↓tr_bo, ↓tr_in, ↓tr_li, ↓tr_tu, ↓tr_no, ↓wt_not, ↓wt_and, ↓wt_or, ↓we_and, ↓we_or, ↓we_not, ↓we_if, ↓di_nil, ↓di_1, ↓di_2, ↓di_3, ↓di_4, ↓di_5, ↓di_6, ↓di_7, ↓di_8, ↓di_9, ↓di_10, ↓di_11, ↓di_12, ↓we_tup, ↓we_lst, ↓wm_nil, ↓wm_cons, ↓wa_nil, ↓wa_ex, ↓wa_st, ↓wa_io, ↓fz_nil, ↓fz_ex, ↓fz_io, ↓fy_st, ↓fy_ow, ↓ar_nil, ↓ar_ex, ↓ar_st, ↓ar_io, ↓pu_nil, ↓pu_cons, ↓we_call, ij_nil, ij_ex, ij_st, ij_io, ↓wg_nm, ↓wg_tu, ↓wg_tl, ↓wgs_nil, ↓wgs_cons, ↓we_methS', ↓ls_li, ↓we_meth, ↓we_chain, ↓we_rg1, ↓we_dict0, ↓we_get, ↓isd_d, ↓we_get2, ↓ws_put, ↓we_val, ↓wi_seq, ↓wi_rng, ↓wi_enum, ↓fq_seqL, ↓fq_seqT, ↓wt_yes, ↓rs_nil, ↓rs_cons, ↓wp_nil, ↓wp_cons, ↓we_comp, ↓we_compD, ↓we_comp2, ↓we_sset, ↓we_lset, ↓we_rev, ↓rv_l, ↓rv_t, ↓f_zip, ↓iq_nil, ↓iq_cons, ↓get_0, ↓set_0, ↓slot_0, ↓fz_0, ↓get_1, ↓set_1, ↓slot_1, ↓fz_1, ↓get_2, ↓set_2, ↓slot_2, ↓fz_2, ↓get_3, ↓set_3, ↓slot_3, ↓fz_3, ↓get_4, ↓set_4, ↓slot_4, ↓fz_4, ↓get_5, ↓set_5, ↓slot_5, ↓fz_5, ↓get_6, ↓set_6, ↓slot_6, ↓fz_6, ↓get_7, ↓set_7, ↓slot_7, ↓fz_7, ↓get_8, ↓set_8, ↓slot_8, ↓fz_8, ↓get_9, ↓set_9, ↓slot_9, ↓fz_9, ↓get_10, ↓set_10, ↓slot_10, ↓fz_10, ↓get_11, ↓set_11, ↓slot_11, ↓fz_11, ↓get_12, ↓set_12, ↓slot_12, ↓fz_12, ↓get_13, ↓set_13, ↓slot_13, ↓fz_13, ↓get_14, ↓set_14, ↓slot_14, ↓fz_14, ↓get_15, ↓set_15, ↓slot_15, ↓fz_15, ↓get_16, ↓set_16, ↓slot_16, ↓fz_16, ↓get_17, ↓set_17, ↓slot_17, ↓fz_17, ↓get_18, ↓set_18, ↓slot_18, ↓fz_18, ↓get_19, ↓set_19, ↓slot_19, ↓fz_19, ↓get_20, ↓set_20, ↓slot_20, ↓fz_20, ↓get_21, ↓set_21, ↓slot_21, ↓fz_21, ↓get_22, ↓set_22, ↓slot_22, ↓fz_22, ↓get_23, ↓set_23, ↓slot_23, ↓fz_23, ↓get_24, ↓set_24, ↓slot_24, ↓fz_24, ↓get_25, ↓set_25, ↓slot_25, ↓fz_25, ↓f_sub, ↓f_lt, ↓f_le, ↓f_gt, ↓f_ge, ↓f_add, ↓f_mod, ↓f_fdiv, ↓f_mulL, ↓f_mulR, ↓f_neg, ↓f_abs, ↓f_intI, ↓f_intB, ↓f_lenL, ↓f_lenT, ↓f_tupL, ↓f_tupT, ↓f_lisL, ↓f_lisT, ↓f_isB, ↓f_isNotB, ↓f_isN, ↓f_isNotN, ↓f_all, ↓f_any, ↓f_sum, ↓f_isi_int_int, ↓f_isi_int_bool, ↓f_isi_int_tuple, ↓f_isi_int_str, ↓f_isi_int_list, ↓f_isi_bool_int, ↓f_isi_bool_bool, ↓f_isi_bool_tuple, ↓f_isi_bool_str, ↓f_isi_bool_list, ↓f_isi_tuple_int, ↓f_isi_tuple_bool, ↓f_isi_tuple_tuple, ↓f_isi_tuple_str, ↓f_isi_tuple_list, ↓f_isi_str_int, ↓f_isi_str_bool, ↓f_isi_str_tuple, ↓f_isi_str_str, ↓f_isi_str_list, ↓f_isi_list_int, ↓f_isi_list_bool, ↓f_isi_list_tuple, ↓f_isi_list_str, ↓f_isi_list_list, ↓h_pop, ↓h_pop0, ↓f_rngI, ↓f_ixl0, ↓f_ixl1, ↓f_ixl2, ↓f_ixl3, ↓f_ixl4, ↓f_ixl5, ↓f_ixt0, ↓f_ixt1, ↓f_ixt2, ↓f_ixt3, ↓f_ixt4, ↓f_ixt5, ↓f_sd0, ↓f_sd1, ↓f_sd2, ↓f_sd3, ↓f_sd4, ↓f_sd5, nd_none, nd_bool, nd_int, nd_str, nd_list, nd_tuple]
  refine ww_inv (fun k ρ => ∃ U : Tr, U.ok n ∧ U.dep = k ∧ U.leaf v = T.leaf v ∧ ρ = [some (.st U.d), some (.st (.tuple ((List.range n).map fun i => .tuple [nD i, .int (v i)])))]) T.dep hd ⟨T, hT, rfl, rfl, rfl⟩ fun k ρ z => ?_
  obtain ⟨U, h1, h2, h3, rfl⟩ := z
  cases U with
  | no =>
    rw [d_no]
    simp only [eq_self, Int.reduceLT, Int.reduceLE, Nat.reduceLT, Nat.reduceLeDiff, Int.reduceToNat, Int.toNat_natCast, ↓ws_seq, ↓sq_nx, ↓sq_rt, ↓sq_rf, ↓sq_bk, ↓sq_ct, ↓lq_nx, ↓lq_ct, ↓lq_bk, ↓lq_rt, ↓lq_rf, ↓ou_nx, ↓ou_rt, ↓ou_rf, ↓ws_next, ↓ws_break, ↓ws_cont, ↓ws_retNone, ↓ws_drop, ↓ws_ret, ↓ws_retF, ↓ws_set, ↓ws_setF, ↓rn_st, ↓rn_ow, ↓ws_retN, ↓sn_st, ↓sn_ow, ↓ws_setN, ↓ite_t, ↓ite_f, ↓ws_if, ↓ws_asg, ↓ws_store, ↓ws_aug, ↓ws_for, ↓ws_while, ↓we_c, ↓we_n, ↓we_op, ↓we_int, ↓wv_nil, ↓wv_ex, ↓wv_nm, ↓re_nil, ↓re_ex, ↓re_nm, ↓st_st, ↓ow_ow, ↓lk_st, ↓lk_ow, ↓bo_bo, ↓in_in, ↓wt_test, ↓wt_tru, ↓tr_bo, ↓tr_in, ↓tr_li, ↓tr_tu, ↓tr_no, ↓wt_not, ↓wt_and, ↓wt_or, ↓we_and, ↓we_or, ↓we_not, ↓we_if, ↓di_nil, ↓di_1, ↓di_2, ↓di_3, ↓di_4, ↓di_5, ↓di_6, ↓di_7, ↓di_8, ↓di_9, ↓di_10, ↓di_11, ↓di_12, ↓we_tup, ↓we_lst, ↓wm_nil, ↓wm_cons, ↓wa_nil, ↓wa_ex, ↓wa_st, ↓wa_io, ↓fz_nil, ↓fz_ex, ↓fz_io, ↓fy_st, ↓fy_ow, ↓ar_nil, ↓ar_ex, ↓ar_st, ↓ar_io, ↓pu_nil, ↓pu_cons, ↓we_call, ij_nil, ij_ex, ij_st, ij_io, ↓wg_nm, ↓wg_tu, ↓wg_tl, ↓wgs_nil, ↓wgs_cons, ↓we_methS', ↓ls_li, ↓we_meth, ↓we_chain, ↓we_rg1, ↓we_dict0, ↓we_get, ↓isd_d, ↓we_get2, ↓ws_put, ↓we_val, ↓wi_seq, ↓wi_rng, ↓wi_enum, ↓fq_seqL, ↓fq_seqT, ↓wt_yes, ↓rs_nil, ↓rs_cons, ↓wp_nil, ↓wp_cons, ↓we_comp, ↓we_compD, ↓we_comp2, ↓we_sset, ↓we_lset, ↓we_rev, ↓rv_l, ↓rv_t, ↓f_zip, ↓iq_nil, ↓iq_cons, ↓get_0, ↓set_0, ↓slot_0, ↓fz_0, ↓get_1, ↓set_1, ↓slot_1, ↓fz_1, ↓get_2, ↓set_2, ↓slot_2, ↓fz_2, ↓get_3, ↓set_3, ↓slot_3, ↓fz_3, ↓get_4, ↓set_4, ↓slot_4, ↓fz_4, ↓get_5, ↓set_5, ↓slot_5, ↓fz_5, ↓get_6, ↓set_6, ↓slot_6, ↓fz_6, ↓get_7, ↓set_7, ↓slot_7, ↓fz_7, ↓get_8, ↓set_8, ↓slot_8, ↓fz_8, ↓get_9, ↓set_9, ↓slot_9, ↓fz_9, ↓get_10, ↓set_10, ↓slot_10, ↓fz_10, ↓get_11, ↓set_11, ↓slot_11, ↓fz_11, ↓get_12, ↓set_12, ↓slot_12, ↓fz_12, ↓get_13, ↓set_13, ↓slot_13, ↓fz_13, ↓get_14, ↓set_14, ↓slot_14, ↓fz_14, ↓get_15, ↓set_15, ↓slot_15, ↓fz_15, ↓get_16, ↓set_16, ↓slot_16, ↓fz_16, ↓get_17, ↓set_17, ↓slot_17, ↓fz_17, ↓get_18, ↓set_18, ↓slot_18, ↓fz_18, ↓get_19, ↓set_19, ↓slot_19, ↓fz_19, ↓get_20, ↓set_20, ↓slot_20, ↓fz_20, ↓get_21, ↓set_21, ↓slot_21, ↓fz_21, ↓get_22, ↓set_22, ↓slot_22, ↓fz_22, ↓get_23, ↓set_23, ↓slot_23, ↓fz_23, ↓get_24, ↓set_24, ↓slot_24, ↓fz_24, ↓get_25, ↓set_25, ↓slot_25, ↓fz_25, ↓f_sub, ↓f_lt, ↓f_le, ↓f_gt, ↓f_ge, ↓f_add, ↓f_mod, ↓f_fdiv, ↓f_mulL, ↓f_mulR, ↓f_neg, ↓f_abs, ↓f_intI, ↓f_intB, ↓f_lenL, ↓f_lenT, ↓f_tupL, ↓f_tupT, ↓f_lisL, ↓f_lisT, ↓f_isB, ↓f_isNotB, ↓f_isN, ↓f_isNotN, ↓f_all, ↓f_any, ↓f_sum, ↓f_isi_int_int, ↓f_isi_int_bool, ↓f_isi_int_tuple, ↓f_isi_int_str, ↓f_isi_int_list, ↓f_isi_bool_int, ↓f_isi_bool_bool, ↓f_isi_bool_tuple, ↓f_isi_bool_str, ↓f_isi_bool_list, ↓f_isi_tuple_int, ↓f_isi_tuple_bool, ↓f_isi_tuple_tuple, ↓f_isi_tuple_str, ↓f_isi_tuple_list, ↓f_isi_str_int, ↓f_isi_str_bool, ↓f_isi_str_tuple, ↓f_isi_str_str, ↓f_isi_str_list, ↓f_isi_list_int, ↓f_isi_list_bool, ↓f_isi_list_tuple, ↓f_isi_list_str, ↓f_isi_list_list, ↓h_pop, ↓h_pop0, ↓f_rngI, ↓f_ixl0, ↓f_ixl1, ↓f_ixl2, ↓f_ixl3, ↓f_ixl4, ↓f_ixl5, ↓f_ixt0, ↓f_ixt1, ↓f_ixt2, ↓f_ixt3, ↓f_ixt4, ↓f_ixt5, ↓f_sd0, ↓f_sd1, ↓f_sd2, ↓f_sd3, ↓f_sd4, ↓f_sd5, nd_none, nd_bool, nd_int, nd_str, nd_list, nd_tuple, ↓f_eqS s_none s_test, show ((Str.ofString "none") == (Str.ofString "test")) = false from by decide +kernel]
    rw [← h3]
    exact ⟨rfl, trivial⟩
  | kind m =>
    rw [d_kind]
    simp only [eq_self, Int.reduceLT, Int.reduceLE, Nat.reduceLT, Nat.reduceLeDiff, Int.reduceToNat, Int.toNat_natCast, ↓ws_seq, ↓sq_nx, ↓sq_rt, ↓sq_rf, ↓sq_bk, ↓sq_ct, ↓lq_nx, ↓lq_ct, ↓lq_bk, ↓lq_rt, ↓lq_rf, ↓ou_nx, ↓ou_rt, ↓ou_rf, ↓ws_next, ↓ws_break, ↓ws_cont, ↓ws_retNone, ↓ws_drop, ↓ws_ret, ↓ws_retF, ↓ws_set, ↓ws_setF, ↓rn_st, ↓rn_ow, ↓ws_retN, ↓sn_st, ↓sn_ow, ↓ws_setN, ↓ite_t, ↓ite_f, ↓ws_if, ↓ws_asg, ↓ws_store, ↓ws_aug, ↓ws_for, ↓ws_while, ↓we_c, ↓we_n, ↓we_op, ↓we_int, ↓wv_nil, ↓wv_ex, ↓wv_nm, ↓re_nil, ↓re_ex, ↓re_nm, ↓st_st, ↓ow_ow, ↓lk_st, ↓lk_ow, ↓bo_bo, ↓in_in, ↓wt_test, ↓wt_tru, ↓tr_bo, ↓tr_in, ↓tr_li, ↓tr_tu, ↓tr_no, ↓wt_not, ↓wt_and, ↓wt_or, ↓we_and, ↓we_or, ↓we_not, ↓we_if, ↓di_nil, ↓di_1, ↓di_2, ↓di_3, ↓di_4, ↓di_5, ↓di_6, ↓di_7, ↓di_8, ↓di_9, ↓di_10, ↓di_11, ↓di_12, ↓we_tup, ↓we_lst, ↓wm_nil, ↓wm_cons, ↓wa_nil, ↓wa_ex, ↓wa_st, ↓wa_io, ↓fz_nil, ↓fz_ex, ↓fz_io, ↓fy_st, ↓fy_ow, ↓ar_nil, ↓ar_ex, ↓ar_st, ↓ar_io, ↓pu_nil, ↓pu_cons, ↓we_call, ij_nil, ij_ex, ij_st, ij_io, ↓wg_nm, ↓wg_tu, ↓wg_tl, ↓wgs_nil, ↓wgs_cons, ↓we_methS', ↓ls_li, ↓we_meth, ↓we_chain, ↓we_rg1, ↓we_dict0, ↓we_get, ↓isd_d, ↓we_get2, ↓ws_put, ↓we_val, ↓wi_seq, ↓wi_rng, ↓wi_enum, ↓fq_seqL, ↓fq_seqT, ↓wt_yes, ↓rs_nil, ↓rs_cons, ↓wp_nil, ↓wp_cons, ↓we_comp, ↓we_compD, ↓we_comp2, ↓we_sset, ↓we_lset, ↓we_rev, ↓rv_l, ↓rv_t, ↓f_zip, ↓iq_nil, ↓iq_cons, ↓get_0, ↓set_0, ↓slot_0, ↓fz_0, ↓get_1, ↓set_1, ↓slot_1, ↓fz_1, ↓get_2, ↓set_2, ↓slot_2, ↓fz_2, ↓get_3, ↓set_3, ↓slot_3, ↓fz_3, ↓get_4, ↓set_4, ↓slot_4, ↓fz_4, ↓get_5, ↓set_5, ↓slot_5, ↓fz_5, ↓get_6, ↓set_6, ↓slot_6, ↓fz_6, ↓get_7, ↓set_7, ↓slot_7, ↓fz_7, ↓get_8, ↓set_8, ↓slot_8, ↓fz_8, ↓get_9, ↓set_9, ↓slot_9, ↓fz_9, ↓get_10, ↓set_10, ↓slot_10, ↓fz_10, ↓get_11, ↓set_11, ↓slot_11, ↓fz_11, ↓get_12, ↓set_12, ↓slot_12, ↓fz_12, ↓get_13, ↓set_13, ↓slot_13, ↓fz_13, ↓get_14, ↓set_14, ↓slot_14, ↓fz_14, ↓get_15, ↓set_15, ↓slot_15, ↓fz_15, ↓get_16, ↓set_16, ↓slot_16, ↓fz_16, ↓get_17, ↓set_17, ↓slot_17, ↓fz_17, ↓get_18, ↓set_18, ↓slot_18, ↓fz_18, ↓get_19, ↓set_19, ↓slot_19, ↓fz_19, ↓get_20, ↓set_20, ↓slot_20, ↓fz_20, ↓get_21, ↓set_21, ↓slot_21, ↓fz_21, ↓get_22, ↓set_22, ↓slot_22, ↓fz_22, ↓get_23, ↓set_23, ↓slot_23, ↓fz_23, ↓get_24, ↓set_24, ↓slot_24, ↓fz_24, ↓get_25, ↓set_25, ↓slot_25, ↓fz_25, ↓f_sub, ↓f_lt, ↓f_le, ↓f_gt, ↓f_ge, ↓f_add, ↓f_mod, ↓f_fdiv, ↓f_mulL, ↓f_mulR, ↓f_neg, ↓f_abs, ↓f_intI, ↓f_intB, ↓f_lenL, ↓f_lenT, ↓f_tupL, ↓f_tupT, ↓f_lisL, ↓f_lisT, ↓f_isB, ↓f_isNotB, ↓f_isN, ↓f_isNotN, ↓f_all, ↓f_any, ↓f_sum, ↓f_isi_int_int, ↓f_isi_int_bool, ↓f_isi_int_tuple, ↓f_isi_int_str, ↓f_isi_int_list, ↓f_isi_bool_int, ↓f_isi_bool_bool, ↓f_isi_bool_tuple, ↓f_isi_bool_str, ↓f_isi_bool_list, ↓f_isi_tuple_int, ↓f_isi_tuple_bool, ↓f_isi_tuple_tuple, ↓f_isi_tuple_str, ↓f_isi_tuple_list, ↓f_isi_str_int, ↓f_isi_str_bool, ↓f_isi_str_tuple, ↓f_isi_str_str, ↓f_isi_str_list, ↓f_isi_list_int, ↓f_isi_list_bool, ↓f_isi_list_tuple, ↓f_isi_list_str, ↓f_isi_list_list, ↓h_pop, ↓h_pop0, ↓f_rngI, ↓f_ixl0, ↓f_ixl1, ↓f_ixl2, ↓f_ixl3, ↓f_ixl4, ↓f_ixl5, ↓f_ixt0, ↓f_ixt1, ↓f_ixt2, ↓f_ixt3, ↓f_ixt4, ↓f_ixt5, ↓f_sd0, ↓f_sd1, ↓f_sd2, ↓f_sd3, ↓f_sd4, ↓f_sd5, nd_none, nd_bool, nd_int, nd_str, nd_list, nd_tuple, ↓f_eqS s_kind s_test, show ((Str.ofString "kind") == (Str.ofString "test")) = false from by decide +kernel]
    rw [← h3]
    exact ⟨rfl, trivial⟩
  | test c ts a b =>
    obtain ⟨⟨g1, g2⟩, g3, g4⟩ := h1
    rw [d_test]
    simp only [eq_self, Int.reduceLT, Int.reduceLE, Nat.reduceLT, Nat.reduceLeDiff, Int.reduceToNat, Int.toNat_natCast, ↓ws_seq, ↓sq_nx, ↓sq_rt, ↓sq_rf, ↓sq_bk, ↓sq_ct, ↓lq_nx, ↓lq_ct, ↓lq_bk, ↓lq_rt, ↓lq_rf, ↓ou_nx, ↓ou_rt, ↓ou_rf, ↓ws_next, ↓ws_break, ↓ws_cont, ↓ws_retNone, ↓ws_drop, ↓ws_ret, ↓ws_retF, ↓ws_set, ↓ws_setF, ↓rn_st, ↓rn_ow, ↓ws_retN, ↓sn_st, ↓sn_ow, ↓ws_setN, ↓ite_t, ↓ite_f, ↓ws_if, ↓ws_asg, ↓ws_store, ↓ws_aug, ↓ws_for, ↓ws_while, ↓we_c, ↓we_n, ↓we_op, ↓we_int, ↓wv_nil, ↓wv_ex, ↓wv_nm, ↓re_nil, ↓re_ex, ↓re_nm, ↓st_st, ↓ow_ow, ↓lk_st, ↓lk_ow, ↓bo_bo, ↓in_in, ↓wt_test, ↓wt_tru, ↓tr_bo, ↓tr_in, ↓tr_li, ↓tr_tu, ↓tr_no, ↓wt_not, ↓wt_and, ↓wt_or, ↓we_and, ↓we_or, ↓we_not, ↓we_if, ↓di_nil, ↓di_1, ↓di_2, ↓di_3, ↓di_4, ↓di_5, ↓di_6, ↓di_7, ↓di_8, ↓di_9, ↓di_10, ↓di_11, ↓di_12, ↓we_tup, ↓we_lst, ↓wm_nil, ↓wm_cons, ↓wa_nil, ↓wa_ex, ↓wa_st, ↓wa_io, ↓fz_nil, ↓fz_ex, ↓fz_io, ↓fy_st, ↓fy_ow, ↓ar_nil, ↓ar_ex, ↓ar_st, ↓ar_io, ↓pu_nil, ↓pu_cons, ↓we_call, ij_nil, ij_ex, ij_st, ij_io, ↓wg_nm, ↓wg_tu, ↓wg_tl, ↓wgs_nil, ↓wgs_cons, ↓we_methS', ↓ls_li, ↓we_meth, ↓we_chain, ↓we_rg1, ↓we_dict0, ↓we_get, ↓isd_d, ↓we_get2, ↓ws_put, ↓we_val, ↓wi_seq, ↓wi_rng, ↓wi_enum, ↓fq_seqL, ↓fq_seqT, ↓wt_yes, ↓rs_nil, ↓rs_cons, ↓wp_nil, ↓wp_cons, ↓we_comp, ↓we_compD, ↓we_comp2, ↓we_sset, ↓we_lset, ↓we_rev, ↓rv_l, ↓rv_t, ↓f_zip, ↓iq_nil, ↓iq_cons, ↓get_0, ↓set_0, ↓slot_0, ↓fz_0, ↓get_1, ↓set_1, ↓slot_1, ↓fz_1, ↓get_2, ↓set_2, ↓slot_2, ↓fz_2, ↓get_3, ↓set_3, ↓slot_3, ↓fz_3, ↓get_4, ↓set_4, ↓slot_4, ↓fz_4, ↓get_5, ↓set_5, ↓slot_5, ↓fz_5, ↓get_6, ↓set_6, ↓slot_6, ↓fz_6, ↓get_7, ↓set_7, ↓slot_7, ↓fz_7, ↓get_8, ↓set_8, ↓slot_8, ↓fz_8, ↓get_9, ↓set_9, ↓slot_9, ↓fz_9, ↓get_10, ↓set_10, ↓slot_10, ↓fz_10, ↓get_11, ↓set_11, ↓slot_11, ↓fz_11, ↓get_12, ↓set_12, ↓slot_12, ↓fz_12, ↓get_13, ↓set_13, ↓slot_13, ↓fz_13, ↓get_14, ↓set_14, ↓slot_14, ↓fz_14, ↓get_15, ↓set_15, ↓slot_15, ↓fz_15, ↓get_16, ↓set_16, ↓slot_16, ↓fz_16, ↓get_17, ↓set_17, ↓slot_17, ↓fz_17, ↓get_18, ↓set_18, ↓slot_18, ↓fz_18, ↓get_19, ↓set_19, ↓slot_19, ↓fz_19, ↓get_20, ↓set_20, ↓slot_20, ↓fz_20, ↓get_21, ↓set_21, ↓slot_21, ↓fz_21, ↓get_22, ↓set_22, ↓slot_22, ↓fz_22, ↓get_23, ↓set_23, ↓slot_23, ↓fz_23, ↓get_24, ↓set_24, ↓slot_24, ↓fz_24, ↓get_25, ↓set_25, ↓slot_25, ↓fz_25, ↓f_sub, ↓f_lt, ↓f_le, ↓f_gt, ↓f_ge, ↓f_add, ↓f_mod, ↓f_fdiv, ↓f_mulL, ↓f_mulR, ↓f_neg, ↓f_abs, ↓f_intI, ↓f_intB, ↓f_lenL, ↓f_lenT, ↓f_tupL, ↓f_tupT, ↓f_lisL, ↓f_lisT, ↓f_isB, ↓f_isNotB, ↓f_isN, ↓f_isNotN, ↓f_all, ↓f_any, ↓f_sum, ↓f_isi_int_int, ↓f_isi_int_bool, ↓f_isi_int_tuple, ↓f_isi_int_str, ↓f_isi_int_list, ↓f_isi_bool_int, ↓f_isi_bool_bool, ↓f_isi_bool_tuple, ↓f_isi_bool_str, ↓f_isi_bool_list, ↓f_isi_tuple_int, ↓f_isi_tuple_bool, ↓f_isi_tuple_tuple, ↓f_isi_tuple_str, ↓f_isi_tuple_list, ↓f_isi_str_int, ↓f_isi_str_bool, ↓f_isi_str_tuple, ↓f_isi_str_str, ↓f_isi_str_list, ↓f_isi_list_int, ↓f_isi_list_bool, ↓f_isi_list_tuple, ↓f_isi_list_str, ↓f_isi_list_list, ↓h_pop, ↓h_pop0, ↓f_rngI, ↓f_ixl0, ↓f_ixl1, ↓f_ixl2, ↓f_ixl3, ↓f_ixl4, ↓f_ixl5, ↓f_ixt0, ↓f_ixt1, ↓f_ixt2, ↓f_ixt3, ↓f_ixt4, ↓f_ixt5, ↓f_sd0, ↓f_sd1, ↓f_sd2, ↓f_sd3, ↓f_sd4, ↓f_sd5, nd_none, nd_bool, nd_int, nd_str, nd_list, nd_tuple, ↓f_eqS s_test s_test, beq_self_eq_true]
    unfold b1_leaf_at
    simp only [eq_self, Int.reduceLT, Int.reduceLE, Nat.reduceLT, Nat.reduceLeDiff, Int.reduceToNat, Int.toNat_natCast, ↓ws_seq, ↓sq_nx, ↓sq_rt, ↓sq_rf, ↓sq_bk, ↓sq_ct, ↓lq_nx, ↓lq_ct, ↓lq_bk, ↓lq_rt, ↓lq_rf, ↓ou_nx, ↓ou_rt, ↓ou_rf, ↓ws_next, ↓ws_break, ↓ws_cont, ↓ws_retNone, ↓ws_drop, ↓ws_ret, ↓ws_retF, ↓ws_set, ↓ws_setF, ↓rn_st, ↓rn_ow, ↓ws_retN, ↓sn_st, ↓sn_ow, ↓ws_setN, ↓ite_t, ↓ite_f, ↓ws_if, ↓ws_asg, ↓ws_store, ↓ws_aug, ↓ws_for, ↓ws_while, ↓we_c, ↓we_n, ↓we_op, ↓we_int, ↓wv_nil, ↓wv_ex, ↓wv_nm, ↓re_nil, ↓re_ex, ↓re_nm, ↓st_st, ↓ow_ow, ↓lk_st, ↓lk_ow, ↓bo_bo, ↓in_in, ↓wt_test, ↓wt_tru, ↓tr_bo, ↓tr_in, ↓tr_li, ↓tr_tu, ↓tr_no, ↓wt_not, ↓wt_and, ↓wt_or, ↓we_and, ↓we_or, ↓we_not, ↓we_if, ↓di_nil, ↓di_1, ↓di_2, ↓di_3, ↓di_4, ↓di_5, ↓di_6, ↓di_7, ↓di_8, ↓di_9, ↓di_10, ↓di_11, ↓di_12, ↓we_tup, ↓we_lst, ↓wm_nil, ↓wm_cons, ↓wa_nil, ↓wa_ex, ↓wa_st, ↓wa_io, ↓fz_nil, ↓fz_ex, ↓fz_io, ↓fy_st, ↓fy_ow, ↓ar_nil, ↓ar_ex, ↓ar_st, ↓ar_io, ↓pu_nil, ↓pu_cons, ↓we_call, ij_nil, ij_ex, ij_st, ij_io, ↓wg_nm, ↓wg_tu, ↓wg_tl, ↓wgs_nil, ↓wgs_cons, ↓we_methS', ↓ls_li, ↓we_meth, ↓we_chain, ↓we_rg1, ↓we_dict0, ↓we_get, ↓isd_d, ↓we_get2, ↓ws_put, ↓we_val, ↓wi_seq, ↓wi_rng, ↓wi_enum, ↓fq_seqL, ↓fq_seqT, ↓wt_yes, ↓rs_nil, ↓rs_cons, ↓wp_nil, ↓wp_cons, ↓we_comp, ↓we_compD, ↓we_comp2, ↓we_sset, ↓we_lset, ↓we_rev, ↓rv_l, ↓rv_t, ↓f_zip, ↓iq_nil, ↓iq_cons, ↓get_0, ↓set_0, ↓slot_0, ↓fz_0, ↓get_1, ↓set_1, ↓slot_1, ↓fz_1, ↓get_2, ↓set_2, ↓slot_2, ↓fz_2, ↓get_3, ↓set_3, ↓slot_3, ↓fz_3, ↓get_4, ↓set_4, ↓slot_4, ↓fz_4, ↓get_5, ↓set_5, ↓slot_5, ↓fz_5, ↓get_6, ↓set_6, ↓slot_6, ↓fz_6, ↓get_7, ↓set_7, ↓slot_7, ↓fz_7, ↓get_8, ↓set_8, ↓slot_8, ↓fz_8, ↓get_9, ↓set_9, ↓slot_9, ↓fz_9, ↓get_10, ↓set_10, ↓slot_10, ↓fz_10, ↓get_11, ↓set_11, ↓slot_11, ↓fz_11, ↓get_12, ↓set_12, ↓slot_12, ↓fz_12, ↓get_13, ↓set_13, ↓slot_13, ↓fz_13, ↓get_14, ↓set_14, ↓slot_14, ↓fz_14, ↓get_15, ↓set_15, ↓slot_15, ↓fz_15, ↓get_16, ↓set_16, ↓slot_16, ↓fz_16, ↓get_17, ↓set_17, ↓slot_17, ↓fz_17, ↓get_18, ↓set_18, ↓slot_18, ↓fz_18, ↓get_19, ↓set_19, ↓slot_19, ↓fz_19, ↓get_20, ↓set_20, ↓slot_20, ↓fz_20, ↓get_21, ↓set_21, ↓slot_21, ↓fz_21, ↓get_22, ↓set_22, ↓slot_22, ↓fz_22, ↓get_23, ↓set_23, ↓slot_23, ↓fz_23, ↓get_24, ↓set_24, ↓slot_24, ↓fz_24, ↓get_25, ↓set_25, ↓slot_25, ↓fz_25, ↓f_sub, ↓f_lt, ↓f_le, ↓f_gt, ↓f_ge, ↓f_add, ↓f_mod, ↓f_fdiv, ↓f_mulL, ↓f_mulR, ↓f_neg, ↓f_abs, ↓f_intI, ↓f_intB, ↓f_lenL, ↓f_lenT, ↓f_tupL, ↓f_tupT, ↓f_lisL, ↓f_lisT, ↓f_isB, ↓f_isNotB, ↓f_isN, ↓f_isNotN, ↓f_all, ↓f_any, ↓f_sum, ↓f_isi_int_int, ↓f_isi_int_bool, ↓f_isi_int_tuple, ↓f_isi_int_str, ↓f_isi_int_list, ↓f_isi_bool_int, ↓f_isi_bool_bool, ↓f_isi_bool_tuple, ↓f_isi_bool_str, ↓f_isi_bool_list, ↓f_isi_tuple_int, ↓f_isi_tuple_bool, ↓f_isi_tuple_tuple, ↓f_isi_tuple_str, ↓f_isi_tuple_list, ↓f_isi_str_int, ↓f_isi_str_bool, ↓f_isi_str_tuple, ↓f_isi_str_str, ↓f_isi_str_list, ↓f_isi_list_int, ↓f_isi_list_bool, ↓f_isi_list_tuple, ↓f_isi_list_str, ↓f_isi_list_list, ↓h_pop, ↓h_pop0, ↓f_rngI, ↓f_ixl0, ↓f_ixl1, ↓f_ixl2, ↓f_ixl3, ↓f_ixl4, ↓f_ixl5, ↓f_ixt0, ↓f_ixt1, ↓f_ixt2, ↓f_ixt3, ↓f_ixt4, ↓f_ixt5, ↓f_sd0, ↓f_sd1, ↓f_sd2, ↓f_sd3, ↓f_sd4, ↓f_sd5, nd_none, nd_bool, nd_int, nd_str, nd_list, nd_tuple, ↓WF.of (value_eq hn hv g1 g2)]
    by_cases hz : 0 ≤ val v c ts
    · simp only [decide_eq_true hz, eq_self, Int.reduceLT, Int.reduceLE, Nat.reduceLT, Nat.reduceLeDiff, Int.reduceToNat, Int.toNat_natCast, ↓ws_seq, ↓sq_nx, ↓sq_rt, ↓sq_rf, ↓sq_bk, ↓sq_ct, ↓lq_nx, ↓lq_ct, ↓lq_bk, ↓lq_rt, ↓lq_rf, ↓ou_nx, ↓ou_rt, ↓ou_rf, ↓ws_next, ↓ws_break, ↓ws_cont, ↓ws_retNone, ↓ws_drop, ↓ws_ret, ↓ws_retF, ↓ws_set, ↓ws_setF, ↓rn_st, ↓rn_ow, ↓ws_retN, ↓sn_st, ↓sn_ow, ↓ws_setN, ↓ite_t, ↓ite_f, ↓ws_if, ↓ws_asg, ↓ws_store, ↓ws_aug, ↓ws_for, ↓ws_while, ↓we_c, ↓we_n, ↓we_op, ↓we_int, ↓wv_nil, ↓wv_ex, ↓wv_nm, ↓re_nil, ↓re_ex, ↓re_nm, ↓st_st, ↓ow_ow, ↓lk_st, ↓lk_ow, ↓bo_bo, ↓in_in, ↓wt_test, ↓wt_tru, ↓tr_bo, ↓tr_in, ↓tr_li, ↓tr_tu, ↓tr_no, ↓wt_not, ↓wt_and, ↓wt_or, ↓we_and, ↓we_or, ↓we_not, ↓we_if, ↓di_nil, ↓di_1, ↓di_2, ↓di_3, ↓di_4, ↓di_5, ↓di_6, ↓di_7, ↓di_8, ↓di_9, ↓di_10, ↓di_11, ↓di_12, ↓we_tup, ↓we_lst, ↓wm_nil, ↓wm_cons, ↓wa_nil, ↓wa_ex, ↓wa_st, ↓wa_io, ↓fz_nil, ↓fz_ex, ↓fz_io, ↓fy_st, ↓fy_ow, ↓ar_nil, ↓ar_ex, ↓ar_st, ↓ar_io, ↓pu_nil, ↓pu_cons, ↓we_call, ij_nil, ij_ex, ij_st, ij_io, ↓wg_nm, ↓wg_tu, ↓wg_tl, ↓wgs_nil, ↓wgs_cons, ↓we_methS', ↓ls_li, ↓we_meth, ↓we_chain, ↓we_rg1, ↓we_dict0, ↓we_get, ↓isd_d, ↓we_get2, ↓ws_put, ↓we_val, ↓wi_seq, ↓wi_rng, ↓wi_enum, ↓fq_seqL, ↓fq_seqT, ↓wt_yes, ↓rs_nil, ↓rs_cons, ↓wp_nil, ↓wp_cons, ↓we_comp, ↓we_compD, ↓we_comp2, ↓we_sset, ↓we_lset, ↓we_rev, ↓rv_l, ↓rv_t, ↓f_zip, ↓iq_nil, ↓iq_cons, ↓get_0, ↓set_0, ↓slot_0, ↓fz_0, ↓get_1, ↓set_1, ↓slot_1, ↓fz_1, ↓get_2, ↓set_2, ↓slot_2, ↓fz_2, ↓get_3, ↓set_3, ↓slot_3, ↓fz_3, ↓get_4, ↓set_4, ↓slot_4, ↓fz_4, ↓get_5, ↓set_5, ↓slot_5, ↓fz_5, ↓get_6, ↓set_6, ↓slot_6, ↓fz_6, ↓get_7, ↓set_7, ↓slot_7, ↓fz_7, ↓get_8, ↓set_8, ↓slot_8, ↓fz_8, ↓get_9, ↓set_9, ↓slot_9, ↓fz_9, ↓get_10, ↓set_10, ↓slot_10, ↓fz_10, ↓get_11, ↓set_11, ↓slot_11, ↓fz_11, ↓get_12, ↓set_12, ↓slot_12, ↓fz_12, ↓get_13, ↓set_13, ↓slot_13, ↓fz_13, ↓get_14, ↓set_14, ↓slot_14, ↓fz_14, ↓get_15, ↓set_15, ↓slot_15, ↓fz_15, ↓get_16, ↓set_16, ↓slot_16, ↓fz_16, ↓get_17, ↓set_17, ↓slot_17, ↓fz_17, ↓get_18, ↓set_18, ↓slot_18, ↓fz_18, ↓get_19, ↓set_19, ↓slot_19, ↓fz_19, ↓get_20, ↓set_20, ↓slot_20, ↓fz_20, ↓get_21, ↓set_21, ↓slot_21, ↓fz_21, ↓get_22, ↓set_22, ↓slot_22, ↓fz_22, ↓get_23, ↓set_23, ↓slot_23, ↓fz_23, ↓get_24, ↓set_24, ↓slot_24, ↓fz_24, ↓get_25, ↓set_25, ↓slot_25, ↓fz_25, ↓f_sub, ↓f_lt, ↓f_le, ↓f_gt, ↓f_ge, ↓f_add, ↓f_mod, ↓f_fdiv, ↓f_mulL, ↓f_mulR, ↓f_neg, ↓f_abs, ↓f_intI, ↓f_intB, ↓f_lenL, ↓f_lenT, ↓f_tupL, ↓f_tupT, ↓f_lisL, ↓f_lisT, ↓f_isB, ↓f_isNotB, ↓f_isN, ↓f_isNotN, ↓f_all, ↓f_any, ↓f_sum, ↓f_isi_int_int, ↓f_isi_int_bool, ↓f_isi_int_tuple, ↓f_isi_int_str, ↓f_isi_int_list, ↓f_isi_bool_int, ↓f_isi_bool_bool, ↓f_isi_bool_tuple, ↓f_isi_bool_str, ↓f_isi_bool_list, ↓f_isi_tuple_int, ↓f_isi_tuple_bool, ↓f_isi_tuple_tuple, ↓f_isi_tuple_str, ↓f_isi_tuple_list, ↓f_isi_str_int, ↓f_isi_str_bool, ↓f_isi_str_tuple, ↓f_isi_str_str, ↓f_isi_str_list, ↓f_isi_list_int, ↓f_isi_list_bool, ↓f_isi_list_tuple, ↓f_isi_list_str, ↓f_isi_list_list, ↓h_pop, ↓h_pop0, ↓f_rngI, ↓f_ixl0, ↓f_ixl1, ↓f_ixl2, ↓f_ixl3, ↓f_ixl4, ↓f_ixl5, ↓f_ixt0, ↓f_ixt1, ↓f_ixt2, ↓f_ixt3, ↓f_ixt4, ↓f_ixt5, ↓f_sd0, ↓f_sd1, ↓f_sd2, ↓f_sd3, ↓f_sd4, ↓f_sd5, nd_none, nd_bool, nd_int, nd_str, nd_list, nd_tuple]
      refine ⟨a.dep, ?_, a, g3, rfl, ?_, rfl⟩
      · rw [← h2]
        exact Nat.lt_succ_of_le (Nat.le_max_left _ _)
      · rw [← h3]
        show _ = if _ then _ else _
        rw [if_pos hz]
    · simp only [decide_eq_false hz, eq_self, Int.reduceLT, Int.reduceLE, Nat.reduceLT, Nat.reduceLeDiff, Int.reduceToNat, Int.toNat_natCast, ↓ws_seq, ↓sq_nx, ↓sq_rt, ↓sq_rf, ↓sq_bk, ↓sq_ct, ↓lq_nx, ↓lq_ct, ↓lq_bk, ↓lq_rt, ↓lq_rf, ↓ou_nx, ↓ou_rt, ↓ou_rf, ↓ws_next, ↓ws_break, ↓ws_cont, ↓ws_retNone, ↓ws_drop, ↓ws_ret, ↓ws_retF, ↓ws_set, ↓ws_setF, ↓rn_st, ↓rn_ow, ↓ws_retN, ↓sn_st, ↓sn_ow, ↓ws_setN, ↓ite_t, ↓ite_f, ↓ws_if, ↓ws_asg, ↓ws_store, ↓ws_aug, ↓ws_for, ↓ws_while, ↓we_c, ↓we_n, ↓we_op, ↓we_int, ↓wv_nil, ↓wv_ex, ↓wv_nm, ↓re_nil, ↓re_ex, ↓re_nm, ↓st_st, ↓ow_ow, ↓lk_st, ↓lk_ow, ↓bo_bo, ↓in_in, ↓wt_test, ↓wt_tru, ↓tr_bo, ↓tr_in, ↓tr_li, ↓tr_tu, ↓tr_no, ↓wt_not, ↓wt_and, ↓wt_or, ↓we_and, ↓we_or, ↓we_not, ↓we_if, ↓di_nil, ↓di_1, ↓di_2, ↓di_3, ↓di_4, ↓di_5, ↓di_6, ↓di_7, ↓di_8, ↓di_9, ↓di_10, ↓di_11, ↓di_12, ↓we_tup, ↓we_lst, ↓wm_nil, ↓wm_cons, ↓wa_nil, ↓wa_ex, ↓wa_st, ↓wa_io, ↓fz_nil, ↓fz_ex, ↓fz_io, ↓fy_st, ↓fy_ow, ↓ar_nil, ↓ar_ex, ↓ar_st, ↓ar_io, ↓pu_nil, ↓pu_cons, ↓we_call, ij_nil, ij_ex, ij_st, ij_io, ↓wg_nm, ↓wg_tu, ↓wg_tl, ↓wgs_nil, ↓wgs_cons, ↓we_methS', ↓ls_li, ↓we_meth, ↓we_chain, ↓we_rg1, ↓we_dict0, ↓we_get, ↓isd_d, ↓we_get2, ↓ws_put, ↓we_val, ↓wi_seq, ↓wi_rng, ↓wi_enum, ↓fq_seqL, ↓fq_seqT, ↓wt_yes, ↓rs_nil, ↓rs_cons, ↓wp_nil, ↓wp_cons, ↓we_comp, ↓we_compD, ↓we_comp2, ↓we_sset, ↓we_lset, ↓we_rev, ↓rv_l, ↓rv_t, ↓f_zip, ↓iq_nil, ↓iq_cons, ↓get_0, ↓set_0, ↓slot_0, ↓fz_0, ↓get_1, ↓set_1, ↓slot_1, ↓fz_1, ↓get_2, ↓set_2, ↓slot_2, ↓fz_2, ↓get_3, ↓set_3, ↓slot_3, ↓fz_3, ↓get_4, ↓set_4, ↓slot_4, ↓fz_4, ↓get_5, ↓set_5, ↓slot_5, ↓fz_5, ↓get_6, ↓set_6, ↓slot_6, ↓fz_6, ↓get_7, ↓set_7, ↓slot_7, ↓fz_7, ↓get_8, ↓set_8, ↓slot_8, ↓fz_8, ↓get_9, ↓set_9, ↓slot_9, ↓fz_9, ↓get_10, ↓set_10, ↓slot_10, ↓fz_10, ↓get_11, ↓set_11, ↓slot_11, ↓fz_11, ↓get_12, ↓set_12, ↓slot_12, ↓fz_12, ↓get_13, ↓set_13, ↓slot_13, ↓fz_13, ↓get_14, ↓set_14, ↓slot_14, ↓fz_14, ↓get_15, ↓set_15, ↓slot_15, ↓fz_15, ↓get_16, ↓set_16, ↓slot_16, ↓fz_16, ↓get_17, ↓set_17, ↓slot_17, ↓fz_17, ↓get_18, ↓set_18, ↓slot_18, ↓fz_18, ↓get_19, ↓set_19, ↓slot_19, ↓fz_19, ↓get_20, ↓set_20, ↓slot_20, ↓fz_20, ↓get_21, ↓set_21, ↓slot_21, ↓fz_21, ↓get_22, ↓set_22, ↓slot_22, ↓fz_22, ↓get_23, ↓set_23, ↓slot_23, ↓fz_23, ↓get_24, ↓set_24, ↓slot_24, ↓fz_24, ↓get_25, ↓set_25, ↓slot_25, ↓fz_25, ↓f_sub, ↓f_lt, ↓f_le, ↓f_gt, ↓f_ge, ↓f_add, ↓f_mod, ↓f_fdiv, ↓f_mulL, ↓f_mulR, ↓f_neg, ↓f_abs, ↓f_intI, ↓f_intB, ↓f_lenL, ↓f_lenT, ↓f_tupL, ↓f_tupT, ↓f_lisL, ↓f_lisT, ↓f_isB, ↓f_isNotB, ↓f_isN, ↓f_isNotN, ↓f_all, ↓f_any, ↓f_sum, ↓f_isi_int_int, ↓f_isi_int_bool, ↓f_isi_int_tuple, ↓f_isi_int_str, ↓f_isi_int_list, ↓f_isi_bool_int, ↓f_isi_bool_bool, ↓f_isi_bool_tuple, ↓f_isi_bool_str, ↓f_isi_bool_list, ↓f_isi_tuple_int, ↓f_isi_tuple_bool, ↓f_isi_tuple_tuple, ↓f_isi_tuple_str, ↓f_isi_tuple_list, ↓f_isi_str_int, ↓f_isi_str_bool, ↓f_isi_str_tuple, ↓f_isi_str_str, ↓f_isi_str_list, ↓f_isi_list_int, ↓f_isi_list_bool, ↓f_isi_list_tuple, ↓f_isi_list_str, ↓f_isi_list_list, ↓h_pop, ↓h_pop0, ↓f_rngI, ↓f_ixl0, ↓f_ixl1, ↓f_ixl2, ↓f_ixl3, ↓f_ixl4, ↓f_ixl5, ↓f_ixt0, ↓f_ixt1, ↓f_ixt2, ↓f_ixt3, ↓f_ixt4, ↓f_ixt5, ↓f_sd0, ↓f_sd1, ↓f_sd2, ↓f_sd3, ↓f_sd4, ↓f_sd5, nd_none, nd_bool, nd_int, nd_str, nd_list, nd_tuple]
      refine ⟨b.dep, ?_, b, g4, rfl, ?_, rfl⟩
      · rw [← h2]
        exact Nat.lt_succ_of_le (Nat.le_max_right _ _)
      · rw [← h3]
        show _ = if _ then _ else _
        rw [if_neg hz])
theorem law_leaf_eq {v : Nat → Int} {n : Nat} (hn : n < 4) (hv : small v n) {T : Tr} (hT : T.ok n) (hd : T.dep ≤ 8) : F_law_leaf [T.d, .dict (tab v n)] = some ((T.leaf v).d, []) := wf_eq (by
  rw [run_law_leaf]
  unfold m_law_leaf
  simp only [eq_self, Int.reduceLT, Int.reduceLE, Nat.reduceLT, Nat.reduceLeDiff, Int.reduceToNat, Int.toNat_natCast, ↓ws_seq, ↓sq_nx, ↓sq_rt, ↓sq_rf, ↓sq_bk, ↓sq_ct, ↓lq_nx, ↓lq_ct, ↓lq_bk, ↓lq_rt, ↓lq_rf, ↓ou_nx, ↓ou_rt, ↓ou_rf, ↓ws_next, ↓ws_break, ↓ws_cont, ↓ws_retNone, ↓ws_drop, ↓ws_ret, ↓ws_retF, ↓ws_set, ↓ws_setF, ↓rn_st, ↓rn_ow, ↓ws_retN, ↓sn_st, ↓sn_ow, ↓ws_setN, ↓ite_t, ↓ite_f, ↓ws_if, ↓ws_asg, ↓ws_store, ↓ws_aug, ↓ws_for, ↓ws_while, ↓we_c, ↓we_n, ↓we_op, ↓we_int, ↓wv_nil, ↓wv_ex, ↓wv_nm, ↓re_nil, ↓re_ex, ↓re_nm, ↓st_st, ↓ow_ow, ↓lk_st, ↓lk_ow, ↓bo_bo, ↓in_in, ↓wt_test, ↓wt_tru, ↓tr_bo, ↓tr_in, ↓tr_li, ↓tr_tu, ↓tr_no, ↓wt_not, ↓wt_and, ↓wt_or, ↓we_and, ↓we_or, ↓we_not, ↓we_if, ↓di_nil, ↓di_1, ↓di_2, ↓di_3, ↓di_4, ↓di_5, ↓di_6, ↓di_7, ↓di_8, ↓di_9, ↓di_10, ↓di_11, ↓di_12, ↓we_tup, ↓we_lst, ↓wm_nil, ↓wm_cons, ↓wa_nil, ↓wa_ex, ↓wa_st, ↓wa_io, ↓fz_nil, ↓fz_ex, ↓fz_io, ↓fy_st, ↓fy_ow, ↓ar_nil, ↓ar_ex, ↓ar_st, ↓ar_io, ↓pu_nil, ↓pu_cons, ↓we_call, ij_nil, ij_ex, ij_st, ij_io, ↓wg_nm, ↓wg_tu, ↓wg_tl, ↓wgs_nil, ↓wgs_cons, ↓we_methS', ↓ls_li, ↓we_meth, ↓we_chain, ↓we_rg1, ↓we_dict0, ↓we_get, ↓isd_d, ↓we_get2, ↓ws_put, ↓we_val, ↓wi_seq, ↓wi_rng, ↓wi_enum, ↓fq_seqL, ↓fq_seqT, ↓wt_yes, ↓rs_nil, ↓rs_cons, ↓wp_nil, ↓wp_cons, ↓we_comp, ↓we_compD, ↓we_comp2, ↓we_sset, ↓we_lset, ↓we_rev, ↓rv_l, ↓rv_t, ↓f_zip, ↓iq_nil, ↓iq_cons, ↓get_0, ↓set_0, ↓slot_0, ↓fz_0, ↓get_1, ↓set_1, ↓slot_1, ↓fz_1, ↓get_2, ↓set_2, ↓slot_2, ↓fz_2, ↓get_3, ↓set_3, ↓slot_3, ↓fz_3, ↓get_4, ↓set_4, ↓slot_4, ↓fz_4, ↓get_5, ↓set_5, ↓slot_5, ↓fz_5, ↓get_6, ↓set_6, ↓slot_6, ↓fz_6, ↓get_7, ↓set_7, ↓slot_7, ↓fz_7, ↓get_8, ↓set_8, ↓slot_8, ↓fz_8, ↓get_9, ↓set_9, ↓slot_9, ↓fz_9, ↓get_10, ↓set_10, ↓slot_10, ↓fz_10, ↓get_11, ↓set_11, ↓slot_11, ↓fz_11, ↓get_12, ↓set_12, ↓slot_12, ↓fz_12, ↓get_13, ↓set_13, ↓slot_13, ↓fz_13, ↓get_14, ↓set_14, ↓slot_14, ↓fz_14, ↓get_15, ↓set_15, ↓slot_15, ↓fz_15, ↓get_16, ↓set_16, ↓slot_16, ↓fz_16, ↓get_17, ↓set_17, ↓slot_17, ↓fz_17, ↓get_18, ↓set_18, ↓slot_18, ↓fz_18, ↓get_19, ↓set_19, ↓slot_19, ↓fz_19, ↓get_20, ↓set_20, ↓slot_20, ↓fz_20, ↓get_21, ↓set_21, ↓slot_21, ↓fz_21, ↓get_22, ↓set_22, ↓slot_22, ↓fz_22, ↓get_23, ↓set_23, ↓slot_23, ↓fz_23, ↓get_24, ↓set_24, ↓slot_24, ↓fz_24, ↓get_25, ↓set_25, ↓slot_25, ↓fz_25, ↓f_sub, ↓f_lt, ↓f_le, ↓f_gt, ↓f_ge, ↓f_add, ↓f_mod, ↓f_fdiv, ↓f_mulL, ↓f_mulR, ↓f_neg, ↓f_abs, ↓f_intI, ↓f_intB, ↓f_lenL, ↓f_lenT, ↓f_tupL, ↓f_tupT, ↓f_lisL, ↓f_lisT, ↓f_isB, ↓f_isNotB, ↓f_isN, ↓f_isNotN, ↓f_all, ↓f_any, ↓f_sum, ↓f_isi_int_int, ↓f_isi_int_bool, ↓f_isi_int_tuple, ↓f_isi_int_str, ↓f_isi_int_list, ↓f_isi_bool_int, ↓f_isi_bool_bool, ↓f_isi_bool_tuple, ↓f_isi_bool_str, ↓f_isi_bool_list, ↓f_isi_tuple_int, ↓f_isi_tuple_bool, ↓f_isi_tuple_tuple, ↓f_isi_tuple_str, ↓f_isi_tuple_list, ↓f_isi_str_int, ↓f_isi_str_bool, ↓f_isi_str_tuple, ↓f_isi_str_str, ↓f_isi_str_list, ↓f_isi_list_int, ↓f_isi_list_bool, ↓f_isi_list_tuple, ↓f_isi_list_str, ↓f_isi_list_list, ↓h_pop, ↓h_pop0, ↓f_rngI, ↓f_ixl0, ↓f_ixl1, ↓f_ixl2, ↓f_ixl3, ↓f_ixl4, ↓f_ixl5, ↓f_ixt0, ↓f_ixt1, ↓f_ixt2, ↓f_ixt3, ↓f_ixt4, ↓f_ixt5, ↓f_sd0, ↓f_sd1, ↓f_sd2, ↓f_sd3, ↓f_sd4, ↓f_sd5, nd_none, nd_bool, nd_int, nd_str, nd_list, nd_tuple]
  refine wl_rng (fun k ρ => ∃ (U : Tr) (x2 x3 : Option SV), U.ok n ∧ U.dep + k ≤ 8 ∧ U.leaf v = T.leaf v ∧ ρ = [some (.st U.d), some (.st (.dict (tab v n))), x2, x3, none, none]) ⟨T, _, _, hT, by omega, rfl, rfl⟩ (fun k ρ hk z => ?_) fun ρ z => ?_
  · obtain ⟨U, x2, x3, h1, h2, h3, rfl⟩ := z
    unfold b1_law_leaf
    cases U with
    | no =>
      rw [d_no]
      simp only [eq_self, Int.reduceLT, Int.reduceLE, Nat.reduceLT, Nat.reduceLeDiff, Int.reduceToNat, Int.toNat_natCast, ↓ws_seq, ↓sq_nx, ↓sq_rt, ↓sq_rf, ↓sq_bk, ↓sq_ct, ↓lq_nx, ↓lq_ct, ↓lq_bk, ↓lq_rt, ↓lq_rf, ↓ou_nx, ↓ou_rt, ↓ou_rf, ↓ws_next, ↓ws_break, ↓ws_cont, ↓ws_retNone, ↓ws_drop, ↓ws_ret, ↓ws_retF, ↓ws_set, ↓ws_setF, ↓rn_st, ↓rn_ow, ↓ws_retN, ↓sn_st, ↓sn_ow, ↓ws_setN, ↓ite_t, ↓ite_f, ↓ws_if, ↓ws_asg, ↓ws_store, ↓ws_aug, ↓ws_for, ↓ws_while, ↓we_c, ↓we_n, ↓we_op, ↓we_int, ↓wv_nil, ↓wv_ex, ↓wv_nm, ↓re_nil, ↓re_ex, ↓re_nm, ↓st_st, ↓ow_ow, ↓lk_st, ↓lk_ow, ↓bo_bo, ↓in_in, ↓wt_test, ↓wt_tru, ↓tr_bo, ↓tr_in, ↓tr_li, ↓tr_tu, ↓tr_no, ↓wt_not, ↓wt_and, ↓wt_or, ↓we_and, ↓we_or, ↓we_not, ↓we_if, ↓di_nil, ↓di_1, ↓di_2, ↓di_3, ↓di_4, ↓di_5, ↓di_6, ↓di_7, ↓di_8, ↓di_9, ↓di_10, ↓di_11, ↓di_12, ↓we_tup, ↓we_lst, ↓wm_nil, ↓wm_cons, ↓wa_nil, ↓wa_ex, ↓wa_st, ↓wa_io, ↓fz_nil, ↓fz_ex, ↓fz_io, ↓fy_st, ↓fy_ow, ↓ar_nil, ↓ar_ex, ↓ar_st, ↓ar_io, ↓pu_nil, ↓pu_cons, ↓we_call, ij_nil, ij_ex, ij_st, ij_io, ↓wg_nm, ↓wg_tu, ↓wg_tl, ↓wgs_nil, ↓wgs_cons, ↓we_methS', ↓ls_li, ↓we_meth, ↓we_chain, ↓we_rg1, ↓we_dict0, ↓we_get, ↓isd_d, ↓we_get2, ↓ws_put, ↓we_val, ↓wi_seq, ↓wi_rng, ↓wi_enum, ↓fq_seqL, ↓fq_seqT, ↓wt_yes, ↓rs_nil, ↓rs_cons, ↓wp_nil, ↓wp_cons, ↓we_comp, ↓we_compD, ↓we_comp2, ↓we_sset, ↓we_lset, ↓we_rev, ↓rv_l, ↓rv_t, ↓f_zip, ↓iq_nil, ↓iq_cons, ↓get_0, ↓set_0, ↓slot_0, ↓fz_0, ↓get_1, ↓set_1, ↓slot_1, ↓fz_1, ↓get_2, ↓set_2, ↓slot_2, ↓fz_2, ↓get_3, ↓set_3, ↓slot_3, ↓fz_3, ↓get_4, ↓set_4, ↓slot_4, ↓fz_4, ↓get_5, ↓set_5, ↓slot_5, ↓fz_5, ↓get_6, ↓set_6, ↓slot_6, ↓fz_6, ↓get_7, ↓set_7, ↓slot_7, ↓fz_7, ↓get_8, ↓set_8, ↓slot_8, ↓fz_8, ↓get_9, ↓set_9, ↓slot_9, ↓fz_9, ↓get_10, ↓set_10, ↓slot_10, ↓fz_10, ↓get_11, ↓set_11, ↓slot_11, ↓fz_11, ↓get_12, ↓set_12, ↓slot_12, ↓fz_12, ↓get_13, ↓set_13, ↓slot_13, ↓fz_13, ↓get_14, ↓set_14, ↓slot_14, ↓fz_14, ↓get_15, ↓set_15, ↓slot_15, ↓fz_15, ↓get_16, ↓set_16, ↓slot_16, ↓fz_16, ↓get_17, ↓set_17, ↓slot_17, ↓fz_17, ↓get_18, ↓set_18, ↓slot_18, ↓fz_18, ↓get_19, ↓set_19, ↓slot_19, ↓fz_19, ↓get_20, ↓set_20, ↓slot_20, ↓fz_20, ↓get_21, ↓set_21, ↓slot_21, ↓fz_21, ↓get_22, ↓set_22, ↓slot_22, ↓fz_22, ↓get_23, ↓set_23, ↓slot_23, ↓fz_23, ↓get_24, ↓set_24, ↓slot_24, ↓fz_24, ↓get_25, ↓set_25, ↓slot_25, ↓fz_25, ↓f_sub, ↓f_lt, ↓f_le, ↓f_gt, ↓f_ge, ↓f_add, ↓f_mod, ↓f_fdiv, ↓f_mulL, ↓f_mulR, ↓f_neg, ↓f_abs, ↓f_intI, ↓f_intB, ↓f_lenL, ↓f_lenT, ↓f_tupL, ↓f_tupT, ↓f_lisL, ↓f_lisT, ↓f_isB, ↓f_isNotB, ↓f_isN, ↓f_isNotN, ↓f_all, ↓f_any, ↓f_sum, ↓f_isi_int_int, ↓f_isi_int_bool, ↓f_isi_int_tuple, ↓f_isi_int_str, ↓f_isi_int_list, ↓f_isi_bool_int, ↓f_isi_bool_bool, ↓f_isi_bool_tuple, ↓f_isi_bool_str, ↓f_isi_bool_list, ↓f_isi_tuple_int, ↓f_isi_tuple_bool, ↓f_isi_tuple_tuple, ↓f_isi_tuple_str, ↓f_isi_tuple_list, ↓f_isi_str_int, ↓f_isi_str_bool, ↓f_isi_str_tuple, ↓f_isi_str_str, ↓f_isi_str_list, ↓f_isi_list_int, ↓f_isi_list_bool, ↓f_isi_list_tuple, ↓f_isi_list_str, ↓f_isi_list_list, ↓h_pop, ↓h_pop0, ↓f_rngI, ↓f_ixl0, ↓f_ixl1, ↓f_ixl2, ↓f_ixl3, ↓f_ixl4, ↓f_ixl5, ↓f_ixt0, ↓f_ixt1, ↓f_ixt2, ↓f_ixt3, ↓f_ixt4, ↓f_ixt5, ↓f_sd0, ↓f_sd1, ↓f_sd2, ↓f_sd3, ↓f_sd4, ↓f_sd5, nd_none, nd_bool, nd_int, nd_str, nd_list, nd_tuple, ↓f_neS s_none s_test, show ((Str.ofString "none") == (Str.ofString "test")) = false from by decide +kernel, Bool.not_false]
      rw [← h3]
      exact ⟨rfl, trivial⟩
    | kind m =>
      rw [d_kind]
      simp only [eq_self, Int.reduceLT, Int.reduceLE, Nat.reduceLT, Nat.reduceLeDiff, Int.reduceToNat, Int.toNat_natCast, ↓ws_seq, ↓sq_nx, ↓sq_rt, ↓sq_rf, ↓sq_bk, ↓sq_ct, ↓lq_nx, ↓lq_ct, ↓lq_bk, ↓lq_rt, ↓lq_rf, ↓ou_nx, ↓ou_rt, ↓ou_rf, ↓ws_next, ↓ws_break, ↓ws_cont, ↓ws_retNone, ↓ws_drop, ↓ws_ret, ↓ws_retF, ↓ws_set, ↓ws_setF, ↓rn_st, ↓rn_ow, ↓ws_retN, ↓sn_st, ↓sn_ow, ↓ws_setN, ↓ite_t, ↓ite_f, ↓ws_if, ↓ws_asg, ↓ws_store, ↓ws_aug, ↓ws_for, ↓ws_while, ↓we_c, ↓we_n, ↓we_op, ↓we_int, ↓wv_nil, ↓wv_ex, ↓wv_nm, ↓re_nil, ↓re_ex, ↓re_nm, ↓st_st, ↓ow_ow, ↓lk_st, ↓lk_ow, ↓bo_bo, ↓in_in, ↓wt_test, ↓wt_tru, ↓tr_bo, ↓tr_in, ↓tr_li, ↓tr_tu, ↓tr_no, ↓wt_not, ↓wt_and, ↓wt_or, ↓we_and, ↓we_or, ↓we_not, ↓we_if, ↓di_nil, ↓di_1, ↓di_2, ↓di_3, ↓di_4, ↓di_5, ↓di_6, ↓di_7, ↓di_8, ↓di_9, ↓di_10, ↓di_11, ↓di_12, ↓we_tup, ↓we_lst, ↓wm_nil, ↓wm_cons, ↓wa_nil, ↓wa_ex, ↓wa_st, ↓wa_io, ↓fz_nil, ↓fz_ex, ↓fz_io, ↓fy_st, ↓fy_ow, ↓ar_nil, ↓ar_ex, ↓ar_st, ↓ar_io, ↓pu_nil, ↓pu_cons, ↓we_call, ij_nil, ij_ex, ij_st, ij_io, ↓wg_nm, ↓wg_tu, ↓wg_tl, ↓wgs_nil, ↓wgs_cons, ↓we_methS', ↓ls_li, ↓we_meth, ↓we_chain, ↓we_rg1, ↓we_dict0, ↓we_get, ↓isd_d, ↓we_get2, ↓ws_put, ↓we_val, ↓wi_seq, ↓wi_rng, ↓wi_enum, ↓fq_seqL, ↓fq_seqT, ↓wt_yes, ↓rs_nil, ↓rs_cons, ↓wp_nil, ↓wp_cons, ↓we_comp, ↓we_compD, ↓we_comp2, ↓we_sset, ↓we_lset, ↓we_rev, ↓rv_l, ↓rv_t, ↓f_zip, ↓iq_nil, ↓iq_cons, ↓get_0, ↓set_0, ↓slot_0, ↓fz_0, ↓get_1, ↓set_1, ↓slot_1, ↓fz_1, ↓get_2, ↓set_2, ↓slot_2, ↓fz_2, ↓get_3, ↓set_3, ↓slot_3, ↓fz_3, ↓get_4, ↓set_4, ↓slot_4, ↓fz_4, ↓get_5, ↓set_5, ↓slot_5, ↓fz_5, ↓get_6, ↓set_6, ↓slot_6, ↓fz_6, ↓get_7, ↓set_7, ↓slot_7, ↓fz_7, ↓get_8, ↓set_8, ↓slot_8, ↓fz_8, ↓get_9, ↓set_9, ↓slot_9, ↓fz_9, ↓get_10, ↓set_10, ↓slot_10, ↓fz_10, ↓get_11, ↓set_11, ↓slot_11, ↓fz_11, ↓get_12, ↓set_12, ↓slot_12, ↓fz_12, ↓get_13, ↓set_13, ↓slot_13, ↓fz_13, ↓get_14, ↓set_14, ↓slot_14, ↓fz_14, ↓get_15, ↓set_15, ↓slot_15, ↓fz_15, ↓get_16, ↓set_16, ↓slot_16, ↓fz_16, ↓get_17, ↓set_17, ↓slot_17, ↓fz_17, ↓get_18, ↓set_18, ↓slot_18, ↓fz_18, ↓get_19, ↓set_19, ↓slot_19, ↓fz_19, ↓get_20, ↓set_20, ↓slot_20, ↓fz_20, ↓get_21, ↓set_21, ↓slot_21, ↓fz_21, ↓get_22, ↓set_22, ↓slot_22, ↓fz_22, ↓get_23, ↓set_23, ↓slot_23, ↓fz_23, ↓get_24, ↓set_24, ↓slot_24, ↓fz_24, ↓get_25, ↓set_25, ↓slot_25, ↓fz_25, ↓f_sub, ↓f_lt, ↓f_le, ↓f_gt, ↓f_ge, ↓f_add, ↓f_mod, ↓f_fdiv, ↓f_mulL, ↓f_mulR, ↓f_neg, ↓f_abs, ↓f_intI, ↓f_intB, ↓f_lenL, ↓f_lenT, ↓f_tupL, ↓f_tupT, ↓f_lisL, ↓f_lisT, ↓f_isB, ↓f_isNotB, ↓f_isN, ↓f_isNotN, ↓f_all, ↓f_any, ↓f_sum, ↓f_isi_int_int, ↓f_isi_int_bool, ↓f_isi_int_tuple, ↓f_isi_int_str, ↓f_isi_int_list, ↓f_isi_bool_int, ↓f_isi_bool_bool, ↓f_isi_bool_tuple, ↓f_isi_bool_str, ↓f_isi_bool_list, ↓f_isi_tuple_int, ↓f_isi_tuple_bool, ↓f_isi_tuple_tuple, ↓f_isi_tuple_str, ↓f_isi_tuple_list, ↓f_isi_str_int, ↓f_isi_str_bool, ↓f_isi_str_tuple, ↓f_isi_str_str, ↓f_isi_str_list, ↓f_isi_list_int, ↓f_isi_list_bool, ↓f_isi_list_tuple, ↓f_isi_list_str, ↓f_isi_list_list, ↓h_pop, ↓h_pop0, ↓f_rngI, ↓f_ixl0, ↓f_ixl1, ↓f_ixl2, ↓f_ixl3, ↓f_ixl4, ↓f_ixl5, ↓f_ixt0, ↓f_ixt1, ↓f_ixt2, ↓f_ixt3, ↓f_ixt4, ↓f_ixt5, ↓f_sd0, ↓f_sd1, ↓f_sd2, ↓f_sd3, ↓f_sd4, ↓f_sd5, nd_none, nd_bool, nd_int, nd_str, nd_list, nd_tuple, ↓f_neS s_kind s_test, show ((Str.ofString "kind") == (Str.ofString "test")) = false from by decide +kernel, Bool.not_false]
      rw [← h3]
      exact ⟨rfl, trivial⟩
    | test c ts a b =>
      obtain ⟨⟨g1, g2⟩, g3, g4⟩ := h1
      rw [d_test]
      unfold fD
      simp only [eq_self, Int.reduceLT, Int.reduceLE, Nat.reduceLT, Nat.reduceLeDiff, Int.reduceToNat, Int.toNat_natCast, ↓ws_seq, ↓sq_nx, ↓sq_rt, ↓sq_rf, ↓sq_bk, ↓sq_ct, ↓lq_nx, ↓lq_ct, ↓lq_bk, ↓lq_rt, ↓lq_rf, ↓ou_nx, ↓ou_rt, ↓ou_rf, ↓ws_next, ↓ws_break, ↓ws_cont, ↓ws_retNone, ↓ws_drop, ↓ws_ret, ↓ws_retF, ↓ws_set, ↓ws_setF, ↓rn_st, ↓rn_ow, ↓ws_retN, ↓sn_st, ↓sn_ow, ↓ws_setN, ↓ite_t, ↓ite_f, ↓ws_if, ↓ws_asg, ↓ws_store, ↓ws_aug, ↓ws_for, ↓ws_while, ↓we_c, ↓we_n, ↓we_op, ↓we_int, ↓wv_nil, ↓wv_ex, ↓wv_nm, ↓re_nil, ↓re_ex, ↓re_nm, ↓st_st, ↓ow_ow, ↓lk_st, ↓lk_ow, ↓bo_bo, ↓in_in, ↓wt_test, ↓wt_tru, ↓tr_bo, ↓tr_in, ↓tr_li, ↓tr_tu, ↓tr_no, ↓wt_not, ↓wt_and, ↓wt_or, ↓we_and, ↓we_or, ↓we_not, ↓we_if, ↓di_nil, ↓di_1, ↓di_2, ↓di_3, ↓di_4, ↓di_5, ↓di_6, ↓di_7, ↓di_8, ↓di_9, ↓di_10, ↓di_11, ↓di_12, ↓we_tup, ↓we_lst, ↓wm_nil, ↓wm_cons, ↓wa_nil, ↓wa_ex, ↓wa_st, ↓wa_io, ↓fz_nil, ↓fz_ex, ↓fz_io, ↓fy_st, ↓fy_ow, ↓ar_nil, ↓ar_ex, ↓ar_st, ↓ar_io, ↓pu_nil, ↓pu_cons, ↓we_call, ij_nil, ij_ex, ij_st, ij_io, ↓wg_nm, ↓wg_tu, ↓wg_tl, ↓wgs_nil, ↓wgs_cons, ↓we_methS', ↓ls_li, ↓we_meth, ↓we_chain, ↓we_rg1, ↓we_dict0, ↓we_get, ↓isd_d, ↓we_get2, ↓ws_put, ↓we_val, ↓wi_seq, ↓wi_rng, ↓wi_enum, ↓fq_seqL, ↓fq_seqT, ↓wt_yes, ↓rs_nil, ↓rs_cons, ↓wp_nil, ↓wp_cons, ↓we_comp, ↓we_compD, ↓we_comp2, ↓we_sset, ↓we_lset, ↓we_rev, ↓rv_l, ↓rv_t, ↓f_zip, ↓iq_nil, ↓iq_cons, ↓get_0, ↓set_0, ↓slot_0, ↓fz_0, ↓get_1, ↓set_1, ↓slot_1, ↓fz_1, ↓get_2, ↓set_2, ↓slot_2, ↓fz_2, ↓get_3, ↓set_3, ↓slot_3, ↓fz_3, ↓get_4, ↓set_4, ↓slot_4, ↓fz_4, ↓get_5, ↓set_5, ↓slot_5, ↓fz_5, ↓get_6, ↓set_6, ↓slot_6, ↓fz_6, ↓get_7, ↓set_7, ↓slot_7, ↓fz_7, ↓get_8, ↓set_8, ↓slot_8, ↓fz_8, ↓get_9, ↓set_9, ↓slot_9, ↓fz_9, ↓get_10, ↓set_10, ↓slot_10, ↓fz_10, ↓get_11, ↓set_11, ↓slot_11, ↓fz_11, ↓get_12, ↓set_12, ↓slot_12, ↓fz_12, ↓get_13, ↓set_13, ↓slot_13, ↓fz_13, ↓get_14, ↓set_14, ↓slot_14, ↓fz_14, ↓get_15, ↓set_15, ↓slot_15, ↓fz_15, ↓get_16, ↓set_16, ↓slot_16, ↓fz_16, ↓get_17, ↓set_17, ↓slot_17, ↓fz_17, ↓get_18, ↓set_18, ↓slot_18, ↓fz_18, ↓get_19, ↓set_19, ↓slot_19, ↓fz_19, ↓get_20, ↓set_20, ↓slot_20, ↓fz_20, ↓get_21, ↓set_21, ↓slot_21, ↓fz_21, ↓get_22, ↓set_22, ↓slot_22, ↓fz_22, ↓get_23, ↓set_23, ↓slot_23, ↓fz_23, ↓get_24, ↓set_24, ↓slot_24, ↓fz_24, ↓get_25, ↓set_25, ↓slot_25, ↓fz_25, ↓f_sub, ↓f_lt, ↓f_le, ↓f_gt, ↓f_ge, ↓f_add, ↓f_mod, ↓f_fdiv, ↓f_mulL, ↓f_mulR, ↓f_neg, ↓f_abs, ↓f_intI, ↓f_intB, ↓f_lenL, ↓f_lenT, ↓f_tupL, ↓f_tupT, ↓f_lisL, ↓f_lisT, ↓f_isB, ↓f_isNotB, ↓f_isN, ↓f_isNotN, ↓f_all, ↓f_any, ↓f_sum, ↓f_isi_int_int, ↓f_isi_int_bool, ↓f_isi_int_tuple, ↓f_isi_int_str, ↓f_isi_int_list, ↓f_isi_bool_int, ↓f_isi_bool_bool, ↓f_isi_bool_tuple, ↓f_isi_bool_str, ↓f_isi_bool_list, ↓f_isi_tuple_int, ↓f_isi_tuple_bool, ↓f_isi_tuple_tuple, ↓f_isi_tuple_str, ↓f_isi_tuple_list, ↓f_isi_str_int, ↓f_isi_str_bool, ↓f_isi_str_tuple, ↓f_isi_str_str, ↓f_isi_str_list, ↓f_isi_list_int, ↓f_isi_list_bool, ↓f_isi_list_tuple, ↓f_isi_list_str, ↓f_isi_list_list, ↓h_pop, ↓h_pop0, ↓f_rngI, ↓f_ixl0, ↓f_ixl1, ↓f_ixl2, ↓f_ixl3, ↓f_ixl4, ↓f_ixl5, ↓f_ixt0, ↓f_ixt1, ↓f_ixt2, ↓f_ixt3, ↓f_ixt4, ↓f_ixt5, ↓f_sd0, ↓f_sd1, ↓f_sd2, ↓f_sd3, ↓f_sd4, ↓f_sd5, nd_none, nd_bool, nd_int, nd_str, nd_list, nd_tuple, ↓f_neS s_test s_test, beq_self_eq_true, Bool.not_true]
      refine ⟨⟨rfl, by rw [List.length_map]; exact Nat.le_trans g1 (by decide)⟩, ?_⟩
      refine wc_map (f := tmD) (fun t => .int (t.2 * v t.1)) (fun ρ => ∃ x4 x5, ρ = [some (.st (Tr.test c ts a b).d), some (.st (.dict (tab v n))), some (.st (.int (k : Int))), x3, x4, x5]) ⟨_, _, rfl⟩ (fun k ρ hk z => ?_) fun ρ z => ?_
      · obtain ⟨x4, x5, rfl⟩ := z
        have hm := List.getElem_mem hk
        rw [← getElem!_pos ts k hk] at hm
        have h1 := g2 _ hm
        have h2 := hv _ h1
        unfold tmD
        simp only [eq_self, Int.reduceLT, Int.reduceLE, Nat.reduceLT, Nat.reduceLeDiff, Int.reduceToNat, Int.toNat_natCast, ↓ws_seq, ↓sq_nx, ↓sq_rt, ↓sq_rf, ↓sq_bk, ↓sq_ct, ↓lq_nx, ↓lq_ct, ↓lq_bk, ↓lq_rt, ↓lq_rf, ↓ou_nx, ↓ou_rt, ↓ou_rf, ↓ws_next, ↓ws_break, ↓ws_cont, ↓ws_retNone, ↓ws_drop, ↓ws_ret, ↓ws_retF, ↓ws_set, ↓ws_setF, ↓rn_st, ↓rn_ow, ↓ws_retN, ↓sn_st, ↓sn_ow, ↓ws_setN, ↓ite_t, ↓ite_f, ↓ws_if, ↓ws_asg, ↓ws_store, ↓ws_aug, ↓ws_for, ↓ws_while, ↓we_c, ↓we_n, ↓we_op, ↓we_int, ↓wv_nil, ↓wv_ex, ↓wv_nm, ↓re_nil, ↓re_ex, ↓re_nm, ↓st_st, ↓ow_ow, ↓lk_st, ↓lk_ow, ↓bo_bo, ↓in_in, ↓wt_test, ↓wt_tru, ↓tr_bo, ↓tr_in, ↓tr_li, ↓tr_tu, ↓tr_no, ↓wt_not, ↓wt_and, ↓wt_or, ↓we_and, ↓we_or, ↓we_not, ↓we_if, ↓di_nil, ↓di_1, ↓di_2, ↓di_3, ↓di_4, ↓di_5, ↓di_6, ↓di_7, ↓di_8, ↓di_9, ↓di_10, ↓di_11, ↓di_12, ↓we_tup, ↓we_lst, ↓wm_nil, ↓wm_cons, ↓wa_nil, ↓wa_ex, ↓wa_st, ↓wa_io, ↓fz_nil, ↓fz_ex, ↓fz_io, ↓fy_st, ↓fy_ow, ↓ar_nil, ↓ar_ex, ↓ar_st, ↓ar_io, ↓pu_nil, ↓pu_cons, ↓we_call, ij_nil, ij_ex, ij_st, ij_io, ↓wg_nm, ↓wg_tu, ↓wg_tl, ↓wgs_nil, ↓wgs_cons, ↓we_methS', ↓ls_li, ↓we_meth, ↓we_chain, ↓we_rg1, ↓we_dict0, ↓we_get, ↓isd_d, ↓we_get2, ↓ws_put, ↓we_val, ↓wi_seq, ↓wi_rng, ↓wi_enum, ↓fq_seqL, ↓fq_seqT, ↓wt_yes, ↓rs_nil, ↓rs_cons, ↓wp_nil, ↓wp_cons, ↓we_comp, ↓we_compD, ↓we_comp2, ↓we_sset, ↓we_lset, ↓we_rev, ↓rv_l, ↓rv_t, ↓f_zip, ↓iq_nil, ↓iq_cons, ↓get_0, ↓set_0, ↓slot_0, ↓fz_0, ↓get_1, ↓set_1, ↓slot_1, ↓fz_1, ↓get_2, ↓set_2, ↓slot_2, ↓fz_2, ↓get_3, ↓set_3, ↓slot_3, ↓fz_3, ↓get_4, ↓set_4, ↓slot_4, ↓fz_4, ↓get_5, ↓set_5, ↓slot_5, ↓fz_5, ↓get_6, ↓set_6, ↓slot_6, ↓fz_6, ↓get_7, ↓set_7, ↓slot_7, ↓fz_7, ↓get_8, ↓set_8, ↓slot_8, ↓fz_8, ↓get_9, ↓set_9, ↓slot_9, ↓fz_9, ↓get_10, ↓set_10, ↓slot_10, ↓fz_10, ↓get_11, ↓set_11, ↓slot_11, ↓fz_11, ↓get_12, ↓set_12, ↓slot_12, ↓fz_12, ↓get_13, ↓set_13, ↓slot_13, ↓fz_13, ↓get_14, ↓set_14, ↓slot_14, ↓fz_14, ↓get_15, ↓set_15, ↓slot_15, ↓fz_15, ↓get_16, ↓set_16, ↓slot_16, ↓fz_16, ↓get_17, ↓set_17, ↓slot_17, ↓fz_17, ↓get_18, ↓set_18, ↓slot_18, ↓fz_18, ↓get_19, ↓set_19, ↓slot_19, ↓fz_19, ↓get_20, ↓set_20, ↓slot_20, ↓fz_20, ↓get_21, ↓set_21, ↓slot_21, ↓fz_21, ↓get_22, ↓set_22, ↓slot_22, ↓fz_22, ↓get_23, ↓set_23, ↓slot_23, ↓fz_23, ↓get_24, ↓set_24, ↓slot_24, ↓fz_24, ↓get_25, ↓set_25, ↓slot_25, ↓fz_25, ↓f_sub, ↓f_lt, ↓f_le, ↓f_gt, ↓f_ge, ↓f_add, ↓f_mod, ↓f_fdiv, ↓f_mulL, ↓f_mulR, ↓f_neg, ↓f_abs, ↓f_intI, ↓f_intB, ↓f_lenL, ↓f_lenT, ↓f_tupL, ↓f_tupT, ↓f_lisL, ↓f_lisT, ↓f_isB, ↓f_isNotB, ↓f_isN, ↓f_isNotN, ↓f_all, ↓f_any, ↓f_sum, ↓f_isi_int_int, ↓f_isi_int_bool, ↓f_isi_int_tuple, ↓f_isi_int_str, ↓f_isi_int_list, ↓f_isi_bool_int, ↓f_isi_bool_bool, ↓f_isi_bool_tuple, ↓f_isi_bool_str, ↓f_isi_bool_list, ↓f_isi_tuple_int, ↓f_isi_tuple_bool, ↓f_isi_tuple_tuple, ↓f_isi_tuple_str, ↓f_isi_tuple_list, ↓f_isi_str_int, ↓f_isi_str_bool, ↓f_isi_str_tuple, ↓f_isi_str_str, ↓f_isi_str_list, ↓f_isi_list_int, ↓f_isi_list_bool, ↓f_isi_list_tuple, ↓f_isi_list_str, ↓f_isi_list_list, ↓h_pop, ↓h_pop0, ↓f_rngI, ↓f_ixl0, ↓f_ixl1, ↓f_ixl2, ↓f_ixl3, ↓f_ixl4, ↓f_ixl5, ↓f_ixt0, ↓f_ixt1, ↓f_ixt2, ↓f_ixt3, ↓f_ixt4, ↓f_ixt5, ↓f_sd0, ↓f_sd1, ↓f_sd2, ↓f_sd3, ↓f_sd4, ↓f_sd5, nd_none, nd_bool, nd_int, nd_str, nd_list, nd_tuple, ↓dg_tab hn h1, ↓f_mulR h2]
        exact ⟨trivial, trivial, trivial, _, _, rfl⟩
      · obtain ⟨x4, x5, rfl⟩ := z
        have e1 : (ts.map fun t => PyData.int (t.2 * v t.1)) = (ts.map fun t => t.2 * v t.1).map .int := by rw [List.map_map]; rfl
        rw [e1]
        rw [d_test]
        simp only [eq_self, Int.reduceLT, Int.reduceLE, Nat.reduceLT, Nat.reduceLeDiff, Int.reduceToNat, Int.toNat_natCast, ↓ws_seq, ↓sq_nx, ↓sq_rt, ↓sq_rf, ↓sq_bk, ↓sq_ct, ↓lq_nx, ↓lq_ct, ↓lq_bk, ↓lq_rt, ↓lq_rf, ↓ou_nx, ↓ou_rt, ↓ou_rf, ↓ws_next, ↓ws_break, ↓ws_cont, ↓ws_retNone, ↓ws_drop, ↓ws_ret, ↓ws_retF, ↓ws_set, ↓ws_setF, ↓rn_st, ↓rn_ow, ↓ws_retN, ↓sn_st, ↓sn_ow, ↓ws_setN, ↓ite_t, ↓ite_f, ↓ws_if, ↓ws_asg, ↓ws_store, ↓ws_aug, ↓ws_for, ↓ws_while, ↓we_c, ↓we_n, ↓we_op, ↓we_int, ↓wv_nil, ↓wv_ex, ↓wv_nm, ↓re_nil, ↓re_ex, ↓re_nm, ↓st_st, ↓ow_ow, ↓lk_st, ↓lk_ow, ↓bo_bo, ↓in_in, ↓wt_test, ↓wt_tru, ↓tr_bo, ↓tr_in, ↓tr_li, ↓tr_tu, ↓tr_no, ↓wt_not, ↓wt_and, ↓wt_or, ↓we_and, ↓we_or, ↓we_not, ↓we_if, ↓di_nil, ↓di_1, ↓di_2, ↓di_3, ↓di_4, ↓di_5, ↓di_6, ↓di_7, ↓di_8, ↓di_9, ↓di_10, ↓di_11, ↓di_12, ↓we_tup, ↓we_lst, ↓wm_nil, ↓wm_cons, ↓wa_nil, ↓wa_ex, ↓wa_st, ↓wa_io, ↓fz_nil, ↓fz_ex, ↓fz_io, ↓fy_st, ↓fy_ow, ↓ar_nil, ↓ar_ex, ↓ar_st, ↓ar_io, ↓pu_nil, ↓pu_cons, ↓we_call, ij_nil, ij_ex, ij_st, ij_io, ↓wg_nm, ↓wg_tu, ↓wg_tl, ↓wgs_nil, ↓wgs_cons, ↓we_methS', ↓ls_li, ↓we_meth, ↓we_chain, ↓we_rg1, ↓we_dict0, ↓we_get, ↓isd_d, ↓we_get2, ↓ws_put, ↓we_val, ↓wi_seq, ↓wi_rng, ↓wi_enum, ↓fq_seqL, ↓fq_seqT, ↓wt_yes, ↓rs_nil, ↓rs_cons, ↓wp_nil, ↓wp_cons, ↓we_comp, ↓we_compD, ↓we_comp2, ↓we_sset, ↓we_lset, ↓we_rev, ↓rv_l, ↓rv_t, ↓f_zip, ↓iq_nil, ↓iq_cons, ↓get_0, ↓set_0, ↓slot_0, ↓fz_0, ↓get_1, ↓set_1, ↓slot_1, ↓fz_1, ↓get_2, ↓set_2, ↓slot_2, ↓fz_2, ↓get_3, ↓set_3, ↓slot_3, ↓fz_3, ↓get_4, ↓set_4, ↓slot_4, ↓fz_4, ↓get_5, ↓set_5, ↓slot_5, ↓fz_5, ↓get_6, ↓set_6, ↓slot_6, ↓fz_6, ↓get_7, ↓set_7, ↓slot_7, ↓fz_7, ↓get_8, ↓set_8, ↓slot_8, ↓fz_8, ↓get_9, ↓set_9, ↓slot_9, ↓fz_9, ↓get_10, ↓set_10, ↓slot_10, ↓fz_10, ↓get_11, ↓set_11, ↓slot_11, ↓fz_11, ↓get_12, ↓set_12, ↓slot_12, ↓fz_12, ↓get_13, ↓set_13, ↓slot_13, ↓fz_13, ↓get_14, ↓set_14, ↓slot_14, ↓fz_14, ↓get_15, ↓set_15, ↓slot_15, ↓fz_15, ↓get_16, ↓set_16, ↓slot_16, ↓fz_16, ↓get_17, ↓set_17, ↓slot_17, ↓fz_17, ↓get_18, ↓set_18, ↓slot_18, ↓fz_18, ↓get_19, ↓set_19, ↓slot_19, ↓fz_19, ↓get_20, ↓set_20, ↓slot_20, ↓fz_20, ↓get_21, ↓set_21, ↓slot_21, ↓fz_21, ↓get_22, ↓set_22, ↓slot_22, ↓fz_22, ↓get_23, ↓set_23, ↓slot_23, ↓fz_23, ↓get_24, ↓set_24, ↓slot_24, ↓fz_24, ↓get_25, ↓set_25, ↓slot_25, ↓fz_25, ↓f_sub, ↓f_lt, ↓f_le, ↓f_gt, ↓f_ge, ↓f_add, ↓f_mod, ↓f_fdiv, ↓f_mulL, ↓f_mulR, ↓f_neg, ↓f_abs, ↓f_intI, ↓f_intB, ↓f_lenL, ↓f_lenT, ↓f_tupL, ↓f_tupT, ↓f_lisL, ↓f_lisT, ↓f_isB, ↓f_isNotB, ↓f_isN, ↓f_isNotN, ↓f_all, ↓f_any, ↓f_sum, ↓f_isi_int_int, ↓f_isi_int_bool, ↓f_isi_int_tuple, ↓f_isi_int_str, ↓f_isi_int_list, ↓f_isi_bool_int, ↓f_isi_bool_bool, ↓f_isi_bool_tuple, ↓f_isi_bool_str, ↓f_isi_bool_list, ↓f_isi_tuple_int, ↓f_isi_tuple_bool, ↓f_isi_tuple_tuple, ↓f_isi_tuple_str, ↓f_isi_tuple_list, ↓f_isi_str_int, ↓f_isi_str_bool, ↓f_isi_str_tuple, ↓f_isi_str_str, ↓f_isi_str_list, ↓f_isi_list_int, ↓f_isi_list_bool, ↓f_isi_list_tuple, ↓f_isi_list_str, ↓f_isi_list_list, ↓h_pop, ↓h_pop0, ↓f_rngI, ↓f_ixl0, ↓f_ixl1, ↓f_ixl2, ↓f_ixl3, ↓f_ixl4, ↓f_ixl5, ↓f_ixt0, ↓f_ixt1, ↓f_ixt2, ↓f_ixt3, ↓f_ixt4, ↓f_ixt5, ↓f_sd0, ↓f_sd1, ↓f_sd2, ↓f_sd3, ↓f_sd4, ↓f_sd5, nd_none, nd_bool, nd_int, nd_str, nd_list, nd_tuple]
        have e2 : c + (ts.map fun t => t.2 * v t.1).sum = val v c ts := rfl
        rw [e2]
        have hdm : max a.dep b.dep + 1 + k ≤ 8 := h2
        by_cases hz : 0 ≤ val v c ts
        · simp only [decide_eq_true hz, eq_self, Int.reduceLT, Int.reduceLE, Nat.reduceLT, Nat.reduceLeDiff, Int.reduceToNat, Int.toNat_natCast, ↓ws_seq, ↓sq_nx, ↓sq_rt, ↓sq_rf, ↓sq_bk, ↓sq_ct, ↓lq_nx, ↓lq_ct, ↓lq_bk, ↓lq_rt, ↓lq_rf, ↓ou_nx, ↓ou_rt, ↓ou_rf, ↓ws_next, ↓ws_break, ↓ws_cont, ↓ws_retNone, ↓ws_drop, ↓ws_ret, ↓ws_retF, ↓ws_set, ↓ws_setF, ↓rn_st, ↓rn_ow, ↓ws_retN, ↓sn_st, ↓sn_ow, ↓ws_setN, ↓ite_t, ↓ite_f, ↓ws_if, ↓ws_asg, ↓ws_store, ↓ws_aug, ↓ws_for, ↓ws_while, ↓we_c, ↓we_n, ↓we_op, ↓we_int, ↓wv_nil, ↓wv_ex, ↓wv_nm, ↓re_nil, ↓re_ex, ↓re_nm, ↓st_st, ↓ow_ow, ↓lk_st, ↓lk_ow, ↓bo_bo, ↓in_in, ↓wt_test, ↓wt_tru, ↓tr_bo, ↓tr_in, ↓tr_li, ↓tr_tu, ↓tr_no, ↓wt_not, ↓wt_and, ↓wt_or, ↓we_and, ↓we_or, ↓we_not, ↓we_if, ↓di_nil, ↓di_1, ↓di_2, ↓di_3, ↓di_4, ↓di_5, ↓di_6, ↓di_7, ↓di_8, ↓di_9, ↓di_10, ↓di_11, ↓di_12, ↓we_tup, ↓we_lst, ↓wm_nil, ↓wm_cons, ↓wa_nil, ↓wa_ex, ↓wa_st, ↓wa_io, ↓fz_nil, ↓fz_ex, ↓fz_io, ↓fy_st, ↓fy_ow, ↓ar_nil, ↓ar_ex, ↓ar_st, ↓ar_io, ↓pu_nil, ↓pu_cons, ↓we_call, ij_nil, ij_ex, ij_st, ij_io, ↓wg_nm, ↓wg_tu, ↓wg_tl, ↓wgs_nil, ↓wgs_cons, ↓we_methS', ↓ls_li, ↓we_meth, ↓we_chain, ↓we_rg1, ↓we_dict0, ↓we_get, ↓isd_d, ↓we_get2, ↓ws_put, ↓we_val, ↓wi_seq, ↓wi_rng, ↓wi_enum, ↓fq_seqL, ↓fq_seqT, ↓wt_yes, ↓rs_nil, ↓rs_cons, ↓wp_nil, ↓wp_cons, ↓we_comp, ↓we_compD, ↓we_comp2, ↓we_sset, ↓we_lset, ↓we_rev, ↓rv_l, ↓rv_t, ↓f_zip, ↓iq_nil, ↓iq_cons, ↓get_0, ↓set_0, ↓slot_0, ↓fz_0, ↓get_1, ↓set_1, ↓slot_1, ↓fz_1, ↓get_2, ↓set_2, ↓slot_2, ↓fz_2, ↓get_3, ↓set_3, ↓slot_3, ↓fz_3, ↓get_4, ↓set_4, ↓slot_4, ↓fz_4, ↓get_5, ↓set_5, ↓slot_5, ↓fz_5, ↓get_6, ↓set_6, ↓slot_6, ↓fz_6, ↓get_7, ↓set_7, ↓slot_7, ↓fz_7, ↓get_8, ↓set_8, ↓slot_8, ↓fz_8, ↓get_9, ↓set_9, ↓slot_9, ↓fz_9, ↓get_10, ↓set_10, ↓slot_10, ↓fz_10, ↓get_11, ↓set_11, ↓slot_11, ↓fz_11, ↓get_12, ↓set_12, ↓slot_12, ↓fz_12, ↓get_13, ↓set_13, ↓slot_13, ↓fz_13, ↓get_14, ↓set_14, ↓slot_14, ↓fz_14, ↓get_15, ↓set_15, ↓slot_15, ↓fz_15, ↓get_16, ↓set_16, ↓slot_16, ↓fz_16, ↓get_17, ↓set_17, ↓slot_17, ↓fz_17, ↓get_18, ↓set_18, ↓slot_18, ↓fz_18, ↓get_19, ↓set_19, ↓slot_19, ↓fz_19, ↓get_20, ↓set_20, ↓slot_20, ↓fz_20, ↓get_21, ↓set_21, ↓slot_21, ↓fz_21, ↓get_22, ↓set_22, ↓slot_22, ↓fz_22, ↓get_23, ↓set_23, ↓slot_23, ↓fz_23, ↓get_24, ↓set_24, ↓slot_24, ↓fz_24, ↓get_25, ↓set_25, ↓slot_25, ↓fz_25, ↓f_sub, ↓f_lt, ↓f_le, ↓f_gt, ↓f_ge, ↓f_add, ↓f_mod, ↓f_fdiv, ↓f_mulL, ↓f_mulR, ↓f_neg, ↓f_abs, ↓f_intI, ↓f_intB, ↓f_lenL, ↓f_lenT, ↓f_tupL, ↓f_tupT, ↓f_lisL, ↓f_lisT, ↓f_isB, ↓f_isNotB, ↓f_isN, ↓f_isNotN, ↓f_all, ↓f_any, ↓f_sum, ↓f_isi_int_int, ↓f_isi_int_bool, ↓f_isi_int_tuple, ↓f_isi_int_str, ↓f_isi_int_list, ↓f_isi_bool_int, ↓f_isi_bool_bool, ↓f_isi_bool_tuple, ↓f_isi_bool_str, ↓f_isi_bool_list, ↓f_isi_tuple_int, ↓f_isi_tuple_bool, ↓f_isi_tuple_tuple, ↓f_isi_tuple_str, ↓f_isi_tuple_list, ↓f_isi_str_int, ↓f_isi_str_bool, ↓f_isi_str_tuple, ↓f_isi_str_str, ↓f_isi_str_list, ↓f_isi_list_int, ↓f_isi_list_bool, ↓f_isi_list_tuple, ↓f_isi_list_str, ↓f_isi_list_list, ↓h_pop, ↓h_pop0, ↓f_rngI, ↓f_ixl0, ↓f_ixl1, ↓f_ixl2, ↓f_ixl3, ↓f_ixl4, ↓f_ixl5, ↓f_ixt0, ↓f_ixt1, ↓f_ixt2, ↓f_ixt3, ↓f_ixt4, ↓f_ixt5, ↓f_sd0, ↓f_sd1, ↓f_sd2, ↓f_sd3, ↓f_sd4, ↓f_sd5, nd_none, nd_bool, nd_int, nd_str, nd_list, nd_tuple]
          refine ⟨a, _, _, g3, by omega, ?_, rfl⟩
          rw [← h3]
          show _ = if _ then _ else _
          rw [if_pos hz]
        · simp only [decide_eq_false hz, eq_self, Int.reduceLT, Int.reduceLE, Nat.reduceLT, Nat.reduceLeDiff, Int.reduceToNat, Int.toNat_natCast, ↓ws_seq, ↓sq_nx, ↓sq_rt, ↓sq_rf, ↓sq_bk, ↓sq_ct, ↓lq_nx, ↓lq_ct, ↓lq_bk, ↓lq_rt, ↓lq_rf, ↓ou_nx, ↓ou_rt, ↓ou_rf, ↓ws_next, ↓ws_break, ↓ws_cont, ↓ws_retNone, ↓ws_drop, ↓ws_ret, ↓ws_retF, ↓ws_set, ↓ws_setF, ↓rn_st, ↓rn_ow, ↓ws_retN, ↓sn_st, ↓sn_ow, ↓ws_setN, ↓ite_t, ↓ite_f, ↓ws_if, ↓ws_asg, ↓ws_store, ↓ws_aug, ↓ws_for, ↓ws_while, ↓we_c, ↓we_n, ↓we_op, ↓we_int, ↓wv_nil, ↓wv_ex, ↓wv_nm, ↓re_nil, ↓re_ex, ↓re_nm, ↓st_st, ↓ow_ow, ↓lk_st, ↓lk_ow, ↓bo_bo, ↓in_in, ↓wt_test, ↓wt_tru, ↓tr_bo, ↓tr_in, ↓tr_li, ↓tr_tu, ↓tr_no, ↓wt_not, ↓wt_and, ↓wt_or, ↓we_and, ↓we_or, ↓we_not, ↓we_if, ↓di_nil, ↓di_1, ↓di_2, ↓di_3, ↓di_4, ↓di_5, ↓di_6, ↓di_7, ↓di_8, ↓di_9, ↓di_10, ↓di_11, ↓di_12, ↓we_tup, ↓we_lst, ↓wm_nil, ↓wm_cons, ↓wa_nil, ↓wa_ex, ↓wa_st, ↓wa_io, ↓fz_nil, ↓fz_ex, ↓fz_io, ↓fy_st, ↓fy_ow, ↓ar_nil, ↓ar_ex, ↓ar_st, ↓ar_io, ↓pu_nil, ↓pu_cons, ↓we_call, ij_nil, ij_ex, ij_st, ij_io, ↓wg_nm, ↓wg_tu, ↓wg_tl, ↓wgs_nil, ↓wgs_cons, ↓we_methS', ↓ls_li, ↓we_meth, ↓we_chain, ↓we_rg1, ↓we_dict0, ↓we_get, ↓isd_d, ↓we_get2, ↓ws_put, ↓we_val, ↓wi_seq, ↓wi_rng, ↓wi_enum, ↓fq_seqL, ↓fq_seqT, ↓wt_yes, ↓rs_nil, ↓rs_cons, ↓wp_nil, ↓wp_cons, ↓we_comp, ↓we_compD, ↓we_comp2, ↓we_sset, ↓we_lset, ↓we_rev, ↓rv_l, ↓rv_t, ↓f_zip, ↓iq_nil, ↓iq_cons, ↓get_0, ↓set_0, ↓slot_0, ↓fz_0, ↓get_1, ↓set_1, ↓slot_1, ↓fz_1, ↓get_2, ↓set_2, ↓slot_2, ↓fz_2, ↓get_3, ↓set_3, ↓slot_3, ↓fz_3, ↓get_4, ↓set_4, ↓slot_4, ↓fz_4, ↓get_5, ↓set_5, ↓slot_5, ↓fz_5, ↓get_6, ↓set_6, ↓slot_6, ↓fz_6, ↓get_7, ↓set_7, ↓slot_7, ↓fz_7, ↓get_8, ↓set_8, ↓slot_8, ↓fz_8, ↓get_9, ↓set_9, ↓slot_9, ↓fz_9, ↓get_10, ↓set_10, ↓slot_10, ↓fz_10, ↓get_11, ↓set_11, ↓slot_11, ↓fz_11, ↓get_12, ↓set_12, ↓slot_12, ↓fz_12, ↓get_13, ↓set_13, ↓slot_13, ↓fz_13, ↓get_14, ↓set_14, ↓slot_14, ↓fz_14, ↓get_15, ↓set_15, ↓slot_15, ↓fz_15, ↓get_16, ↓set_16, ↓slot_16, ↓fz_16, ↓get_17, ↓set_17, ↓slot_17, ↓fz_17, ↓get_18, ↓set_18, ↓slot_18, ↓fz_18, ↓get_19, ↓set_19, ↓slot_19, ↓fz_19, ↓get_20, ↓set_20, ↓slot_20, ↓fz_20, ↓get_21, ↓set_21, ↓slot_21, ↓fz_21, ↓get_22, ↓set_22, ↓slot_22, ↓fz_22, ↓get_23, ↓set_23, ↓slot_23, ↓fz_23, ↓get_24, ↓set_24, ↓slot_24, ↓fz_24, ↓get_25, ↓set_25, ↓slot_25, ↓fz_25, ↓f_sub, ↓f_lt, ↓f_le, ↓f_gt, ↓f_ge, ↓f_add, ↓f_mod, ↓f_fdiv, ↓f_mulL, ↓f_mulR, ↓f_neg, ↓f_abs, ↓f_intI, ↓f_intB, ↓f_lenL, ↓f_lenT, ↓f_tupL, ↓f_tupT, ↓f_lisL, ↓f_lisT, ↓f_isB, ↓f_isNotB, ↓f_isN, ↓f_isNotN, ↓f_all, ↓f_any, ↓f_sum, ↓f_isi_int_int, ↓f_isi_int_bool, ↓f_isi_int_tuple, ↓f_isi_int_str, ↓f_isi_int_list, ↓f_isi_bool_int, ↓f_isi_bool_bool, ↓f_isi_bool_tuple, ↓f_isi_bool_str, ↓f_isi_bool_list, ↓f_isi_tuple_int, ↓f_isi_tuple_bool, ↓f_isi_tuple_tuple, ↓f_isi_tuple_str, ↓f_isi_tuple_list, ↓f_isi_str_int, ↓f_isi_str_bool, ↓f_isi_str_tuple, ↓f_isi_str_str, ↓f_isi_str_list, ↓f_isi_list_int, ↓f_isi_list_bool, ↓f_isi_list_tuple, ↓f_isi_list_str, ↓f_isi_list_list, ↓h_pop, ↓h_pop0, ↓f_rngI, ↓f_ixl0, ↓f_ixl1, ↓f_ixl2, ↓f_ixl3, ↓f_ixl4, ↓f_ixl5, ↓f_ixt0, ↓f_ixt1, ↓f_ixt2, ↓f_ixt3, ↓f_ixt4, ↓f_ixt5, ↓f_sd0, ↓f_sd1, ↓f_sd2, ↓f_sd3, ↓f_sd4, ↓f_sd5, nd_none, nd_bool, nd_int, nd_str, nd_list, nd_tuple]
          refine ⟨b, _, _, g4, by omega, ?_, rfl⟩
          rw [← h3]
          show _ = if _ then _ else _
          rw [if_neg hz]
  · obtain ⟨U, x2, x3, h1, h2, h3, rfl⟩ := z
    omega)

theorem log_nm {k : Nat} (hk : k < 3) : ((k : Int)).natAbs.log2 < 1920 := by
  have : k = 0 ∨ k = 1 ∨ k = 2 := by omega
  rcases this with rfl | rfl | rfl <;> decide
theorem add_nm {k : Nat} (hk : k < 3) {K : D → Prop} : @fQ _ addD [.str "s", .str (Str.ofString (toString (k : Int)))] K = K (nD k) := by
  have : ("s" : Str).length + (Str.ofString (toString (k : Int))).length ≤ sizeLine := by
    have : k = 0 ∨ k = 1 ∨ k = 2 := by omega
    rcases this with rfl | rfl | rfl <;> decide +kernel
  show @oQ _ (if _ then _ else _) K = _
  rw [if_pos this]
  rfl
theorem state_names_eq {n : Nat} (hn : n < 4) {a b : D} : F_state_names [.tuple [.int (n : Int), a, b]] = some (.tuple ((List.range n).map nD), []) := wf_eq (by
  rw [run_state_names]
  unfold m_state_names
  have h1 : n < 2 ^ 62 := by omega
  simp only [eq_self, Int.reduceLT, Int.reduceLE, Nat.reduceLT, Nat.reduceLeDiff, Int.reduceToNat, Int.toNat_natCast, ↓ws_seq, ↓sq_nx, ↓sq_rt, ↓sq_rf, ↓sq_bk, ↓sq_ct, ↓lq_nx, ↓lq_ct, ↓lq_bk, ↓lq_rt, ↓lq_rf, ↓ou_nx, ↓ou_rt, ↓ou_rf, ↓ws_next, ↓ws_break, ↓ws_cont, ↓ws_retNone, ↓ws_drop, ↓ws_ret, ↓ws_retF, ↓ws_set, ↓ws_setF, ↓rn_st, ↓rn_ow, ↓ws_retN, ↓sn_st, ↓sn_ow, ↓ws_setN, ↓ite_t, ↓ite_f, ↓ws_if, ↓ws_asg, ↓ws_store, ↓ws_aug, ↓ws_for, ↓ws_while, ↓we_c, ↓we_n, ↓we_op, ↓we_int, ↓wv_nil, ↓wv_ex, ↓wv_nm, ↓re_nil, ↓re_ex, ↓re_nm, ↓st_st, ↓ow_ow, ↓lk_st, ↓lk_ow, ↓bo_bo, ↓in_in, ↓wt_test, ↓wt_tru, ↓tr_bo, ↓tr_in, ↓tr_li, ↓tr_tu, ↓tr_no, ↓wt_not, ↓wt_and, ↓wt_or, ↓we_and, ↓we_or, ↓we_not, ↓we_if, ↓di_nil, ↓di_1, ↓di_2, ↓di_3, ↓di_4, ↓di_5, ↓di_6, ↓di_7, ↓di_8, ↓di_9, ↓di_10, ↓di_11, ↓di_12, ↓we_tup, ↓we_lst, ↓wm_nil, ↓wm_cons, ↓wa_nil, ↓wa_ex, ↓wa_st, ↓wa_io, ↓fz_nil, ↓fz_ex, ↓fz_io, ↓fy_st, ↓fy_ow, ↓ar_nil, ↓ar_ex, ↓ar_st, ↓ar_io, ↓pu_nil, ↓pu_cons, ↓we_call, ij_nil, ij_ex, ij_st, ij_io, ↓wg_nm, ↓wg_tu, ↓wg_tl, ↓wgs_nil, ↓wgs_cons, ↓we_methS', ↓ls_li, ↓we_meth, ↓we_chain, ↓we_rg1, ↓we_dict0, ↓we_get, ↓isd_d, ↓we_get2, ↓ws_put, ↓we_val, ↓wi_seq, ↓wi_rng, ↓wi_enum, ↓fq_seqL, ↓fq_seqT, ↓wt_yes, ↓rs_nil, ↓rs_cons, ↓wp_nil, ↓wp_cons, ↓we_comp, ↓we_compD, ↓we_comp2, ↓we_sset, ↓we_lset, ↓we_rev, ↓rv_l, ↓rv_t, ↓f_zip, ↓iq_nil, ↓iq_cons, ↓get_0, ↓set_0, ↓slot_0, ↓fz_0, ↓get_1, ↓set_1, ↓slot_1, ↓fz_1, ↓get_2, ↓set_2, ↓slot_2, ↓fz_2, ↓get_3, ↓set_3, ↓slot_3, ↓fz_3, ↓get_4, ↓set_4, ↓slot_4, ↓fz_4, ↓get_5, ↓set_5, ↓slot_5, ↓fz_5, ↓get_6, ↓set_6, ↓slot_6, ↓fz_6, ↓get_7, ↓set_7, ↓slot_7, ↓fz_7, ↓get_8, ↓set_8, ↓slot_8, ↓fz_8, ↓get_9, ↓set_9, ↓slot_9, ↓fz_9, ↓get_10, ↓set_10, ↓slot_10, ↓fz_10, ↓get_11, ↓set_11, ↓slot_11, ↓fz_11, ↓get_12, ↓set_12, ↓slot_12, ↓fz_12, ↓get_13, ↓set_13, ↓slot_13, ↓fz_13, ↓get_14, ↓set_14, ↓slot_14, ↓fz_14, ↓get_15, ↓set_15, ↓slot_15, ↓fz_15, ↓get_16, ↓set_16, ↓slot_16, ↓fz_16, ↓get_17, ↓set_17, ↓slot_17, ↓fz_17, ↓get_18, ↓set_18, ↓slot_18, ↓fz_18, ↓get_19, ↓set_19, ↓slot_19, ↓fz_19, ↓get_20, ↓set_20, ↓slot_20, ↓fz_20, ↓get_21, ↓set_21, ↓slot_21, ↓fz_21, ↓get_22, ↓set_22, ↓slot_22, ↓fz_22, ↓get_23, ↓set_23, ↓slot_23, ↓fz_23, ↓get_24, ↓set_24, ↓slot_24, ↓fz_24, ↓get_25, ↓set_25, ↓slot_25, ↓fz_25, ↓f_sub, ↓f_lt, ↓f_le, ↓f_gt, ↓f_ge, ↓f_add, ↓f_mod, ↓f_fdiv, ↓f_mulL, ↓f_mulR, ↓f_neg, ↓f_abs, ↓f_intI, ↓f_intB, ↓f_lenL, ↓f_lenT, ↓f_tupL, ↓f_tupT, ↓f_lisL, ↓f_lisT, ↓f_isB, ↓f_isNotB, ↓f_isN, ↓f_isNotN, ↓f_all, ↓f_any, ↓f_sum, ↓f_isi_int_int, ↓f_isi_int_bool, ↓f_isi_int_tuple, ↓f_isi_int_str, ↓f_isi_int_list, ↓f_isi_bool_int, ↓f_isi_bool_bool, ↓f_isi_bool_tuple, ↓f_isi_bool_str, ↓f_isi_bool_list, ↓f_isi_tuple_int, ↓f_isi_tuple_bool, ↓f_isi_tuple_tuple, ↓f_isi_tuple_str, ↓f_isi_tuple_list, ↓f_isi_str_int, ↓f_isi_str_bool, ↓f_isi_str_tuple, ↓f_isi_str_str, ↓f_isi_str_list, ↓f_isi_list_int, ↓f_isi_list_bool, ↓f_isi_list_tuple, ↓f_isi_list_str, ↓f_isi_list_list, ↓h_pop, ↓h_pop0, ↓f_rngI, ↓f_ixl0, ↓f_ixl1, ↓f_ixl2, ↓f_ixl3, ↓f_ixl4, ↓f_ixl5, ↓f_ixt0, ↓f_ixt1, ↓f_ixt2, ↓f_ixt3, ↓f_ixt4, ↓f_ixt5, ↓f_sd0, ↓f_sd1, ↓f_sd2, ↓f_sd3, ↓f_sd4, ↓f_sd5, nd_none, nd_bool, nd_int, nd_str, nd_list, nd_tuple, ↓f_rng1 h1]
  refine ⟨⟨rfl, by rw [rngD_len]; exact Nat.le_trans (Nat.le_of_lt hn) (by decide)⟩, ?_⟩
  refine wc_pure (fun k => nD k) (fun _ _ => trivial) (fun ρ => ∃ x, ρ = [some (.st (.tuple [.int (n : Int), a, b])), x]) ⟨none, rfl⟩ (fun k d ρ ge z => ?_) fun ρ z => ?_
  · obtain ⟨x, rfl⟩ := z
    obtain ⟨hk, rfl⟩ := rngD_get ge
    rw [Int.zero_add]
    have hk3 : k < 3 := by omega
    simp only [eq_self, Int.reduceLT, Int.reduceLE, Nat.reduceLT, Nat.reduceLeDiff, Int.reduceToNat, Int.toNat_natCast, ↓ws_seq, ↓sq_nx, ↓sq_rt, ↓sq_rf, ↓sq_bk, ↓sq_ct, ↓lq_nx, ↓lq_ct, ↓lq_bk, ↓lq_rt, ↓lq_rf, ↓ou_nx, ↓ou_rt, ↓ou_rf, ↓ws_next, ↓ws_break, ↓ws_cont, ↓ws_retNone, ↓ws_drop, ↓ws_ret, ↓ws_retF, ↓ws_set, ↓ws_setF, ↓rn_st, ↓rn_ow, ↓ws_retN, ↓sn_st, ↓sn_ow, ↓ws_setN, ↓ite_t, ↓ite_f, ↓ws_if, ↓ws_asg, ↓ws_store, ↓ws_aug, ↓ws_for, ↓ws_while, ↓we_c, ↓we_n, ↓we_op, ↓we_int, ↓wv_nil, ↓wv_ex, ↓wv_nm, ↓re_nil, ↓re_ex, ↓re_nm, ↓st_st, ↓ow_ow, ↓lk_st, ↓lk_ow, ↓bo_bo, ↓in_in, ↓wt_test, ↓wt_tru, ↓tr_bo, ↓tr_in, ↓tr_li, ↓tr_tu, ↓tr_no, ↓wt_not, ↓wt_and, ↓wt_or, ↓we_and, ↓we_or, ↓we_not, ↓we_if, ↓di_nil, ↓di_1, ↓di_2, ↓di_3, ↓di_4, ↓di_5, ↓di_6, ↓di_7, ↓di_8, ↓di_9, ↓di_10, ↓di_11, ↓di_12, ↓we_tup, ↓we_lst, ↓wm_nil, ↓wm_cons, ↓wa_nil, ↓wa_ex, ↓wa_st, ↓wa_io, ↓fz_nil, ↓fz_ex, ↓fz_io, ↓fy_st, ↓fy_ow, ↓ar_nil, ↓ar_ex, ↓ar_st, ↓ar_io, ↓pu_nil, ↓pu_cons, ↓we_call, ij_nil, ij_ex, ij_st, ij_io, ↓wg_nm, ↓wg_tu, ↓wg_tl, ↓wgs_nil, ↓wgs_cons, ↓we_methS', ↓ls_li, ↓we_meth, ↓we_chain, ↓we_rg1, ↓we_dict0, ↓we_get, ↓isd_d, ↓we_get2, ↓ws_put, ↓we_val, ↓wi_seq, ↓wi_rng, ↓wi_enum, ↓fq_seqL, ↓fq_seqT, ↓wt_yes, ↓rs_nil, ↓rs_cons, ↓wp_nil, ↓wp_cons, ↓we_comp, ↓we_compD, ↓we_comp2, ↓we_sset, ↓we_lset, ↓we_rev, ↓rv_l, ↓rv_t, ↓f_zip, ↓iq_nil, ↓iq_cons, ↓get_0, ↓set_0, ↓slot_0, ↓fz_0, ↓get_1, ↓set_1, ↓slot_1, ↓fz_1, ↓get_2, ↓set_2, ↓slot_2, ↓fz_2, ↓get_3, ↓set_3, ↓slot_3, ↓fz_3, ↓get_4, ↓set_4, ↓slot_4, ↓fz_4, ↓get_5, ↓set_5, ↓slot_5, ↓fz_5, ↓get_6, ↓set_6, ↓slot_6, ↓fz_6, ↓get_7, ↓set_7, ↓slot_7, ↓fz_7, ↓get_8, ↓set_8, ↓slot_8, ↓fz_8, ↓get_9, ↓set_9, ↓slot_9, ↓fz_9, ↓get_10, ↓set_10, ↓slot_10, ↓fz_10, ↓get_11, ↓set_11, ↓slot_11, ↓fz_11, ↓get_12, ↓set_12, ↓slot_12, ↓fz_12, ↓get_13, ↓set_13, ↓slot_13, ↓fz_13, ↓get_14, ↓set_14, ↓slot_14, ↓fz_14, ↓get_15, ↓set_15, ↓slot_15, ↓fz_15, ↓get_16, ↓set_16, ↓slot_16, ↓fz_16, ↓get_17, ↓set_17, ↓slot_17, ↓fz_17, ↓get_18, ↓set_18, ↓slot_18, ↓fz_18, ↓get_19, ↓set_19, ↓slot_19, ↓fz_19, ↓get_20, ↓set_20, ↓slot_20, ↓fz_20, ↓get_21, ↓set_21, ↓slot_21, ↓fz_21, ↓get_22, ↓set_22, ↓slot_22, ↓fz_22, ↓get_23, ↓set_23, ↓slot_23, ↓fz_23, ↓get_24, ↓set_24, ↓slot_24, ↓fz_24, ↓get_25, ↓set_25, ↓slot_25, ↓fz_25, ↓f_sub, ↓f_lt, ↓f_le, ↓f_gt, ↓f_ge, ↓f_add, ↓f_mod, ↓f_fdiv, ↓f_mulL, ↓f_mulR, ↓f_neg, ↓f_abs, ↓f_intI, ↓f_intB, ↓f_lenL, ↓f_lenT, ↓f_tupL, ↓f_tupT, ↓f_lisL, ↓f_lisT, ↓f_isB, ↓f_isNotB, ↓f_isN, ↓f_isNotN, ↓f_all, ↓f_any, ↓f_sum, ↓f_isi_int_int, ↓f_isi_int_bool, ↓f_isi_int_tuple, ↓f_isi_int_str, ↓f_isi_int_list, ↓f_isi_bool_int, ↓f_isi_bool_bool, ↓f_isi_bool_tuple, ↓f_isi_bool_str, ↓f_isi_bool_list, ↓f_isi_tuple_int, ↓f_isi_tuple_bool, ↓f_isi_tuple_tuple, ↓f_isi_tuple_str, ↓f_isi_tuple_list, ↓f_isi_str_int, ↓f_isi_str_bool, ↓f_isi_str_tuple, ↓f_isi_str_str, ↓f_isi_str_list, ↓f_isi_list_int, ↓f_isi_list_bool, ↓f_isi_list_tuple, ↓f_isi_list_str, ↓f_isi_list_list, ↓h_pop, ↓h_pop0, ↓f_rngI, ↓f_ixl0, ↓f_ixl1, ↓f_ixl2, ↓f_ixl3, ↓f_ixl4, ↓f_ixl5, ↓f_ixt0, ↓f_ixt1, ↓f_ixt2, ↓f_ixt3, ↓f_ixt4, ↓f_ixt5, ↓f_sd0, ↓f_sd1, ↓f_sd2, ↓f_sd3, ↓f_sd4, ↓f_sd5, nd_none, nd_bool, nd_int, nd_str, nd_list, nd_tuple, ↓f_strI (log_nm hk3), ↓add_nm hk3]
    exact ⟨trivial, trivial, trivial, _, rfl⟩
  · obtain ⟨x, rfl⟩ := z
    rw [rngD_len]
    simp only [eq_self, Int.reduceLT, Int.reduceLE, Nat.reduceLT, Nat.reduceLeDiff, Int.reduceToNat, Int.toNat_natCast, ↓ws_seq, ↓sq_nx, ↓sq_rt, ↓sq_rf, ↓sq_bk, ↓sq_ct, ↓lq_nx, ↓lq_ct, ↓lq_bk, ↓lq_rt, ↓lq_rf, ↓ou_nx, ↓ou_rt, ↓ou_rf, ↓ws_next, ↓ws_break, ↓ws_cont, ↓ws_retNone, ↓ws_drop, ↓ws_ret, ↓ws_retF, ↓ws_set, ↓ws_setF, ↓rn_st, ↓rn_ow, ↓ws_retN, ↓sn_st, ↓sn_ow, ↓ws_setN, ↓ite_t, ↓ite_f, ↓ws_if, ↓ws_asg, ↓ws_store, ↓ws_aug, ↓ws_for, ↓ws_while, ↓we_c, ↓we_n, ↓we_op, ↓we_int, ↓wv_nil, ↓wv_ex, ↓wv_nm, ↓re_nil, ↓re_ex, ↓re_nm, ↓st_st, ↓ow_ow, ↓lk_st, ↓lk_ow, ↓bo_bo, ↓in_in, ↓wt_test, ↓wt_tru, ↓tr_bo, ↓tr_in, ↓tr_li, ↓tr_tu, ↓tr_no, ↓wt_not, ↓wt_and, ↓wt_or, ↓we_and, ↓we_or, ↓we_not, ↓we_if, ↓di_nil, ↓di_1, ↓di_2, ↓di_3, ↓di_4, ↓di_5, ↓di_6, ↓di_7, ↓di_8, ↓di_9, ↓di_10, ↓di_11, ↓di_12, ↓we_tup, ↓we_lst, ↓wm_nil, ↓wm_cons, ↓wa_nil, ↓wa_ex, ↓wa_st, ↓wa_io, ↓fz_nil, ↓fz_ex, ↓fz_io, ↓fy_st, ↓fy_ow, ↓ar_nil, ↓ar_ex, ↓ar_st, ↓ar_io, ↓pu_nil, ↓pu_cons, ↓we_call, ij_nil, ij_ex, ij_st, ij_io, ↓wg_nm, ↓wg_tu, ↓wg_tl, ↓wgs_nil, ↓wgs_cons, ↓we_methS', ↓ls_li, ↓we_meth, ↓we_chain, ↓we_rg1, ↓we_dict0, ↓we_get, ↓isd_d, ↓we_get2, ↓ws_put, ↓we_val, ↓wi_seq, ↓wi_rng, ↓wi_enum, ↓fq_seqL, ↓fq_seqT, ↓wt_yes, ↓rs_nil, ↓rs_cons, ↓wp_nil, ↓wp_cons, ↓we_comp, ↓we_compD, ↓we_comp2, ↓we_sset, ↓we_lset, ↓we_rev, ↓rv_l, ↓rv_t, ↓f_zip, ↓iq_nil, ↓iq_cons, ↓get_0, ↓set_0, ↓slot_0, ↓fz_0, ↓get_1, ↓set_1, ↓slot_1, ↓fz_1, ↓get_2, ↓set_2, ↓slot_2, ↓fz_2, ↓get_3, ↓set_3, ↓slot_3, ↓fz_3, ↓get_4, ↓set_4, ↓slot_4, ↓fz_4, ↓get_5, ↓set_5, ↓slot_5, ↓fz_5, ↓get_6, ↓set_6, ↓slot_6, ↓fz_6, ↓get_7, ↓set_7, ↓slot_7, ↓fz_7, ↓get_8, ↓set_8, ↓slot_8, ↓fz_8, ↓get_9, ↓set_9, ↓slot_9, ↓fz_9, ↓get_10, ↓set_10, ↓slot_10, ↓fz_10, ↓get_11, ↓set_11, ↓slot_11, ↓fz_11, ↓get_12, ↓set_12, ↓slot_12, ↓fz_12, ↓get_13, ↓set_13, ↓slot_13, ↓fz_13, ↓get_14, ↓set_14, ↓slot_14, ↓fz_14, ↓get_15, ↓set_15, ↓slot_15, ↓fz_15, ↓get_16, ↓set_16, ↓slot_16, ↓fz_16, ↓get_17, ↓set_17, ↓slot_17, ↓fz_17, ↓get_18, ↓set_18, ↓slot_18, ↓fz_18, ↓get_19, ↓set_19, ↓slot_19, ↓fz_19, ↓get_20, ↓set_20, ↓slot_20, ↓fz_20, ↓get_21, ↓set_21, ↓slot_21, ↓fz_21, ↓get_22, ↓set_22, ↓slot_22, ↓fz_22, ↓get_23, ↓set_23, ↓slot_23, ↓fz_23, ↓get_24, ↓set_24, ↓slot_24, ↓fz_24, ↓get_25, ↓set_25, ↓slot_25, ↓fz_25, ↓f_sub, ↓f_lt, ↓f_le, ↓f_gt, ↓f_ge, ↓f_add, ↓f_mod, ↓f_fdiv, ↓f_mulL, ↓f_mulR, ↓f_neg, ↓f_abs, ↓f_intI, ↓f_intB, ↓f_lenL, ↓f_lenT, ↓f_tupL, ↓f_tupT, ↓f_lisL, ↓f_lisT, ↓f_isB, ↓f_isNotB, ↓f_isN, ↓f_isNotN, ↓f_all, ↓f_any, ↓f_sum, ↓f_isi_int_int, ↓f_isi_int_bool, ↓f_isi_int_tuple, ↓f_isi_int_str, ↓f_isi_int_list, ↓f_isi_bool_int, ↓f_isi_bool_bool, ↓f_isi_bool_tuple, ↓f_isi_bool_str, ↓f_isi_bool_list, ↓f_isi_tuple_int, ↓f_isi_tuple_bool, ↓f_isi_tuple_tuple, ↓f_isi_tuple_str, ↓f_isi_tuple_list, ↓f_isi_str_int, ↓f_isi_str_bool, ↓f_isi_str_tuple, ↓f_isi_str_str, ↓f_isi_str_list, ↓f_isi_list_int, ↓f_isi_list_bool, ↓f_isi_list_tuple, ↓f_isi_list_str, ↓f_isi_list_list, ↓h_pop, ↓h_pop0, ↓f_rngI, ↓f_ixl0, ↓f_ixl1, ↓f_ixl2, ↓f_ixl3, ↓f_ixl4, ↓f_ixl5, ↓f_ixt0, ↓f_ixt1, ↓f_ixt2, ↓f_ixt3, ↓f_ixt4, ↓f_ixt5, ↓f_sd0, ↓f_sd1, ↓f_sd2, ↓f_sd3, ↓f_sd4, ↓f_sd5, nd_none, nd_bool, nd_int, nd_str, nd_list, nd_tuple]
    exact ⟨trivial, trivial⟩)
theorem kind_of_eq {v : Nat → Int} {n : Nat} (hn : n < 4) (hv : small v n) {T : Tr} (hT : T.ok n) (hd : T.dep < FUEL) {m : Nat} (hm : T.leaf v = .kind m) {a : D} (na : noDict a = true) :
    F_kind_of [.tuple [.int (n : Int), a, .tuple ((List.range n).map fun k => .int (v k))], T.d, .tuple ((List.range n).map fun k => .int (v k))] = some (.int (m : Nat), []) := wf_eq (by
  rw [run_kind_of]
  unfold m_kind_of
  simp only [eq_self, Int.reduceLT, Int.reduceLE, Nat.reduceLT, Nat.reduceLeDiff, Int.reduceToNat, Int.toNat_natCast, ↓ws_seq, ↓sq_nx, ↓sq_rt, ↓sq_rf, ↓sq_bk, ↓sq_ct, ↓lq_nx, ↓lq_ct, ↓lq_bk, ↓lq_rt, ↓lq_rf, ↓ou_nx, ↓ou_rt, ↓ou_rf, ↓ws_next, ↓ws_break, ↓ws_cont, ↓ws_retNone, ↓ws_drop, ↓ws_ret, ↓ws_retF, ↓ws_set, ↓ws_setF, ↓rn_st, ↓rn_ow, ↓ws_retN, ↓sn_st, ↓sn_ow, ↓ws_setN, ↓ite_t, ↓ite_f, ↓ws_if, ↓ws_asg, ↓ws_store, ↓ws_aug, ↓ws_for, ↓ws_while, ↓we_c, ↓we_n, ↓we_op, ↓we_int, ↓wv_nil, ↓wv_ex, ↓wv_nm, ↓re_nil, ↓re_ex, ↓re_nm, ↓st_st, ↓ow_ow, ↓lk_st, ↓lk_ow, ↓bo_bo, ↓in_in, ↓wt_test, ↓wt_tru, ↓tr_bo, ↓tr_in, ↓tr_li, ↓tr_tu, ↓tr_no, ↓wt_not, ↓wt_and, ↓wt_or, ↓we_and, ↓we_or, ↓we_not, ↓we_if, ↓di_nil, ↓di_1, ↓di_2, ↓di_3, ↓di_4, ↓di_5, ↓di_6, ↓di_7, ↓di_8, ↓di_9, ↓di_10, ↓di_11, ↓di_12, ↓we_tup, ↓we_lst, ↓wm_nil, ↓wm_cons, ↓wa_nil, ↓wa_ex, ↓wa_st, ↓wa_io, ↓fz_nil, ↓fz_ex, ↓fz_io, ↓fy_st, ↓fy_ow, ↓ar_nil, ↓ar_ex, ↓ar_st, ↓ar_io, ↓pu_nil, ↓pu_cons, ↓we_call, ij_nil, ij_ex, ij_st, ij_io, ↓wg_nm, ↓wg_tu, ↓wg_tl, ↓wgs_nil, ↓wgs_cons, ↓we_methS', ↓ls_li, ↓we_meth, ↓we_chain, ↓we_rg1, ↓we_dict0, ↓we_get, ↓isd_d, ↓we_get2, ↓ws_put, ↓we_val, ↓wi_seq, ↓wi_rng, ↓wi_enum, ↓fq_seqL, ↓fq_seqT, ↓wt_yes, ↓rs_nil, ↓rs_cons, ↓wp_nil, ↓wp_cons, ↓we_comp, ↓we_compD, ↓we_comp2, ↓we_sset, ↓we_lset, ↓we_rev, ↓rv_l, ↓rv_t, ↓f_zip, ↓iq_nil, ↓iq_cons, ↓get_0, ↓set_0, ↓slot_0, ↓fz_0, ↓get_1, ↓set_1, ↓slot_1, ↓fz_1, ↓get_2, ↓set_2, ↓slot_2, ↓fz_2, ↓get_3, ↓set_3, ↓slot_3, ↓fz_3, ↓get_4, ↓set_4, ↓slot_4, ↓fz_4, ↓get_5, ↓set_5, ↓slot_5, ↓fz_5, ↓get_6, ↓set_6, ↓slot_6, ↓fz_6, ↓get_7, ↓set_7, ↓slot_7, ↓fz_7, ↓get_8, ↓set_8, ↓slot_8, ↓fz_8, ↓get_9, ↓set_9, ↓slot_9, ↓fz_9, ↓get_10, ↓set_10, ↓slot_10, ↓fz_10, ↓get_11, ↓set_11, ↓slot_11, ↓fz_11, ↓get_12, ↓set_12, ↓slot_12, ↓fz_12, ↓get_13, ↓set_13, ↓slot_13, ↓fz_13, ↓get_14, ↓set_14, ↓slot_14, ↓fz_14, ↓get_15, ↓set_15, ↓slot_15, ↓fz_15, ↓get_16, ↓set_16, ↓slot_16, ↓fz_16, ↓get_17, ↓set_17, ↓slot_17, ↓fz_17, ↓get_18, ↓set_18, ↓slot_18, ↓fz_18, ↓get_19, ↓set_19, ↓slot_19, ↓fz_19, ↓get_20, ↓set_20, ↓slot_20, ↓fz_20, ↓get_21, ↓set_21, ↓slot_21, ↓fz_21, ↓get_22, ↓set_22, ↓slot_22, ↓fz_22, ↓get_23, ↓set_23, ↓slot_23, ↓fz_23, ↓get_24, ↓set_24, ↓slot_24, ↓fz_24, ↓get_25, ↓set_25, ↓slot_25, ↓fz_25, ↓f_sub, ↓f_lt, ↓f_le, ↓f_gt, ↓f_ge, ↓f_add, ↓f_mod, ↓f_fdiv, ↓f_mulL, ↓f_mulR, ↓f_neg, ↓f_abs, ↓f_intI, ↓f_intB, ↓f_lenL, ↓f_lenT, ↓f_tupL, ↓f_tupT, ↓f_lisL, ↓f_lisT, ↓f_isB, ↓f_isNotB, ↓f_isN, ↓f_isNotN, ↓f_all, ↓f_any, ↓f_sum, ↓f_isi_int_int, ↓f_isi_int_bool, ↓f_isi_int_tuple, ↓f_isi_int_str, ↓f_isi_int_list, ↓f_isi_bool_int, ↓f_isi_bool_bool, ↓f_isi_bool_tuple, ↓f_isi_bool_str, ↓f_isi_bool_list, ↓f_isi_tuple_int, ↓f_isi_tuple_bool, ↓f_isi_tuple_tuple, ↓f_isi_tuple_str, ↓f_isi_tuple_list, ↓f_isi_str_int, ↓f_isi_str_bool, ↓f_isi_str_tuple, ↓f_isi_str_str, ↓f_isi_str_list, ↓f_isi_list_int, ↓f_isi_list_bool, ↓f_isi_list_tuple, ↓f_isi_list_str, ↓f_isi_list_list, ↓h_pop, ↓h_pop0, ↓f_rngI, ↓f_ixl0, ↓f_ixl1, ↓f_ixl2, ↓f_ixl3, ↓f_ixl4, ↓f_ixl5, ↓f_ixt0, ↓f_ixt1, ↓f_ixt2, ↓f_ixt3, ↓f_ixt4, ↓f_ixt5, ↓f_sd0, ↓f_sd1, ↓f_sd2, ↓f_sd3, ↓f_sd4, ↓f_sd5, nd_none, nd_bool, nd_int, nd_str, nd_list, nd_tuple, ↓WF.of (state_names_eq hn)]
  have hz : (((List.range n).map nD).zip ((List.range n).map fun k => PyData.int (v k))).map (fun p => PyData.tuple [p.1, p.2]) = (List.range n).map fun i => .tuple [nD i, .int (v i)] := by
    rw [List.zip_map', List.map_map]
    rfl
  rw [hz]
  simp only [eq_self, Int.reduceLT, Int.reduceLE, Nat.reduceLT, Nat.reduceLeDiff, Int.reduceToNat, Int.toNat_natCast, ↓ws_seq, ↓sq_nx, ↓sq_rt, ↓sq_rf, ↓sq_bk, ↓sq_ct, ↓lq_nx, ↓lq_ct, ↓lq_bk, ↓lq_rt, ↓lq_rf, ↓ou_nx, ↓ou_rt, ↓ou_rf, ↓ws_next, ↓ws_break, ↓ws_cont, ↓ws_retNone, ↓ws_drop, ↓ws_ret, ↓ws_retF, ↓ws_set, ↓ws_setF, ↓rn_st, ↓rn_ow, ↓ws_retN, ↓sn_st, ↓sn_ow, ↓ws_setN, ↓ite_t, ↓ite_f, ↓ws_if, ↓ws_asg, ↓ws_store, ↓ws_aug, ↓ws_for, ↓ws_while, ↓we_c, ↓we_n, ↓we_op, ↓we_int, ↓wv_nil, ↓wv_ex, ↓wv_nm, ↓re_nil, ↓re_ex, ↓re_nm, ↓st_st, ↓ow_ow, ↓lk_st, ↓lk_ow, ↓bo_bo, ↓in_in, ↓wt_test, ↓wt_tru, ↓tr_bo, ↓tr_in, ↓tr_li, ↓tr_tu, ↓tr_no, ↓wt_not, ↓wt_and, ↓wt_or, ↓we_and, ↓we_or, ↓we_not, ↓we_if, ↓di_nil, ↓di_1, ↓di_2, ↓di_3, ↓di_4, ↓di_5, ↓di_6, ↓di_7, ↓di_8, ↓di_9, ↓di_10, ↓di_11, ↓di_12, ↓we_tup, ↓we_lst, ↓wm_nil, ↓wm_cons, ↓wa_nil, ↓wa_ex, ↓wa_st, ↓wa_io, ↓fz_nil, ↓fz_ex, ↓fz_io, ↓fy_st, ↓fy_ow, ↓ar_nil, ↓ar_ex, ↓ar_st, ↓ar_io, ↓pu_nil, ↓pu_cons, ↓we_call, ij_nil, ij_ex, ij_st, ij_io, ↓wg_nm, ↓wg_tu, ↓wg_tl, ↓wgs_nil, ↓wgs_cons, ↓we_methS', ↓ls_li, ↓we_meth, ↓we_chain, ↓we_rg1, ↓we_dict0, ↓we_get, ↓isd_d, ↓we_get2, ↓ws_put, ↓we_val, ↓wi_seq, ↓wi_rng, ↓wi_enum, ↓fq_seqL, ↓fq_seqT, ↓wt_yes, ↓rs_nil, ↓rs_cons, ↓wp_nil, ↓wp_cons, ↓we_comp, ↓we_compD, ↓we_comp2, ↓we_sset, ↓we_lset, ↓we_rev, ↓rv_l, ↓rv_t, ↓f_zip, ↓iq_nil, ↓iq_cons, ↓get_0, ↓set_0, ↓slot_0, ↓fz_0, ↓get_1, ↓set_1, ↓slot_1, ↓fz_1, ↓get_2, ↓set_2, ↓slot_2, ↓fz_2, ↓get_3, ↓set_3, ↓slot_3, ↓fz_3, ↓get_4, ↓set_4, ↓slot_4, ↓fz_4, ↓get_5, ↓set_5, ↓slot_5, ↓fz_5, ↓get_6, ↓set_6, ↓slot_6, ↓fz_6, ↓get_7, ↓set_7, ↓slot_7, ↓fz_7, ↓get_8, ↓set_8, ↓slot_8, ↓fz_8, ↓get_9, ↓set_9, ↓slot_9, ↓fz_9, ↓get_10, ↓set_10, ↓slot_10, ↓fz_10, ↓get_11, ↓set_11, ↓slot_11, ↓fz_11, ↓get_12, ↓set_12, ↓slot_12, ↓fz_12, ↓get_13, ↓set_13, ↓slot_13, ↓fz_13, ↓get_14, ↓set_14, ↓slot_14, ↓fz_14, ↓get_15, ↓set_15, ↓slot_15, ↓fz_15, ↓get_16, ↓set_16, ↓slot_16, ↓fz_16, ↓get_17, ↓set_17, ↓slot_17, ↓fz_17, ↓get_18, ↓set_18, ↓slot_18, ↓fz_18, ↓get_19, ↓set_19, ↓slot_19, ↓fz_19, ↓get_20, ↓set_20, ↓slot_20, ↓fz_20, ↓get_21, ↓set_21, ↓slot_21, ↓fz_21, ↓get_22, ↓set_22, ↓slot_22, ↓fz_22, ↓get_23, ↓set_23, ↓slot_23, ↓fz_23, ↓get_24, ↓set_24, ↓slot_24, ↓fz_24, ↓get_25, ↓set_25, ↓slot_25, ↓fz_25, ↓f_sub, ↓f_lt, ↓f_le, ↓f_gt, ↓f_ge, ↓f_add, ↓f_mod, ↓f_fdiv, ↓f_mulL, ↓f_mulR, ↓f_neg, ↓f_abs, ↓f_intI, ↓f_intB, ↓f_lenL, ↓f_lenT, ↓f_tupL, ↓f_tupT, ↓f_lisL, ↓f_lisT, ↓f_isB, ↓f_isNotB, ↓f_isN, ↓f_isNotN, ↓f_all, ↓f_any, ↓f_sum, ↓f_isi_int_int, ↓f_isi_int_bool, ↓f_isi_int_tuple, ↓f_isi_int_str, ↓f_isi_int_list, ↓f_isi_bool_int, ↓f_isi_bool_bool, ↓f_isi_bool_tuple, ↓f_isi_bool_str, ↓f_isi_bool_list, ↓f_isi_tuple_int, ↓f_isi_tuple_bool, ↓f_isi_tuple_tuple, ↓f_isi_tuple_str, ↓f_isi_tuple_list, ↓f_isi_str_int, ↓f_isi_str_bool, ↓f_isi_str_tuple, ↓f_isi_str_str, ↓f_isi_str_list, ↓f_isi_list_int, ↓f_isi_list_bool, ↓f_isi_list_tuple, ↓f_isi_list_str, ↓f_isi_list_list, ↓h_pop, ↓h_pop0, ↓f_rngI, ↓f_ixl0, ↓f_ixl1, ↓f_ixl2, ↓f_ixl3, ↓f_ixl4, ↓f_ixl5, ↓f_ixt0, ↓f_ixt1, ↓f_ixt2, ↓f_ixt3, ↓f_ixt4, ↓f_ixt5, ↓f_sd0, ↓f_sd1, ↓f_sd2, ↓f_sd3, ↓f_sd4, ↓f_sd5, nd_none, nd_bool, nd_int, nd_str, nd_list, nd_tuple, ↓WF.of (leaf_at_eq hn hv hT hd)]
  rw [hm, d_kind]
  simp only [eq_self, Int.reduceLT, Int.reduceLE, Nat.reduceLT, Nat.reduceLeDiff, Int.reduceToNat, Int.toNat_natCast, ↓ws_seq, ↓sq_nx, ↓sq_rt, ↓sq_rf, ↓sq_bk, ↓sq_ct, ↓lq_nx, ↓lq_ct, ↓lq_bk, ↓lq_rt, ↓lq_rf, ↓ou_nx, ↓ou_rt, ↓ou_rf, ↓ws_next, ↓ws_break, ↓ws_cont, ↓ws_retNone, ↓ws_drop, ↓ws_ret, ↓ws_retF, ↓ws_set, ↓ws_setF, ↓rn_st, ↓rn_ow, ↓ws_retN, ↓sn_st, ↓sn_ow, ↓ws_setN, ↓ite_t, ↓ite_f, ↓ws_if, ↓ws_asg, ↓ws_store, ↓ws_aug, ↓ws_for, ↓ws_while, ↓we_c, ↓we_n, ↓we_op, ↓we_int, ↓wv_nil, ↓wv_ex, ↓wv_nm, ↓re_nil, ↓re_ex, ↓re_nm, ↓st_st, ↓ow_ow, ↓lk_st, ↓lk_ow, ↓bo_bo, ↓in_in, ↓wt_test, ↓wt_tru, ↓tr_bo, ↓tr_in, ↓tr_li, ↓tr_tu, ↓tr_no, ↓wt_not, ↓wt_and, ↓wt_or, ↓we_and, ↓we_or, ↓we_not, ↓we_if, ↓di_nil, ↓di_1, ↓di_2, ↓di_3, ↓di_4, ↓di_5, ↓di_6, ↓di_7, ↓di_8, ↓di_9, ↓di_10, ↓di_11, ↓di_12, ↓we_tup, ↓we_lst, ↓wm_nil, ↓wm_cons, ↓wa_nil, ↓wa_ex, ↓wa_st, ↓wa_io, ↓fz_nil, ↓fz_ex, ↓fz_io, ↓fy_st, ↓fy_ow, ↓ar_nil, ↓ar_ex, ↓ar_st, ↓ar_io, ↓pu_nil, ↓pu_cons, ↓we_call, ij_nil, ij_ex, ij_st, ij_io, ↓wg_nm, ↓wg_tu, ↓wg_tl, ↓wgs_nil, ↓wgs_cons, ↓we_methS', ↓ls_li, ↓we_meth, ↓we_chain, ↓we_rg1, ↓we_dict0, ↓we_get, ↓isd_d, ↓we_get2, ↓ws_put, ↓we_val, ↓wi_seq, ↓wi_rng, ↓wi_enum, ↓fq_seqL, ↓fq_seqT, ↓wt_yes, ↓rs_nil, ↓rs_cons, ↓wp_nil, ↓wp_cons, ↓we_comp, ↓we_compD, ↓we_comp2, ↓we_sset, ↓we_lset, ↓we_rev, ↓rv_l, ↓rv_t, ↓f_zip, ↓iq_nil, ↓iq_cons, ↓get_0, ↓set_0, ↓slot_0, ↓fz_0, ↓get_1, ↓set_1, ↓slot_1, ↓fz_1, ↓get_2, ↓set_2, ↓slot_2, ↓fz_2, ↓get_3, ↓set_3, ↓slot_3, ↓fz_3, ↓get_4, ↓set_4, ↓slot_4, ↓fz_4, ↓get_5, ↓set_5, ↓slot_5, ↓fz_5, ↓get_6, ↓set_6, ↓slot_6, ↓fz_6, ↓get_7, ↓set_7, ↓slot_7, ↓fz_7, ↓get_8, ↓set_8, ↓slot_8, ↓fz_8, ↓get_9, ↓set_9, ↓slot_9, ↓fz_9, ↓get_10, ↓set_10, ↓slot_10, ↓fz_10, ↓get_11, ↓set_11, ↓slot_11, ↓fz_11, ↓get_12, ↓set_12, ↓slot_12, ↓fz_12, ↓get_13, ↓set_13, ↓slot_13, ↓fz_13, ↓get_14, ↓set_14, ↓slot_14, ↓fz_14, ↓get_15, ↓set_15, ↓slot_15, ↓fz_15, ↓get_16, ↓set_16, ↓slot_16, ↓fz_16, ↓get_17, ↓set_17, ↓slot_17, ↓fz_17, ↓get_18, ↓set_18, ↓slot_18, ↓fz_18, ↓get_19, ↓set_19, ↓slot_19, ↓fz_19, ↓get_20, ↓set_20, ↓slot_20, ↓fz_20, ↓get_21, ↓set_21, ↓slot_21, ↓fz_21, ↓get_22, ↓set_22, ↓slot_22, ↓fz_22, ↓get_23, ↓set_23, ↓slot_23, ↓fz_23, ↓get_24, ↓set_24, ↓slot_24, ↓fz_24, ↓get_25, ↓set_25, ↓slot_25, ↓fz_25, ↓f_sub, ↓f_lt, ↓f_le, ↓f_gt, ↓f_ge, ↓f_add, ↓f_mod, ↓f_fdiv, ↓f_mulL, ↓f_mulR, ↓f_neg, ↓f_abs, ↓f_intI, ↓f_intB, ↓f_lenL, ↓f_lenT, ↓f_tupL, ↓f_tupT, ↓f_lisL, ↓f_lisT, ↓f_isB, ↓f_isNotB, ↓f_isN, ↓f_isNotN, ↓f_all, ↓f_any, ↓f_sum, ↓f_isi_int_int, ↓f_isi_int_bool, ↓f_isi_int_tuple, ↓f_isi_int_str, ↓f_isi_int_list, ↓f_isi_bool_int, ↓f_isi_bool_bool, ↓f_isi_bool_tuple, ↓f_isi_bool_str, ↓f_isi_bool_list, ↓f_isi_tuple_int, ↓f_isi_tuple_bool, ↓f_isi_tuple_tuple, ↓f_isi_tuple_str, ↓f_isi_tuple_list, ↓f_isi_str_int, ↓f_isi_str_bool, ↓f_isi_str_tuple, ↓f_isi_str_str, ↓f_isi_str_list, ↓f_isi_list_int, ↓f_isi_list_bool, ↓f_isi_list_tuple, ↓f_isi_list_str, ↓f_isi_list_list, ↓h_pop, ↓h_pop0, ↓f_rngI, ↓f_ixl0, ↓f_ixl1, ↓f_ixl2, ↓f_ixl3, ↓f_ixl4, ↓f_ixl5, ↓f_ixt0, ↓f_ixt1, ↓f_ixt2, ↓f_ixt3, ↓f_ixt4, ↓f_ixt5, ↓f_sd0, ↓f_sd1, ↓f_sd2, ↓f_sd3, ↓f_sd4, ↓f_sd5, nd_none, nd_bool, nd_int, nd_str, nd_list, nd_tuple]
  exact ⟨trivial, trivial⟩)
theorem pw_one {l : List Tm} (h : l.Pairwise fun a b => a.1 ≠ b.1) {a b : Tm} (ha : a ∈ l) (hb : b ∈ l) (e : a.1 = b.1) : a = b := by
  induction h with
  | nil => cases ha
  | cons h1 _ ih =>
    rcases List.mem_cons.mp ha with e1 | ha2
    · rcases List.mem_cons.mp hb with e2 | hb2
      · rw [e1, e2]
      · exact absurd (by rw [← e1]; exact e) (h1 b hb2)
    · rcases List.mem_cons.mp hb with e2 | hb2
      · exact absurd (by rw [← e2]; exact e.symm) (h1 a ha2)
      · exact ih ha2 hb2
theorem sk_eq : ∀ ps : List Tm, strKeys (ps.map fun t => (kD (nk t.1), PyData.int t.2)) = some (ps.map fun t => nm t.1)
  | [] => rfl
  | p :: ps => by
    rw [List.map_cons, List.map_cons]
    show (strKeys (ps.map fun t => (kD (nk t.1), PyData.int t.2))).map (nm p.1 :: ·) = _
    rw [sk_eq ps]
    rfl
theorem form_ex {n : Nat} (hn : n < 4) {c : Int} {ps : List Tm} (h1 : ps.length ≤ 3) (h2 : ∀ t ∈ ps, t.1 < n) (h3 : (ps.map (·.1)).Nodup) : ∃ ts, F_law_form [.int c, .list (ps.map tmD)] = some (fD c ts, []) ∧ ts.length ≤ 3 ∧ ∀ t ∈ ts, t.1 < n := by
  suffices hs : @WF F_law_form [.int c, .list (ps.map tmD)] fun d ns => ∃ ts, d = fD c ts ∧ ns = [] ∧ ts.length ≤ 3 ∧ ∀ t ∈ ts, t.1 < n by
    obtain ⟨d, ns, h, ts, rfl, rfl, hv⟩ := hs.ex
    exact ⟨ts, h, hv⟩
  rw [run_law_form]
  unfold m_law_form
  simp only [eq_self, Int.reduceLT, Int.reduceLE, Nat.reduceLT, Nat.reduceLeDiff, Int.reduceToNat, Int.toNat_natCast, ↓ws_seq, ↓sq_nx, ↓sq_rt, ↓sq_rf, ↓sq_bk, ↓sq_ct, ↓lq_nx, ↓lq_ct, ↓lq_bk, ↓lq_rt, ↓lq_rf, ↓ou_nx, ↓ou_rt, ↓ou_rf, ↓ws_next, ↓ws_break, ↓ws_cont, ↓ws_retNone, ↓ws_drop, ↓ws_ret, ↓ws_retF, ↓ws_set, ↓ws_setF, ↓rn_st, ↓rn_ow, ↓ws_retN, ↓sn_st, ↓sn_ow, ↓ws_setN, ↓ite_t, ↓ite_f, ↓ws_if, ↓ws_asg, ↓ws_store, ↓ws_aug, ↓ws_for, ↓ws_while, ↓we_c, ↓we_n, ↓we_op, ↓we_int, ↓wv_nil, ↓wv_ex, ↓wv_nm, ↓re_nil, ↓re_ex, ↓re_nm, ↓st_st, ↓ow_ow, ↓lk_st, ↓lk_ow, ↓bo_bo, ↓in_in, ↓wt_test, ↓wt_tru, ↓tr_bo, ↓tr_in, ↓tr_li, ↓tr_tu, ↓tr_no, ↓wt_not, ↓wt_and, ↓wt_or, ↓we_and, ↓we_or, ↓we_not, ↓we_if, ↓di_nil, ↓di_1, ↓di_2, ↓di_3, ↓di_4, ↓di_5, ↓di_6, ↓di_7, ↓di_8, ↓di_9, ↓di_10, ↓di_11, ↓di_12, ↓we_tup, ↓we_lst, ↓wm_nil, ↓wm_cons, ↓wa_nil, ↓wa_ex, ↓wa_st, ↓wa_io, ↓fz_nil, ↓fz_ex, ↓fz_io, ↓fy_st, ↓fy_ow, ↓ar_nil, ↓ar_ex, ↓ar_st, ↓ar_io, ↓pu_nil, ↓pu_cons, ↓we_call, ij_nil, ij_ex, ij_st, ij_io, ↓wg_nm, ↓wg_tu, ↓wg_tl, ↓wgs_nil, ↓wgs_cons, ↓we_methS', ↓ls_li, ↓we_meth, ↓we_chain, ↓we_rg1, ↓we_dict0, ↓we_get, ↓isd_d, ↓we_get2, ↓ws_put, ↓we_val, ↓wi_seq, ↓wi_rng, ↓wi_enum, ↓fq_seqL, ↓fq_seqT, ↓wt_yes, ↓rs_nil, ↓rs_cons, ↓wp_nil, ↓wp_cons, ↓we_comp, ↓we_compD, ↓we_comp2, ↓we_sset, ↓we_lset, ↓we_rev, ↓rv_l, ↓rv_t, ↓f_zip, ↓iq_nil, ↓iq_cons, ↓get_0, ↓set_0, ↓slot_0, ↓fz_0, ↓get_1, ↓set_1, ↓slot_1, ↓fz_1, ↓get_2, ↓set_2, ↓slot_2, ↓fz_2, ↓get_3, ↓set_3, ↓slot_3, ↓fz_3, ↓get_4, ↓set_4, ↓slot_4, ↓fz_4, ↓get_5, ↓set_5, ↓slot_5, ↓fz_5, ↓get_6, ↓set_6, ↓slot_6, ↓fz_6, ↓get_7, ↓set_7, ↓slot_7, ↓fz_7, ↓get_8, ↓set_8, ↓slot_8, ↓fz_8, ↓get_9, ↓set_9, ↓slot_9, ↓fz_9, ↓get_10, ↓set_10, ↓slot_10, ↓fz_10, ↓get_11, ↓set_11, ↓slot_11, ↓fz_11, ↓get_12, ↓set_12, ↓slot_12, ↓fz_12, ↓get_13, ↓set_13, ↓slot_13, ↓fz_13, ↓get_14, ↓set_14, ↓slot_14, ↓fz_14, ↓get_15, ↓set_15, ↓slot_15, ↓fz_15, ↓get_16, ↓set_16, ↓slot_16, ↓fz_16, ↓get_17, ↓set_17, ↓slot_17, ↓fz_17, ↓get_18, ↓set_18, ↓slot_18, ↓fz_18, ↓get_19, ↓set_19, ↓slot_19, ↓fz_19, ↓get_20, ↓set_20, ↓slot_20, ↓fz_20, ↓get_21, ↓set_21, ↓slot_21, ↓fz_21, ↓get_22, ↓set_22, ↓slot_22, ↓fz_22, ↓get_23, ↓set_23, ↓slot_23, ↓fz_23, ↓get_24, ↓set_24, ↓slot_24, ↓fz_24, ↓get_25, ↓set_25, ↓slot_25, ↓fz_25, ↓f_sub, ↓f_lt, ↓f_le, ↓f_gt, ↓f_ge, ↓f_add, ↓f_mod, ↓f_fdiv, ↓f_mulL, ↓f_mulR, ↓f_neg, ↓f_abs, ↓f_intI, ↓f_intB, ↓f_lenL, ↓f_lenT, ↓f_tupL, ↓f_tupT, ↓f_lisL, ↓f_lisT, ↓f_isB, ↓f_isNotB, ↓f_isN, ↓f_isNotN, ↓f_all, ↓f_any, ↓f_sum, ↓f_isi_int_int, ↓f_isi_int_bool, ↓f_isi_int_tuple, ↓f_isi_int_str, ↓f_isi_int_list, ↓f_isi_bool_int, ↓f_isi_bool_bool, ↓f_isi_bool_tuple, ↓f_isi_bool_str, ↓f_isi_bool_list, ↓f_isi_tuple_int, ↓f_isi_tuple_bool, ↓f_isi_tuple_tuple, ↓f_isi_tuple_str, ↓f_isi_tuple_list, ↓f_isi_str_int, ↓f_isi_str_bool, ↓f_isi_str_tuple, ↓f_isi_str_str, ↓f_isi_str_list, ↓f_isi_list_int, ↓f_isi_list_bool, ↓f_isi_list_tuple, ↓f_isi_list_str, ↓f_isi_list_list, ↓h_pop, ↓h_pop0, ↓f_rngI, ↓f_ixl0, ↓f_ixl1, ↓f_ixl2, ↓f_ixl3, ↓f_ixl4, ↓f_ixl5, ↓f_ixt0, ↓f_ixt1, ↓f_ixt2, ↓f_ixt3, ↓f_ixt4, ↓f_ixt5, ↓f_sd0, ↓f_sd1, ↓f_sd2, ↓f_sd3, ↓f_sd4, ↓f_sd5, nd_none, nd_bool, nd_int, nd_str, nd_list, nd_tuple]
  refine wl_map (f := tmD) (fun k ρ => k ≤ ps.length ∧ ∃ x3 x4, (x3 = none ∨ ∃ d, x3 = some (.st d)) ∧ ρ = [some (.st (.int c)), some (.st (.list (ps.map tmD))), some (.ow (.dict ((ps.take k).map fun t => (kD (nk t.1), .int t.2)))), x3, x4]) ⟨Nat.zero_le _, _, _, .inl rfl, rfl⟩ (fun k ρ hk z => ?_) fun ρ z => ?_
  · obtain ⟨_, x3, x4, _, rfl⟩ := z
    have hm := List.getElem_mem hk
    have hg : ps[k]! = ps[k] := getElem!_pos ps k hk
    have ht : ps.take (k + 1) = ps.take k ++ [ps[k]!] := by
      rw [List.take_succ, List.getElem?_eq_getElem hk, hg]
      rfl
    rw [← hg] at hm
    have fresh : ∀ b ∈ ps.take k, nk b.1 ≠ nk ps[k]!.1 := fun b hb => by
      refine nk_ne (by have := h2 b (List.mem_of_mem_take hb); omega) (by have := h2 _ hm; omega) fun e => ?_
      have nd : ((ps.take (k + 1)).map (·.1)).Nodup := (h3.sublist ((List.take_sublist _ _).map _))
      rw [ht, List.map_append, List.nodup_append] at nd
      exact nd.2.2 b.1 (List.mem_map.mpr ⟨b, hb, rfl⟩) _ (by simp) e
    have no : dgetD ((ps.take k).map fun t => (kD (nk t.1), PyData.int t.2)) (nk ps[k]!.1) = none := dget_no (kf := fun t : Tm => nk t.1) fresh
    have hl : ((ps.take k).map fun t => (kD (nk t.1), PyData.int t.2)).length < sizeLine := by
      rw [List.length_map, List.length_take]
      exact Nat.lt_of_lt_of_le (show min k ps.length < 4 by omega) (by decide)
    unfold b1_law_form tmD
    simp only [eq_self, Int.reduceLT, Int.reduceLE, Nat.reduceLT, Nat.reduceLeDiff, Int.reduceToNat, Int.toNat_natCast, ↓ws_seq, ↓sq_nx, ↓sq_rt, ↓sq_rf, ↓sq_bk, ↓sq_ct, ↓lq_nx, ↓lq_ct, ↓lq_bk, ↓lq_rt, ↓lq_rf, ↓ou_nx, ↓ou_rt, ↓ou_rf, ↓ws_next, ↓ws_break, ↓ws_cont, ↓ws_retNone, ↓ws_drop, ↓ws_ret, ↓ws_retF, ↓ws_set, ↓ws_setF, ↓rn_st, ↓rn_ow, ↓ws_retN, ↓sn_st, ↓sn_ow, ↓ws_setN, ↓ite_t, ↓ite_f, ↓ws_if, ↓ws_asg, ↓ws_store, ↓ws_aug, ↓ws_for, ↓ws_while, ↓we_c, ↓we_n, ↓we_op, ↓we_int, ↓wv_nil, ↓wv_ex, ↓wv_nm, ↓re_nil, ↓re_ex, ↓re_nm, ↓st_st, ↓ow_ow, ↓lk_st, ↓lk_ow, ↓bo_bo, ↓in_in, ↓wt_test, ↓wt_tru, ↓tr_bo, ↓tr_in, ↓tr_li, ↓tr_tu, ↓tr_no, ↓wt_not, ↓wt_and, ↓wt_or, ↓we_and, ↓we_or, ↓we_not, ↓we_if, ↓di_nil, ↓di_1, ↓di_2, ↓di_3, ↓di_4, ↓di_5, ↓di_6, ↓di_7, ↓di_8, ↓di_9, ↓di_10, ↓di_11, ↓di_12, ↓we_tup, ↓we_lst, ↓wm_nil, ↓wm_cons, ↓wa_nil, ↓wa_ex, ↓wa_st, ↓wa_io, ↓fz_nil, ↓fz_ex, ↓fz_io, ↓fy_st, ↓fy_ow, ↓ar_nil, ↓ar_ex, ↓ar_st, ↓ar_io, ↓pu_nil, ↓pu_cons, ↓we_call, ij_nil, ij_ex, ij_st, ij_io, ↓wg_nm, ↓wg_tu, ↓wg_tl, ↓wgs_nil, ↓wgs_cons, ↓we_methS', ↓ls_li, ↓we_meth, ↓we_chain, ↓we_rg1, ↓we_dict0, ↓we_get, ↓isd_d, ↓we_get2, ↓ws_put, ↓we_val, ↓wi_seq, ↓wi_rng, ↓wi_enum, ↓fq_seqL, ↓fq_seqT, ↓wt_yes, ↓rs_nil, ↓rs_cons, ↓wp_nil, ↓wp_cons, ↓we_comp, ↓we_compD, ↓we_comp2, ↓we_sset, ↓we_lset, ↓we_rev, ↓rv_l, ↓rv_t, ↓f_zip, ↓iq_nil, ↓iq_cons, ↓get_0, ↓set_0, ↓slot_0, ↓fz_0, ↓get_1, ↓set_1, ↓slot_1, ↓fz_1, ↓get_2, ↓set_2, ↓slot_2, ↓fz_2, ↓get_3, ↓set_3, ↓slot_3, ↓fz_3, ↓get_4, ↓set_4, ↓slot_4, ↓fz_4, ↓get_5, ↓set_5, ↓slot_5, ↓fz_5, ↓get_6, ↓set_6, ↓slot_6, ↓fz_6, ↓get_7, ↓set_7, ↓slot_7, ↓fz_7, ↓get_8, ↓set_8, ↓slot_8, ↓fz_8, ↓get_9, ↓set_9, ↓slot_9, ↓fz_9, ↓get_10, ↓set_10, ↓slot_10, ↓fz_10, ↓get_11, ↓set_11, ↓slot_11, ↓fz_11, ↓get_12, ↓set_12, ↓slot_12, ↓fz_12, ↓get_13, ↓set_13, ↓slot_13, ↓fz_13, ↓get_14, ↓set_14, ↓slot_14, ↓fz_14, ↓get_15, ↓set_15, ↓slot_15, ↓fz_15, ↓get_16, ↓set_16, ↓slot_16, ↓fz_16, ↓get_17, ↓set_17, ↓slot_17, ↓fz_17, ↓get_18, ↓set_18, ↓slot_18, ↓fz_18, ↓get_19, ↓set_19, ↓slot_19, ↓fz_19, ↓get_20, ↓set_20, ↓slot_20, ↓fz_20, ↓get_21, ↓set_21, ↓slot_21, ↓fz_21, ↓get_22, ↓set_22, ↓slot_22, ↓fz_22, ↓get_23, ↓set_23, ↓slot_23, ↓fz_23, ↓get_24, ↓set_24, ↓slot_24, ↓fz_24, ↓get_25, ↓set_25, ↓slot_25, ↓fz_25, ↓f_sub, ↓f_lt, ↓f_le, ↓f_gt, ↓f_ge, ↓f_add, ↓f_mod, ↓f_fdiv, ↓f_mulL, ↓f_mulR, ↓f_neg, ↓f_abs, ↓f_intI, ↓f_intB, ↓f_lenL, ↓f_lenT, ↓f_tupL, ↓f_tupT, ↓f_lisL, ↓f_lisT, ↓f_isB, ↓f_isNotB, ↓f_isN, ↓f_isNotN, ↓f_all, ↓f_any, ↓f_sum, ↓f_isi_int_int, ↓f_isi_int_bool, ↓f_isi_int_tuple, ↓f_isi_int_str, ↓f_isi_int_list, ↓f_isi_bool_int, ↓f_isi_bool_bool, ↓f_isi_bool_tuple, ↓f_isi_bool_str, ↓f_isi_bool_list, ↓f_isi_tuple_int, ↓f_isi_tuple_bool, ↓f_isi_tuple_tuple, ↓f_isi_tuple_str, ↓f_isi_tuple_list, ↓f_isi_str_int, ↓f_isi_str_bool, ↓f_isi_str_tuple, ↓f_isi_str_str, ↓f_isi_str_list, ↓f_isi_list_int, ↓f_isi_list_bool, ↓f_isi_list_tuple, ↓f_isi_list_str, ↓f_isi_list_list, ↓h_pop, ↓h_pop0, ↓f_rngI, ↓f_ixl0, ↓f_ixl1, ↓f_ixl2, ↓f_ixl3, ↓f_ixl4, ↓f_ixl5, ↓f_ixt0, ↓f_ixt1, ↓f_ixt2, ↓f_ixt3, ↓f_ixt4, ↓f_ixt5, ↓f_sd0, ↓f_sd1, ↓f_sd2, ↓f_sd3, ↓f_sd4, ↓f_sd5, nd_none, nd_bool, nd_int, nd_str, nd_list, nd_tuple, ↓dg2_no (kd := nD ps[k]!.1) rfl (show noDict (.int 0) = true from rfl) no, ↓dp_of (k := nk ps[k]!.1) (kd := nD ps[k]!.1) (v := .int (0 + ps[k]!.2)) rfl rfl hl]
    rw [dput_no (kf := fun t : Tm => nk t.1) (f := fun t : Tm => PyData.int t.2) fresh, ht, List.map_append, Int.zero_add]
    exact ⟨hk, _, _, .inr ⟨_, rfl⟩, rfl⟩
  · obtain ⟨_, x3, x4, hx3, rfl⟩ := z
    rw [List.take_length]
    have sk := sk_eq ps
    have hp : (strSort (ps.map fun t => nm t.1)).Perm (ps.map fun t => nm t.1) := List.mergeSort_perm _ _
    obtain ⟨L, pL, eL⟩ := perm_map_inv hp
    have hL : L.length ≤ 3 := by rw [pL.length_eq]; exact h1
    simp only [eq_self, Int.reduceLT, Int.reduceLE, Nat.reduceLT, Nat.reduceLeDiff, Int.reduceToNat, Int.toNat_natCast, ↓ws_seq, ↓sq_nx, ↓sq_rt, ↓sq_rf, ↓sq_bk, ↓sq_ct, ↓lq_nx, ↓lq_ct, ↓lq_bk, ↓lq_rt, ↓lq_rf, ↓ou_nx, ↓ou_rt, ↓ou_rf, ↓ws_next, ↓ws_break, ↓ws_cont, ↓ws_retNone, ↓ws_drop, ↓ws_ret, ↓ws_retF, ↓ws_set, ↓ws_setF, ↓rn_st, ↓rn_ow, ↓ws_retN, ↓sn_st, ↓sn_ow, ↓ws_setN, ↓ite_t, ↓ite_f, ↓ws_if, ↓ws_asg, ↓ws_store, ↓ws_aug, ↓ws_for, ↓ws_while, ↓we_c, ↓we_n, ↓we_op, ↓we_int, ↓wv_nil, ↓wv_ex, ↓wv_nm, ↓re_nil, ↓re_ex, ↓re_nm, ↓st_st, ↓ow_ow, ↓lk_st, ↓lk_ow, ↓bo_bo, ↓in_in, ↓wt_test, ↓wt_tru, ↓tr_bo, ↓tr_in, ↓tr_li, ↓tr_tu, ↓tr_no, ↓wt_not, ↓wt_and, ↓wt_or, ↓we_and, ↓we_or, ↓we_not, ↓we_if, ↓di_nil, ↓di_1, ↓di_2, ↓di_3, ↓di_4, ↓di_5, ↓di_6, ↓di_7, ↓di_8, ↓di_9, ↓di_10, ↓di_11, ↓di_12, ↓we_tup, ↓we_lst, ↓wm_nil, ↓wm_cons, ↓wa_nil, ↓wa_ex, ↓wa_st, ↓wa_io, ↓fz_nil, ↓fz_ex, ↓fz_io, ↓fy_st, ↓fy_ow, ↓ar_nil, ↓ar_ex, ↓ar_st, ↓ar_io, ↓pu_nil, ↓pu_cons, ↓we_call, ij_nil, ij_ex, ij_st, ij_io, ↓wg_nm, ↓wg_tu, ↓wg_tl, ↓wgs_nil, ↓wgs_cons, ↓we_methS', ↓ls_li, ↓we_meth, ↓we_chain, ↓we_rg1, ↓we_dict0, ↓we_get, ↓isd_d, ↓we_get2, ↓ws_put, ↓we_val, ↓wi_seq, ↓wi_rng, ↓wi_enum, ↓fq_seqL, ↓fq_seqT, ↓wt_yes, ↓rs_nil, ↓rs_cons, ↓wp_nil, ↓wp_cons, ↓we_comp, ↓we_compD, ↓we_comp2, ↓we_sset, ↓we_lset, ↓we_rev, ↓rv_l, ↓rv_t, ↓f_zip, ↓iq_nil, ↓iq_cons, ↓get_0, ↓set_0, ↓slot_0, ↓fz_0, ↓get_1, ↓set_1, ↓slot_1, ↓fz_1, ↓get_2, ↓set_2, ↓slot_2, ↓fz_2, ↓get_3, ↓set_3, ↓slot_3, ↓fz_3, ↓get_4, ↓set_4, ↓slot_4, ↓fz_4, ↓get_5, ↓set_5, ↓slot_5, ↓fz_5, ↓get_6, ↓set_6, ↓slot_6, ↓fz_6, ↓get_7, ↓set_7, ↓slot_7, ↓fz_7, ↓get_8, ↓set_8, ↓slot_8, ↓fz_8, ↓get_9, ↓set_9, ↓slot_9, ↓fz_9, ↓get_10, ↓set_10, ↓slot_10, ↓fz_10, ↓get_11, ↓set_11, ↓slot_11, ↓fz_11, ↓get_12, ↓set_12, ↓slot_12, ↓fz_12, ↓get_13, ↓set_13, ↓slot_13, ↓fz_13, ↓get_14, ↓set_14, ↓slot_14, ↓fz_14, ↓get_15, ↓set_15, ↓slot_15, ↓fz_15, ↓get_16, ↓set_16, ↓slot_16, ↓fz_16, ↓get_17, ↓set_17, ↓slot_17, ↓fz_17, ↓get_18, ↓set_18, ↓slot_18, ↓fz_18, ↓get_19, ↓set_19, ↓slot_19, ↓fz_19, ↓get_20, ↓set_20, ↓slot_20, ↓fz_20, ↓get_21, ↓set_21, ↓slot_21, ↓fz_21, ↓get_22, ↓set_22, ↓slot_22, ↓fz_22, ↓get_23, ↓set_23, ↓slot_23, ↓fz_23, ↓get_24, ↓set_24, ↓slot_24, ↓fz_24, ↓get_25, ↓set_25, ↓slot_25, ↓fz_25, ↓f_sub, ↓f_lt, ↓f_le, ↓f_gt, ↓f_ge, ↓f_add, ↓f_mod, ↓f_fdiv, ↓f_mulL, ↓f_mulR, ↓f_neg, ↓f_abs, ↓f_intI, ↓f_intB, ↓f_lenL, ↓f_lenT, ↓f_tupL, ↓f_tupT, ↓f_lisL, ↓f_lisT, ↓f_isB, ↓f_isNotB, ↓f_isN, ↓f_isNotN, ↓f_all, ↓f_any, ↓f_sum, ↓f_isi_int_int, ↓f_isi_int_bool, ↓f_isi_int_tuple, ↓f_isi_int_str, ↓f_isi_int_list, ↓f_isi_bool_int, ↓f_isi_bool_bool, ↓f_isi_bool_tuple, ↓f_isi_bool_str, ↓f_isi_bool_list, ↓f_isi_tuple_int, ↓f_isi_tuple_bool, ↓f_isi_tuple_tuple, ↓f_isi_tuple_str, ↓f_isi_tuple_list, ↓f_isi_str_int, ↓f_isi_str_bool, ↓f_isi_str_tuple, ↓f_isi_str_str, ↓f_isi_str_list, ↓f_isi_list_int, ↓f_isi_list_bool, ↓f_isi_list_tuple, ↓f_isi_list_str, ↓f_isi_list_list, ↓h_pop, ↓h_pop0, ↓f_rngI, ↓f_ixl0, ↓f_ixl1, ↓f_ixl2, ↓f_ixl3, ↓f_ixl4, ↓f_ixl5, ↓f_ixt0, ↓f_ixt1, ↓f_ixt2, ↓f_ixt3, ↓f_ixt4, ↓f_ixt5, ↓f_sd0, ↓f_sd1, ↓f_sd2, ↓f_sd3, ↓f_sd4, ↓f_sd5, nd_none, nd_bool, nd_int, nd_str, nd_list, nd_tuple, ↓f_sortK sk (show (ps.map fun t => nm t.1).length < 64 by rw [List.length_map]; omega)]
    rw [eL, List.map_map]
    refine ⟨⟨by rcases hx3 with rfl | ⟨d, rfl⟩ <;> rfl, by rw [List.length_map]; exact Nat.le_trans hL (by decide)⟩, ?_⟩
    refine wc_inv (fun k ys ρ => ∃ (ts : List Tm) (x3 : Option SV), ys = ts.map tmD ∧ ts.length ≤ k ∧ (∀ t ∈ ts, t.1 < n) ∧ ρ = [some (.st (.int c)), some (.st (.list (ps.map tmD))), some (.ow (.dict (ps.map fun t => (kD (nk t.1), .int t.2)))), x3, x4]) [] ⟨[], _, rfl, Nat.le_refl _, by simp, rfl⟩ (fun k d ys ρ ge z => ?_) fun zs ρ z => ?_
    · obtain ⟨ts, x3, rfl, hts, hlt, rfl⟩ := z
      rw [List.getElem?_map] at ge
      obtain ⟨t, gt, rfl⟩ := Option.map_eq_some_iff.mp ge
      have hm : t ∈ ps := pL.mem_iff.mp (List.mem_of_getElem? gt)
      have gd : dgetD (ps.map fun t => (kD (nk t.1), PyData.int t.2)) (nk t.1) = some (.int t.2) := dget_map (kf := fun t : Tm => nk t.1) (f := fun t : Tm => PyData.int t.2) hm fun b hb e => by
        have e1 : b.1 = t.1 := nm_inj _ (by have := h2 b hb; omega) _ (by have := h2 t hm; omega) (Sum.inr.inj e)
        have nd : ps.Pairwise fun a b => a.1 ≠ b.1 := List.pairwise_map.mp h3
        exact pw_one nd hb hm e1
      simp only [Function.comp, eq_self, Int.reduceLT, Int.reduceLE, Nat.reduceLT, Nat.reduceLeDiff, Int.reduceToNat, Int.toNat_natCast, ↓ws_seq, ↓sq_nx, ↓sq_rt, ↓sq_rf, ↓sq_bk, ↓sq_ct, ↓lq_nx, ↓lq_ct, ↓lq_bk, ↓lq_rt, ↓lq_rf, ↓ou_nx, ↓ou_rt, ↓ou_rf, ↓ws_next, ↓ws_break, ↓ws_cont, ↓ws_retNone, ↓ws_drop, ↓ws_ret, ↓ws_retF, ↓ws_set, ↓ws_setF, ↓rn_st, ↓rn_ow, ↓ws_retN, ↓sn_st, ↓sn_ow, ↓ws_setN, ↓ite_t, ↓ite_f, ↓ws_if, ↓ws_asg, ↓ws_store, ↓ws_aug, ↓ws_for, ↓ws_while, ↓we_c, ↓we_n, ↓we_op, ↓we_int, ↓wv_nil, ↓wv_ex, ↓wv_nm, ↓re_nil, ↓re_ex, ↓re_nm, ↓st_st, ↓ow_ow, ↓lk_st, ↓lk_ow, ↓bo_bo, ↓in_in, ↓wt_test, ↓wt_tru, ↓tr_bo, ↓tr_in, ↓tr_li, ↓tr_tu, ↓tr_no, ↓wt_not, ↓wt_and, ↓wt_or, ↓we_and, ↓we_or, ↓we_not, ↓we_if, ↓di_nil, ↓di_1, ↓di_2, ↓di_3, ↓di_4, ↓di_5, ↓di_6, ↓di_7, ↓di_8, ↓di_9, ↓di_10, ↓di_11, ↓di_12, ↓we_tup, ↓we_lst, ↓wm_nil, ↓wm_cons, ↓wa_nil, ↓wa_ex, ↓wa_st, ↓wa_io, ↓fz_nil, ↓fz_ex, ↓fz_io, ↓fy_st, ↓fy_ow, ↓ar_nil, ↓ar_ex, ↓ar_st, ↓ar_io, ↓pu_nil, ↓pu_cons, ↓we_call, ij_nil, ij_ex, ij_st, ij_io, ↓wg_nm, ↓wg_tu, ↓wg_tl, ↓wgs_nil, ↓wgs_cons, ↓we_methS', ↓ls_li, ↓we_meth, ↓we_chain, ↓we_rg1, ↓we_dict0, ↓we_get, ↓isd_d, ↓we_get2, ↓ws_put, ↓we_val, ↓wi_seq, ↓wi_rng, ↓wi_enum, ↓fq_seqL, ↓fq_seqT, ↓wt_yes, ↓rs_nil, ↓rs_cons, ↓wp_nil, ↓wp_cons, ↓we_comp, ↓we_compD, ↓we_comp2, ↓we_sset, ↓we_lset, ↓we_rev, ↓rv_l, ↓rv_t, ↓f_zip, ↓iq_nil, ↓iq_cons, ↓get_0, ↓set_0, ↓slot_0, ↓fz_0, ↓get_1, ↓set_1, ↓slot_1, ↓fz_1, ↓get_2, ↓set_2, ↓slot_2, ↓fz_2, ↓get_3, ↓set_3, ↓slot_3, ↓fz_3, ↓get_4, ↓set_4, ↓slot_4, ↓fz_4, ↓get_5, ↓set_5, ↓slot_5, ↓fz_5, ↓get_6, ↓set_6, ↓slot_6, ↓fz_6, ↓get_7, ↓set_7, ↓slot_7, ↓fz_7, ↓get_8, ↓set_8, ↓slot_8, ↓fz_8, ↓get_9, ↓set_9, ↓slot_9, ↓fz_9, ↓get_10, ↓set_10, ↓slot_10, ↓fz_10, ↓get_11, ↓set_11, ↓slot_11, ↓fz_11, ↓get_12, ↓set_12, ↓slot_12, ↓fz_12, ↓get_13, ↓set_13, ↓slot_13, ↓fz_13, ↓get_14, ↓set_14, ↓slot_14, ↓fz_14, ↓get_15, ↓set_15, ↓slot_15, ↓fz_15, ↓get_16, ↓set_16, ↓slot_16, ↓fz_16, ↓get_17, ↓set_17, ↓slot_17, ↓fz_17, ↓get_18, ↓set_18, ↓slot_18, ↓fz_18, ↓get_19, ↓set_19, ↓slot_19, ↓fz_19, ↓get_20, ↓set_20, ↓slot_20, ↓fz_20, ↓get_21, ↓set_21, ↓slot_21, ↓fz_21, ↓get_22, ↓set_22, ↓slot_22, ↓fz_22, ↓get_23, ↓set_23, ↓slot_23, ↓fz_23, ↓get_24, ↓set_24, ↓slot_24, ↓fz_24, ↓get_25, ↓set_25, ↓slot_25, ↓fz_25, ↓f_sub, ↓f_lt, ↓f_le, ↓f_gt, ↓f_ge, ↓f_add, ↓f_mod, ↓f_fdiv, ↓f_mulL, ↓f_mulR, ↓f_neg, ↓f_abs, ↓f_intI, ↓f_intB, ↓f_lenL, ↓f_lenT, ↓f_tupL, ↓f_tupT, ↓f_lisL, ↓f_lisT, ↓f_isB, ↓f_isNotB, ↓f_isN, ↓f_isNotN, ↓f_all, ↓f_any, ↓f_sum, ↓f_isi_int_int, ↓f_isi_int_bool, ↓f_isi_int_tuple, ↓f_isi_int_str, ↓f_isi_int_list, ↓f_isi_bool_int, ↓f_isi_bool_bool, ↓f_isi_bool_tuple, ↓f_isi_bool_str, ↓f_isi_bool_list, ↓f_isi_tuple_int, ↓f_isi_tuple_bool, ↓f_isi_tuple_tuple, ↓f_isi_tuple_str, ↓f_isi_tuple_list, ↓f_isi_str_int, ↓f_isi_str_bool, ↓f_isi_str_tuple, ↓f_isi_str_str, ↓f_isi_str_list, ↓f_isi_list_int, ↓f_isi_list_bool, ↓f_isi_list_tuple, ↓f_isi_list_str, ↓f_isi_list_list, ↓h_pop, ↓h_pop0, ↓f_rngI, ↓f_ixl0, ↓f_ixl1, ↓f_ixl2, ↓f_ixl3, ↓f_ixl4, ↓f_ixl5, ↓f_ixt0, ↓f_ixt1, ↓f_ixt2, ↓f_ixt3, ↓f_ixt4, ↓f_ixt5, ↓f_sd0, ↓f_sd1, ↓f_sd2, ↓f_sd3, ↓f_sd4, ↓f_sd5, nd_none, nd_bool, nd_int, nd_str, nd_list, nd_tuple, ↓dg_of (kd := nD t.1) rfl gd, ↓q_nei]
      by_cases hz : t.2 ≠ 0
      · rw [itT hz]
        refine ⟨trivial, ts ++ [t], _, by rw [List.map_append]; rfl, by simp; omega, fun u hu => ?_, rfl⟩
        rcases List.mem_append.mp hu with h | h
        · exact hlt u h
        · rw [List.mem_singleton.mp h]
          exact h2 t hm
      · rw [itF hz]
        exact ⟨ts, _, rfl, by omega, hlt, rfl⟩
    · obtain ⟨ts, x3, rfl, hts, hlt, rfl⟩ := z
      rw [List.length_map] at hts
      simp only [eq_self, Int.reduceLT, Int.reduceLE, Nat.reduceLT, Nat.reduceLeDiff, Int.reduceToNat, Int.toNat_natCast, ↓ws_seq, ↓sq_nx, ↓sq_rt, ↓sq_rf, ↓sq_bk, ↓sq_ct, ↓lq_nx, ↓lq_ct, ↓lq_bk, ↓lq_rt, ↓lq_rf, ↓ou_nx, ↓ou_rt, ↓ou_rf, ↓ws_next, ↓ws_break, ↓ws_cont, ↓ws_retNone, ↓ws_drop, ↓ws_ret, ↓ws_retF, ↓ws_set, ↓ws_setF, ↓rn_st, ↓rn_ow, ↓ws_retN, ↓sn_st, ↓sn_ow, ↓ws_setN, ↓ite_t, ↓ite_f, ↓ws_if, ↓ws_asg, ↓ws_store, ↓ws_aug, ↓ws_for, ↓ws_while, ↓we_c, ↓we_n, ↓we_op, ↓we_int, ↓wv_nil, ↓wv_ex, ↓wv_nm, ↓re_nil, ↓re_ex, ↓re_nm, ↓st_st, ↓ow_ow, ↓lk_st, ↓lk_ow, ↓bo_bo, ↓in_in, ↓wt_test, ↓wt_tru, ↓tr_bo, ↓tr_in, ↓tr_li, ↓tr_tu, ↓tr_no, ↓wt_not, ↓wt_and, ↓wt_or, ↓we_and, ↓we_or, ↓we_not, ↓we_if, ↓di_nil, ↓di_1, ↓di_2, ↓di_3, ↓di_4, ↓di_5, ↓di_6, ↓di_7, ↓di_8, ↓di_9, ↓di_10, ↓di_11, ↓di_12, ↓we_tup, ↓we_lst, ↓wm_nil, ↓wm_cons, ↓wa_nil, ↓wa_ex, ↓wa_st, ↓wa_io, ↓fz_nil, ↓fz_ex, ↓fz_io, ↓fy_st, ↓fy_ow, ↓ar_nil, ↓ar_ex, ↓ar_st, ↓ar_io, ↓pu_nil, ↓pu_cons, ↓we_call, ij_nil, ij_ex, ij_st, ij_io, ↓wg_nm, ↓wg_tu, ↓wg_tl, ↓wgs_nil, ↓wgs_cons, ↓we_methS', ↓ls_li, ↓we_meth, ↓we_chain, ↓we_rg1, ↓we_dict0, ↓we_get, ↓isd_d, ↓we_get2, ↓ws_put, ↓we_val, ↓wi_seq, ↓wi_rng, ↓wi_enum, ↓fq_seqL, ↓fq_seqT, ↓wt_yes, ↓rs_nil, ↓rs_cons, ↓wp_nil, ↓wp_cons, ↓we_comp, ↓we_compD, ↓we_comp2, ↓we_sset, ↓we_lset, ↓we_rev, ↓rv_l, ↓rv_t, ↓f_zip, ↓iq_nil, ↓iq_cons, ↓get_0, ↓set_0, ↓slot_0, ↓fz_0, ↓get_1, ↓set_1, ↓slot_1, ↓fz_1, ↓get_2, ↓set_2, ↓slot_2, ↓fz_2, ↓get_3, ↓set_3, ↓slot_3, ↓fz_3, ↓get_4, ↓set_4, ↓slot_4, ↓fz_4, ↓get_5, ↓set_5, ↓slot_5, ↓fz_5, ↓get_6, ↓set_6, ↓slot_6, ↓fz_6, ↓get_7, ↓set_7, ↓slot_7, ↓fz_7, ↓get_8, ↓set_8, ↓slot_8, ↓fz_8, ↓get_9, ↓set_9, ↓slot_9, ↓fz_9, ↓get_10, ↓set_10, ↓slot_10, ↓fz_10, ↓get_11, ↓set_11, ↓slot_11, ↓fz_11, ↓get_12, ↓set_12, ↓slot_12, ↓fz_12, ↓get_13, ↓set_13, ↓slot_13, ↓fz_13, ↓get_14, ↓set_14, ↓slot_14, ↓fz_14, ↓get_15, ↓set_15, ↓slot_15, ↓fz_15, ↓get_16, ↓set_16, ↓slot_16, ↓fz_16, ↓get_17, ↓set_17, ↓slot_17, ↓fz_17, ↓get_18, ↓set_18, ↓slot_18, ↓fz_18, ↓get_19, ↓set_19, ↓slot_19, ↓fz_19, ↓get_20, ↓set_20, ↓slot_20, ↓fz_20, ↓get_21, ↓set_21, ↓slot_21, ↓fz_21, ↓get_22, ↓set_22, ↓slot_22, ↓fz_22, ↓get_23, ↓set_23, ↓slot_23, ↓fz_23, ↓get_24, ↓set_24, ↓slot_24, ↓fz_24, ↓get_25, ↓set_25, ↓slot_25, ↓fz_25, ↓f_sub, ↓f_lt, ↓f_le, ↓f_gt, ↓f_ge, ↓f_add, ↓f_mod, ↓f_fdiv, ↓f_mulL, ↓f_mulR, ↓f_neg, ↓f_abs, ↓f_intI, ↓f_intB, ↓f_lenL, ↓f_lenT, ↓f_tupL, ↓f_tupT, ↓f_lisL, ↓f_lisT, ↓f_isB, ↓f_isNotB, ↓f_isN, ↓f_isNotN, ↓f_all, ↓f_any, ↓f_sum, ↓f_isi_int_int, ↓f_isi_int_bool, ↓f_isi_int_tuple, ↓f_isi_int_str, ↓f_isi_int_list, ↓f_isi_bool_int, ↓f_isi_bool_bool, ↓f_isi_bool_tuple, ↓f_isi_bool_str, ↓f_isi_bool_list, ↓f_isi_tuple_int, ↓f_isi_tuple_bool, ↓f_isi_tuple_tuple, ↓f_isi_tuple_str, ↓f_isi_tuple_list, ↓f_isi_str_int, ↓f_isi_str_bool, ↓f_isi_str_tuple, ↓f_isi_str_str, ↓f_isi_str_list, ↓f_isi_list_int, ↓f_isi_list_bool, ↓f_isi_list_tuple, ↓f_isi_list_str, ↓f_isi_list_list, ↓h_pop, ↓h_pop0, ↓f_rngI, ↓f_ixl0, ↓f_ixl1, ↓f_ixl2, ↓f_ixl3, ↓f_ixl4, ↓f_ixl5, ↓f_ixt0, ↓f_ixt1, ↓f_ixt2, ↓f_ixt3, ↓f_ixt4, ↓f_ixt5, ↓f_sd0, ↓f_sd1, ↓f_sd2, ↓f_sd3, ↓f_sd4, ↓f_sd5, nd_none, nd_bool, nd_int, nd_str, nd_list, nd_tuple]
      exact ⟨ts, rfl, trivial, by omega, hlt⟩

abbrev nmsD (n : Nat) : D := .list ((List.range n).map nD)
theorem tree_ex {n : Nat} (hn : n < 4) : ∀ (m deep : Nat) (s : DS), deep < m → ∃ (T : Tr) (s' : DS), F_law_tree m [dsD s, nmsD n, .int (deep : Int)] = some (T.d, [dsD s']) ∧ T.ok n ∧ T.dep ≤ deep
  | 0, deep, s, h => absurd h (Nat.not_lt_zero _)
  | m + 1, deep, s, h => by
    suffices hs : @WF (F_law_tree (m + 1)) [dsD s, nmsD n, .int (deep : Int)] fun d ns => ∃ (T : Tr) (s' : DS), d = T.d ∧ ns = [dsD s'] ∧ T.ok n ∧ T.dep ≤ deep by
      obtain ⟨d, ns, e, T, s', rfl, rfl, hv⟩ := hs.ex
      exact ⟨T, s', e, hv⟩
    rw [run_law_tree]
    unfold m_law_tree
    simp only [eq_self, Int.reduceLT, Int.reduceLE, Nat.reduceLT, Nat.reduceLeDiff, Int.reduceToNat, Int.toNat_natCast, ↓ws_seq, ↓sq_nx, ↓sq_rt, ↓sq_rf, ↓sq_bk, ↓sq_ct, ↓lq_nx, ↓lq_ct, ↓lq_bk, ↓lq_rt, ↓lq_rf, ↓ou_nx, ↓ou_rt, ↓ou_rf, ↓ws_next, ↓ws_break, ↓ws_cont, ↓ws_retNone, ↓ws_drop, ↓ws_ret, ↓ws_retF, ↓ws_set, ↓ws_setF, ↓rn_st, ↓rn_ow, ↓ws_retN, ↓sn_st, ↓sn_ow, ↓ws_setN, ↓ite_t, ↓ite_f, ↓ws_if, ↓ws_asg, ↓ws_store, ↓ws_aug, ↓ws_for, ↓ws_while, ↓we_c, ↓we_n, ↓we_op, ↓we_int, ↓wv_nil, ↓wv_ex, ↓wv_nm, ↓re_nil, ↓re_ex, ↓re_nm, ↓st_st, ↓ow_ow, ↓lk_st, ↓lk_ow, ↓bo_bo, ↓in_in, ↓wt_test, ↓wt_tru, ↓tr_bo, ↓tr_in, ↓tr_li, ↓tr_tu, ↓tr_no, ↓wt_not, ↓wt_and, ↓wt_or, ↓we_and, ↓we_or, ↓we_not, ↓we_if, ↓di_nil, ↓di_1, ↓di_2, ↓di_3, ↓di_4, ↓di_5, ↓di_6, ↓di_7, ↓di_8, ↓di_9, ↓di_10, ↓di_11, ↓di_12, ↓we_tup, ↓we_lst, ↓wm_nil, ↓wm_cons, ↓wa_nil, ↓wa_ex, ↓wa_st, ↓wa_io, ↓fz_nil, ↓fz_ex, ↓fz_io, ↓fy_st, ↓fy_ow, ↓ar_nil, ↓ar_ex, ↓ar_st, ↓ar_io, ↓pu_nil, ↓pu_cons, ↓we_call, ij_nil, ij_ex, ij_st, ij_io, ↓wg_nm, ↓wg_tu, ↓wg_tl, ↓wgs_nil, ↓wgs_cons, ↓we_methS', ↓ls_li, ↓we_meth, ↓we_chain, ↓we_rg1, ↓we_dict0, ↓we_get, ↓isd_d, ↓we_get2, ↓ws_put, ↓we_val, ↓wi_seq, ↓wi_rng, ↓wi_enum, ↓fq_seqL, ↓fq_seqT, ↓wt_yes, ↓rs_nil, ↓rs_cons, ↓wp_nil, ↓wp_cons, ↓we_comp, ↓we_compD, ↓we_comp2, ↓we_sset, ↓we_lset, ↓we_rev, ↓rv_l, ↓rv_t, ↓f_zip, ↓iq_nil, ↓iq_cons, ↓get_0, ↓set_0, ↓slot_0, ↓fz_0, ↓get_1, ↓set_1, ↓slot_1, ↓fz_1, ↓get_2, ↓set_2, ↓slot_2, ↓fz_2, ↓get_3, ↓set_3, ↓slot_3, ↓fz_3, ↓get_4, ↓set_4, ↓slot_4, ↓fz_4, ↓get_5, ↓set_5, ↓slot_5, ↓fz_5, ↓get_6, ↓set_6, ↓slot_6, ↓fz_6, ↓get_7, ↓set_7, ↓slot_7, ↓fz_7, ↓get_8, ↓set_8, ↓slot_8, ↓fz_8, ↓get_9, ↓set_9, ↓slot_9, ↓fz_9, ↓get_10, ↓set_10, ↓slot_10, ↓fz_10, ↓get_11, ↓set_11, ↓slot_11, ↓fz_11, ↓get_12, ↓set_12, ↓slot_12, ↓fz_12, ↓get_13, ↓set_13, ↓slot_13, ↓fz_13, ↓get_14, ↓set_14, ↓slot_14, ↓fz_14, ↓get_15, ↓set_15, ↓slot_15, ↓fz_15, ↓get_16, ↓set_16, ↓slot_16, ↓fz_16, ↓get_17, ↓set_17, ↓slot_17, ↓fz_17, ↓get_18, ↓set_18, ↓slot_18, ↓fz_18, ↓get_19, ↓set_19, ↓slot_19, ↓fz_19, ↓get_20, ↓set_20, ↓slot_20, ↓fz_20, ↓get_21, ↓set_21, ↓slot_21, ↓fz_21, ↓get_22, ↓set_22, ↓slot_22, ↓fz_22, ↓get_23, ↓set_23, ↓slot_23, ↓fz_23, ↓get_24, ↓set_24, ↓slot_24, ↓fz_24, ↓get_25, ↓set_25, ↓slot_25, ↓fz_25, ↓f_sub, ↓f_lt, ↓f_le, ↓f_gt, ↓f_ge, ↓f_add, ↓f_mod, ↓f_fdiv, ↓f_mulL, ↓f_mulR, ↓f_neg, ↓f_abs, ↓f_intI, ↓f_intB, ↓f_lenL, ↓f_lenT, ↓f_tupL, ↓f_tupT, ↓f_lisL, ↓f_lisT, ↓f_isB, ↓f_isNotB, ↓f_isN, ↓f_isNotN, ↓f_all, ↓f_any, ↓f_sum, ↓f_isi_int_int, ↓f_isi_int_bool, ↓f_isi_int_tuple, ↓f_isi_int_str, ↓f_isi_int_list, ↓f_isi_bool_int, ↓f_isi_bool_bool, ↓f_isi_bool_tuple, ↓f_isi_bool_str, ↓f_isi_bool_list, ↓f_isi_tuple_int, ↓f_isi_tuple_bool, ↓f_isi_tuple_tuple, ↓f_isi_tuple_str, ↓f_isi_tuple_list, ↓f_isi_str_int, ↓f_isi_str_bool, ↓f_isi_str_tuple, ↓f_isi_str_str, ↓f_isi_str_list, ↓f_isi_list_int, ↓f_isi_list_bool, ↓f_isi_list_tuple, ↓f_isi_list_str, ↓f_isi_list_list, ↓h_pop, ↓h_pop0, ↓f_rngI, ↓f_ixl0, ↓f_ixl1, ↓f_ixl2, ↓f_ixl3, ↓f_ixl4, ↓f_ixl5, ↓f_ixt0, ↓f_ixt1, ↓f_ixt2, ↓f_ixt3, ↓f_ixt4, ↓f_ixt5, ↓f_sd0, ↓f_sd1, ↓f_sd2, ↓f_sd3, ↓f_sd4, ↓f_sd5, nd_none, nd_bool, nd_int, nd_str, nd_list, nd_tuple, w_drawI, nd_ds, ↓q_eqi]
    have leafs : ∀ s1 : DS, @iteQ (decide ((dv s1 7 : Int) = 0)) (∃ (T : Tr) (s' : DS), PyData.tuple [PyData.str "none"] = T.d ∧ [dsD (dn s1 7)] = [dsD s'] ∧ T.ok n ∧ T.dep ≤ deep)
        (∃ (T : Tr) (s' : DS), PyData.tuple [PyData.str "kind", .int (dv (dn s1 7) 6 : Nat)] = T.d ∧ [dsD (dn (dn s1 7) 6)] = [dsD s'] ∧ T.ok n ∧ T.dep ≤ deep) := fun s1 => by
      by_cases hz : (dv s1 7 : Int) = 0
      · rw [itT hz]
        exact ⟨.no, _, rfl, rfl, trivial, Nat.zero_le _⟩
      · rw [itF hz]
        exact ⟨.kind (dv (dn s1 7) 6), _, rfl, rfl, trivial, Nat.zero_le _⟩
    by_cases h0 : (deep : Int) = 0
    · rw [itT h0]
      exact leafs _
    · rw [itF h0]
      by_cases hp : (dv s 4 : Int) = 0
      · rw [itT hp]
        exact leafs _
      · rw [itF hp]
        generalize dn (dn s 4) 13 = s2
        generalize ((dv (dn s 4) 13 : Nat) : Int) - 6 = c
        refine ⟨⟨rfl, by rw [List.length_map, List.length_range]; exact Nat.le_trans (Nat.le_of_lt hn) (by decide)⟩, ?_⟩
        refine wc_inv (fun k ys ρ => ∃ (ps : List Tm) (s3 : DS) (x5 : Option SV), ys = ps.map tmD ∧ ps.map (·.1) = List.range k ∧ ρ = [some (.ow (dsD s3)), some (.st (nmsD n)), some (.st (.int (deep : Int))), some (.st (.int (dv s 4 : Nat))), none, x5]) [] ⟨[], s2, _, rfl, rfl, rfl⟩ (fun k d ys ρ ge z => ?_) fun zs ρ z => ?_
        · obtain ⟨ps, s3, x5, rfl, hps, rfl⟩ := z
          rw [List.getElem?_map] at ge
          obtain ⟨i, gi, rfl⟩ := Option.map_eq_some_iff.mp ge
          obtain ⟨hk, rfl⟩ := List.getElem?_eq_some_iff.mp gi
          rw [List.getElem_range]
          simp only [eq_self, Int.reduceLT, Int.reduceLE, Nat.reduceLT, Nat.reduceLeDiff, Int.reduceToNat, Int.toNat_natCast, ↓ws_seq, ↓sq_nx, ↓sq_rt, ↓sq_rf, ↓sq_bk, ↓sq_ct, ↓lq_nx, ↓lq_ct, ↓lq_bk, ↓lq_rt, ↓lq_rf, ↓ou_nx, ↓ou_rt, ↓ou_rf, ↓ws_next, ↓ws_break, ↓ws_cont, ↓ws_retNone, ↓ws_drop, ↓ws_ret, ↓ws_retF, ↓ws_set, ↓ws_setF, ↓rn_st, ↓rn_ow, ↓ws_retN, ↓sn_st, ↓sn_ow, ↓ws_setN, ↓ite_t, ↓ite_f, ↓ws_if, ↓ws_asg, ↓ws_store, ↓ws_aug, ↓ws_for, ↓ws_while, ↓we_c, ↓we_n, ↓we_op, ↓we_int, ↓wv_nil, ↓wv_ex, ↓wv_nm, ↓re_nil, ↓re_ex, ↓re_nm, ↓st_st, ↓ow_ow, ↓lk_st, ↓lk_ow, ↓bo_bo, ↓in_in, ↓wt_test, ↓wt_tru, ↓tr_bo, ↓tr_in, ↓tr_li, ↓tr_tu, ↓tr_no, ↓wt_not, ↓wt_and, ↓wt_or, ↓we_and, ↓we_or, ↓we_not, ↓we_if, ↓di_nil, ↓di_1, ↓di_2, ↓di_3, ↓di_4, ↓di_5, ↓di_6, ↓di_7, ↓di_8, ↓di_9, ↓di_10, ↓di_11, ↓di_12, ↓we_tup, ↓we_lst, ↓wm_nil, ↓wm_cons, ↓wa_nil, ↓wa_ex, ↓wa_st, ↓wa_io, ↓fz_nil, ↓fz_ex, ↓fz_io, ↓fy_st, ↓fy_ow, ↓ar_nil, ↓ar_ex, ↓ar_st, ↓ar_io, ↓pu_nil, ↓pu_cons, ↓we_call, ij_nil, ij_ex, ij_st, ij_io, ↓wg_nm, ↓wg_tu, ↓wg_tl, ↓wgs_nil, ↓wgs_cons, ↓we_methS', ↓ls_li, ↓we_meth, ↓we_chain, ↓we_rg1, ↓we_dict0, ↓we_get, ↓isd_d, ↓we_get2, ↓ws_put, ↓we_val, ↓wi_seq, ↓wi_rng, ↓wi_enum, ↓fq_seqL, ↓fq_seqT, ↓wt_yes, ↓rs_nil, ↓rs_cons, ↓wp_nil, ↓wp_cons, ↓we_comp, ↓we_compD, ↓we_comp2, ↓we_sset, ↓we_lset, ↓we_rev, ↓rv_l, ↓rv_t, ↓f_zip, ↓iq_nil, ↓iq_cons, ↓get_0, ↓set_0, ↓slot_0, ↓fz_0, ↓get_1, ↓set_1, ↓slot_1, ↓fz_1, ↓get_2, ↓set_2, ↓slot_2, ↓fz_2, ↓get_3, ↓set_3, ↓slot_3, ↓fz_3, ↓get_4, ↓set_4, ↓slot_4, ↓fz_4, ↓get_5, ↓set_5, ↓slot_5, ↓fz_5, ↓get_6, ↓set_6, ↓slot_6, ↓fz_6, ↓get_7, ↓set_7, ↓slot_7, ↓fz_7, ↓get_8, ↓set_8, ↓slot_8, ↓fz_8, ↓get_9, ↓set_9, ↓slot_9, ↓fz_9, ↓get_10, ↓set_10, ↓slot_10, ↓fz_10, ↓get_11, ↓set_11, ↓slot_11, ↓fz_11, ↓get_12, ↓set_12, ↓slot_12, ↓fz_12, ↓get_13, ↓set_13, ↓slot_13, ↓fz_13, ↓get_14, ↓set_14, ↓slot_14, ↓fz_14, ↓get_15, ↓set_15, ↓slot_15, ↓fz_15, ↓get_16, ↓set_16, ↓slot_16, ↓fz_16, ↓get_17, ↓set_17, ↓slot_17, ↓fz_17, ↓get_18, ↓set_18, ↓slot_18, ↓fz_18, ↓get_19, ↓set_19, ↓slot_19, ↓fz_19, ↓get_20, ↓set_20, ↓slot_20, ↓fz_20, ↓get_21, ↓set_21, ↓slot_21, ↓fz_21, ↓get_22, ↓set_22, ↓slot_22, ↓fz_22, ↓get_23, ↓set_23, ↓slot_23, ↓fz_23, ↓get_24, ↓set_24, ↓slot_24, ↓fz_24, ↓get_25, ↓set_25, ↓slot_25, ↓fz_25, ↓f_sub, ↓f_lt, ↓f_le, ↓f_gt, ↓f_ge, ↓f_add, ↓f_mod, ↓f_fdiv, ↓f_mulL, ↓f_mulR, ↓f_neg, ↓f_abs, ↓f_intI, ↓f_intB, ↓f_lenL, ↓f_lenT, ↓f_tupL, ↓f_tupT, ↓f_lisL, ↓f_lisT, ↓f_isB, ↓f_isNotB, ↓f_isN, ↓f_isNotN, ↓f_all, ↓f_any, ↓f_sum, ↓f_isi_int_int, ↓f_isi_int_bool, ↓f_isi_int_tuple, ↓f_isi_int_str, ↓f_isi_int_list, ↓f_isi_bool_int, ↓f_isi_bool_bool, ↓f_isi_bool_tuple, ↓f_isi_bool_str, ↓f_isi_bool_list, ↓f_isi_tuple_int, ↓f_isi_tuple_bool, ↓f_isi_tuple_tuple, ↓f_isi_tuple_str, ↓f_isi_tuple_list, ↓f_isi_str_int, ↓f_isi_str_bool, ↓f_isi_str_tuple, ↓f_isi_str_str, ↓f_isi_str_list, ↓f_isi_list_int, ↓f_isi_list_bool, ↓f_isi_list_tuple, ↓f_isi_list_str, ↓f_isi_list_list, ↓h_pop, ↓h_pop0, ↓f_rngI, ↓f_ixl0, ↓f_ixl1, ↓f_ixl2, ↓f_ixl3, ↓f_ixl4, ↓f_ixl5, ↓f_ixt0, ↓f_ixt1, ↓f_ixt2, ↓f_ixt3, ↓f_ixt4, ↓f_ixt5, ↓f_sd0, ↓f_sd1, ↓f_sd2, ↓f_sd3, ↓f_sd4, ↓f_sd5, nd_none, nd_bool, nd_int, nd_str, nd_list, nd_tuple, w_drawI, nd_ds]
          refine ⟨trivial, ps ++ [(k, ((dv s3 5 : Nat) : Int) - 2)], dn s3 5, _, ?_, ?_, rfl⟩
          · rw [List.map_append]
            rfl
          · rw [List.map_append, hps, List.range_succ]
            rfl
        · obtain ⟨ps, s3, x5, hz, hps, rfl⟩ := z
          rw [List.length_map, List.length_range] at hps
          rw [List.nil_append] at hz
          subst hz
          have hl : ps.length = n := by
            have := congrArg List.length hps
            rw [List.length_map, List.length_range] at this
            exact this
          obtain ⟨ts, hf, hts, hlt⟩ := form_ex hn (c := c) (ps := ps) (by omega) (fun t ht => by
            have : t.1 ∈ List.range n := by rw [← hps]; exact List.mem_map.mpr ⟨t, ht, rfl⟩
            exact List.mem_range.mp this) (by rw [hps]; exact List.nodup_range)
          obtain ⟨d1, rfl⟩ : ∃ d1, deep = d1 + 1 := ⟨deep - 1, by omega⟩
          have ed : ((d1 + 1 : Nat) : Int) - 1 = (d1 : Nat) := by omega
          obtain ⟨A, s4, hA, okA, dA⟩ := tree_ex hn m d1 s3 (by omega)
          obtain ⟨B, s5, hB, okB, dB⟩ := tree_ex hn m d1 s4 (by omega)
          simp only [eq_self, Int.reduceLT, Int.reduceLE, Nat.reduceLT, Nat.reduceLeDiff, Int.reduceToNat, Int.toNat_natCast, ↓ws_seq, ↓sq_nx, ↓sq_rt, ↓sq_rf, ↓sq_bk, ↓sq_ct, ↓lq_nx, ↓lq_ct, ↓lq_bk, ↓lq_rt, ↓lq_rf, ↓ou_nx, ↓ou_rt, ↓ou_rf, ↓ws_next, ↓ws_break, ↓ws_cont, ↓ws_retNone, ↓ws_drop, ↓ws_ret, ↓ws_retF, ↓ws_set, ↓ws_setF, ↓rn_st, ↓rn_ow, ↓ws_retN, ↓sn_st, ↓sn_ow, ↓ws_setN, ↓ite_t, ↓ite_f, ↓ws_if, ↓ws_asg, ↓ws_store, ↓ws_aug, ↓ws_for, ↓ws_while, ↓we_c, ↓we_n, ↓we_op, ↓we_int, ↓wv_nil, ↓wv_ex, ↓wv_nm, ↓re_nil, ↓re_ex, ↓re_nm, ↓st_st, ↓ow_ow, ↓lk_st, ↓lk_ow, ↓bo_bo, ↓in_in, ↓wt_test, ↓wt_tru, ↓tr_bo, ↓tr_in, ↓tr_li, ↓tr_tu, ↓tr_no, ↓wt_not, ↓wt_and, ↓wt_or, ↓we_and, ↓we_or, ↓we_not, ↓we_if, ↓di_nil, ↓di_1, ↓di_2, ↓di_3, ↓di_4, ↓di_5, ↓di_6, ↓di_7, ↓di_8, ↓di_9, ↓di_10, ↓di_11, ↓di_12, ↓we_tup, ↓we_lst, ↓wm_nil, ↓wm_cons, ↓wa_nil, ↓wa_ex, ↓wa_st, ↓wa_io, ↓fz_nil, ↓fz_ex, ↓fz_io, ↓fy_st, ↓fy_ow, ↓ar_nil, ↓ar_ex, ↓ar_st, ↓ar_io, ↓pu_nil, ↓pu_cons, ↓we_call, ij_nil, ij_ex, ij_st, ij_io, ↓wg_nm, ↓wg_tu, ↓wg_tl, ↓wgs_nil, ↓wgs_cons, ↓we_methS', ↓ls_li, ↓we_meth, ↓we_chain, ↓we_rg1, ↓we_dict0, ↓we_get, ↓isd_d, ↓we_get2, ↓ws_put, ↓we_val, ↓wi_seq, ↓wi_rng, ↓wi_enum, ↓fq_seqL, ↓fq_seqT, ↓wt_yes, ↓rs_nil, ↓rs_cons, ↓wp_nil, ↓wp_cons, ↓we_comp, ↓we_compD, ↓we_comp2, ↓we_sset, ↓we_lset, ↓we_rev, ↓rv_l, ↓rv_t, ↓f_zip, ↓iq_nil, ↓iq_cons, ↓get_0, ↓set_0, ↓slot_0, ↓fz_0, ↓get_1, ↓set_1, ↓slot_1, ↓fz_1, ↓get_2, ↓set_2, ↓slot_2, ↓fz_2, ↓get_3, ↓set_3, ↓slot_3, ↓fz_3, ↓get_4, ↓set_4, ↓slot_4, ↓fz_4, ↓get_5, ↓set_5, ↓slot_5, ↓fz_5, ↓get_6, ↓set_6, ↓slot_6, ↓fz_6, ↓get_7, ↓set_7, ↓slot_7, ↓fz_7, ↓get_8, ↓set_8, ↓slot_8, ↓fz_8, ↓get_9, ↓set_9, ↓slot_9, ↓fz_9, ↓get_10, ↓set_10, ↓slot_10, ↓fz_10, ↓get_11, ↓set_11, ↓slot_11, ↓fz_11, ↓get_12, ↓set_12, ↓slot_12, ↓fz_12, ↓get_13, ↓set_13, ↓slot_13, ↓fz_13, ↓get_14, ↓set_14, ↓slot_14, ↓fz_14, ↓get_15, ↓set_15, ↓slot_15, ↓fz_15, ↓get_16, ↓set_16, ↓slot_16, ↓fz_16, ↓get_17, ↓set_17, ↓slot_17, ↓fz_17, ↓get_18, ↓set_18, ↓slot_18, ↓fz_18, ↓get_19, ↓set_19, ↓slot_19, ↓fz_19, ↓get_20, ↓set_20, ↓slot_20, ↓fz_20, ↓get_21, ↓set_21, ↓slot_21, ↓fz_21, ↓get_22, ↓set_22, ↓slot_22, ↓fz_22, ↓get_23, ↓set_23, ↓slot_23, ↓fz_23, ↓get_24, ↓set_24, ↓slot_24, ↓fz_24, ↓get_25, ↓set_25, ↓slot_25, ↓fz_25, ↓f_sub, ↓f_lt, ↓f_le, ↓f_gt, ↓f_ge, ↓f_add, ↓f_mod, ↓f_fdiv, ↓f_mulL, ↓f_mulR, ↓f_neg, ↓f_abs, ↓f_intI, ↓f_intB, ↓f_lenL, ↓f_lenT, ↓f_tupL, ↓f_tupT, ↓f_lisL, ↓f_lisT, ↓f_isB, ↓f_isNotB, ↓f_isN, ↓f_isNotN, ↓f_all, ↓f_any, ↓f_sum, ↓f_isi_int_int, ↓f_isi_int_bool, ↓f_isi_int_tuple, ↓f_isi_int_str, ↓f_isi_int_list, ↓f_isi_bool_int, ↓f_isi_bool_bool, ↓f_isi_bool_tuple, ↓f_isi_bool_str, ↓f_isi_bool_list, ↓f_isi_tuple_int, ↓f_isi_tuple_bool, ↓f_isi_tuple_tuple, ↓f_isi_tuple_str, ↓f_isi_tuple_list, ↓f_isi_str_int, ↓f_isi_str_bool, ↓f_isi_str_tuple, ↓f_isi_str_str, ↓f_isi_str_list, ↓f_isi_list_int, ↓f_isi_list_bool, ↓f_isi_list_tuple, ↓f_isi_list_str, ↓f_isi_list_list, ↓h_pop, ↓h_pop0, ↓f_rngI, ↓f_ixl0, ↓f_ixl1, ↓f_ixl2, ↓f_ixl3, ↓f_ixl4, ↓f_ixl5, ↓f_ixt0, ↓f_ixt1, ↓f_ixt2, ↓f_ixt3, ↓f_ixt4, ↓f_ixt5, ↓f_sd0, ↓f_sd1, ↓f_sd2, ↓f_sd3, ↓f_sd4, ↓f_sd5, nd_none, nd_bool, nd_int, nd_str, nd_list, nd_tuple, ↓WF.of hf, ed, ↓WF.of hA, ↓WF.of hB, nd_ds, nd_f, nd_T]
          exact ⟨.test c ts A B, s5, rfl, rfl, ⟨⟨hts, hlt⟩, okA, okB⟩, Nat.succ_le_succ (Nat.max_le.mpr ⟨dA, dB⟩)⟩
theorem leaf_no {v : Nat → Int} {c : Int} {ts : List Tm} {a b : Tr} : ∀ T : Tr, T.leaf v ≠ .test c ts a b
  | .no => nofun
  | .kind _ => nofun
  | .test c' ts' a' b' => by
    unfold Tr.leaf
    split
    · exact leaf_no a'
    · exact leaf_no b'
def upd1 (v : Nat → Int) (k : Nat) (x : Int) : Nat → Int := fun j => if j = k then x else v j
theorem upd1_map {v : Nat → Int} {k : Nat} {x : Int} : (List.range k).map (fun j => PyData.int (v j)) ++ [.int x] = (List.range (k + 1)).map fun j => PyData.int (upd1 v k x j) := by
  rw [List.range_succ, List.map_append]
  congr 1
  · refine List.map_congr_left fun j hj => ?_
    have := List.mem_range.mp hj
    unfold upd1
    rw [if_neg (by omega)]
  · unfold upd1
    rw [List.map_singleton, if_pos rfl]
theorem upd1_small {v : Nat → Int} {k : Nat} {x : Int} (h : small v k) (hx : -9 ≤ x ∧ x ≤ 9) : small (upd1 v k x) (k + 1) := fun j hj => by
  unfold upd1
  by_cases c : j = k
  · rw [if_pos c]
    simp only [VS.small64, decide_eq_true_eq]
    omega
  · rw [if_neg c]
    exact h j (by omega)
theorem ex_use {α : Sort u} {p : α → Prop} {b : Prop} (h : ∃ x, p x) (k : ∀ x, p x → b) : b := let ⟨x, hx⟩ := h; k x hx
theorem law_true (ns : List Int) (h : ns.length ≤ 63) : F_law [.list (ns.map .int)] = some (.bool true, []) := wf_eq (by
  rw [run_law]
  unfold m_law
  simp only [eq_self, Int.reduceLT, Int.reduceLE, Nat.reduceLT, Nat.reduceLeDiff, Int.reduceToNat, Int.toNat_natCast, ↓ws_seq, ↓sq_nx, ↓sq_rt, ↓sq_rf, ↓sq_bk, ↓sq_ct, ↓lq_nx, ↓lq_ct, ↓lq_bk, ↓lq_rt, ↓lq_rf, ↓ou_nx, ↓ou_rt, ↓ou_rf, ↓ws_next, ↓ws_break, ↓ws_cont, ↓ws_retNone, ↓ws_drop, ↓ws_ret, ↓ws_retF, ↓ws_set, ↓ws_setF, ↓rn_st, ↓rn_ow, ↓ws_retN, ↓sn_st, ↓sn_ow, ↓ws_setN, ↓ite_t, ↓ite_f, ↓ws_if, ↓ws_asg, ↓ws_store, ↓ws_aug, ↓ws_for, ↓ws_while, ↓we_c, ↓we_n, ↓we_op, ↓we_int, ↓wv_nil, ↓wv_ex, ↓wv_nm, ↓re_nil, ↓re_ex, ↓re_nm, ↓st_st, ↓ow_ow, ↓lk_st, ↓lk_ow, ↓bo_bo, ↓in_in, ↓wt_test, ↓wt_tru, ↓tr_bo, ↓tr_in, ↓tr_li, ↓tr_tu, ↓tr_no, ↓wt_not, ↓wt_and, ↓wt_or, ↓we_and, ↓we_or, ↓we_not, ↓we_if, ↓di_nil, ↓di_1, ↓di_2, ↓di_3, ↓di_4, ↓di_5, ↓di_6, ↓di_7, ↓di_8, ↓di_9, ↓di_10, ↓di_11, ↓di_12, ↓we_tup, ↓we_lst, ↓wm_nil, ↓wm_cons, ↓wa_nil, ↓wa_ex, ↓wa_st, ↓wa_io, ↓fz_nil, ↓fz_ex, ↓fz_io, ↓fy_st, ↓fy_ow, ↓ar_nil, ↓ar_ex, ↓ar_st, ↓ar_io, ↓pu_nil, ↓pu_cons, ↓we_call, ij_nil, ij_ex, ij_st, ij_io, ↓wg_nm, ↓wg_tu, ↓wg_tl, ↓wgs_nil, ↓wgs_cons, ↓we_methS', ↓ls_li, ↓we_meth, ↓we_chain, ↓we_rg1, ↓we_dict0, ↓we_get, ↓isd_d, ↓we_get2, ↓ws_put, ↓we_val, ↓wi_seq, ↓wi_rng, ↓wi_enum, ↓fq_seqL, ↓fq_seqT, ↓wt_yes, ↓rs_nil, ↓rs_cons, ↓wp_nil, ↓wp_cons, ↓we_comp, ↓we_compD, ↓we_comp2, ↓we_sset, ↓we_lset, ↓we_rev, ↓rv_l, ↓rv_t, ↓f_zip, ↓iq_nil, ↓iq_cons, ↓get_0, ↓set_0, ↓slot_0, ↓fz_0, ↓get_1, ↓set_1, ↓slot_1, ↓fz_1, ↓get_2, ↓set_2, ↓slot_2, ↓fz_2, ↓get_3, ↓set_3, ↓slot_3, ↓fz_3, ↓get_4, ↓set_4, ↓slot_4, ↓fz_4, ↓get_5, ↓set_5, ↓slot_5, ↓fz_5, ↓get_6, ↓set_6, ↓slot_6, ↓fz_6, ↓get_7, ↓set_7, ↓slot_7, ↓fz_7, ↓get_8, ↓set_8, ↓slot_8, ↓fz_8, ↓get_9, ↓set_9, ↓slot_9, ↓fz_9, ↓get_10, ↓set_10, ↓slot_10, ↓fz_10, ↓get_11, ↓set_11, ↓slot_11, ↓fz_11, ↓get_12, ↓set_12, ↓slot_12, ↓fz_12, ↓get_13, ↓set_13, ↓slot_13, ↓fz_13, ↓get_14, ↓set_14, ↓slot_14, ↓fz_14, ↓get_15, ↓set_15, ↓slot_15, ↓fz_15, ↓get_16, ↓set_16, ↓slot_16, ↓fz_16, ↓get_17, ↓set_17, ↓slot_17, ↓fz_17, ↓get_18, ↓set_18, ↓slot_18, ↓fz_18, ↓get_19, ↓set_19, ↓slot_19, ↓fz_19, ↓get_20, ↓set_20, ↓slot_20, ↓fz_20, ↓get_21, ↓set_21, ↓slot_21, ↓fz_21, ↓get_22, ↓set_22, ↓slot_22, ↓fz_22, ↓get_23, ↓set_23, ↓slot_23, ↓fz_23, ↓get_24, ↓set_24, ↓slot_24, ↓fz_24, ↓get_25, ↓set_25, ↓slot_25, ↓fz_25, ↓f_sub, ↓f_lt, ↓f_le, ↓f_gt, ↓f_ge, ↓f_add, ↓f_mod, ↓f_fdiv, ↓f_mulL, ↓f_mulR, ↓f_neg, ↓f_abs, ↓f_intI, ↓f_intB, ↓f_lenL, ↓f_lenT, ↓f_tupL, ↓f_tupT, ↓f_lisL, ↓f_lisT, ↓f_isB, ↓f_isNotB, ↓f_isN, ↓f_isNotN, ↓f_all, ↓f_any, ↓f_sum, ↓f_isi_int_int, ↓f_isi_int_bool, ↓f_isi_int_tuple, ↓f_isi_int_str, ↓f_isi_int_list, ↓f_isi_bool_int, ↓f_isi_bool_bool, ↓f_isi_bool_tuple, ↓f_isi_bool_str, ↓f_isi_bool_list, ↓f_isi_tuple_int, ↓f_isi_tuple_bool, ↓f_isi_tuple_tuple, ↓f_isi_tuple_str, ↓f_isi_tuple_list, ↓f_isi_str_int, ↓f_isi_str_bool, ↓f_isi_str_tuple, ↓f_isi_str_str, ↓f_isi_str_list, ↓f_isi_list_int, ↓f_isi_list_bool, ↓f_isi_list_tuple, ↓f_isi_list_str, ↓f_isi_list_list, ↓h_pop, ↓h_pop0, ↓f_rngI, ↓f_ixl0, ↓f_ixl1, ↓f_ixl2, ↓f_ixl3, ↓f_ixl4, ↓f_ixl5, ↓f_ixt0, ↓f_ixt1, ↓f_ixt2, ↓f_ixt3, ↓f_ixt4, ↓f_ixt5, ↓f_sd0, ↓f_sd1, ↓f_sd2, ↓f_sd3, ↓f_sd4, ↓f_sd5, nd_none, nd_bool, nd_int, nd_str, nd_list, nd_tuple, w_start]
  refine wl_rng (fun k ρ => ∃ (s : DS) (x2 x3 x4 x5 x6 x7 x8 x9 x10 x11 : Option SV), (x9 = none ∨ ∃ d, x9 = some (.st d)) ∧ ρ = [some (.st (.list (ns.map .int))), some (.ow (dsD s)), x2, x3, x4, x5, x6, x7, x8, x9, x10, x11, none]) ⟨_, _, _, _, _, _, _, _, _, _, _, .inl rfl, rfl⟩ (fun k ρ hk z => ?_) fun ρ z => ?_
  · obtain ⟨s, x2, x3, x4, x5, x6, x7, x8, x9, x10, x11, hx9, rfl⟩ := z
    unfold b3_law
    have hn := dv_lt (s := s) (n := 4) (by decide) (by decide)
    simp only [eq_self, Int.reduceLT, Int.reduceLE, Nat.reduceLT, Nat.reduceLeDiff, Int.reduceToNat, Int.toNat_natCast, ↓ws_seq, ↓sq_nx, ↓sq_rt, ↓sq_rf, ↓sq_bk, ↓sq_ct, ↓lq_nx, ↓lq_ct, ↓lq_bk, ↓lq_rt, ↓lq_rf, ↓ou_nx, ↓ou_rt, ↓ou_rf, ↓ws_next, ↓ws_break, ↓ws_cont, ↓ws_retNone, ↓ws_drop, ↓ws_ret, ↓ws_retF, ↓ws_set, ↓ws_setF, ↓rn_st, ↓rn_ow, ↓ws_retN, ↓sn_st, ↓sn_ow, ↓ws_setN, ↓ite_t, ↓ite_f, ↓ws_if, ↓ws_asg, ↓ws_store, ↓ws_aug, ↓ws_for, ↓ws_while, ↓we_c, ↓we_n, ↓we_op, ↓we_int, ↓wv_nil, ↓wv_ex, ↓wv_nm, ↓re_nil, ↓re_ex, ↓re_nm, ↓st_st, ↓ow_ow, ↓lk_st, ↓lk_ow, ↓bo_bo, ↓in_in, ↓wt_test, ↓wt_tru, ↓tr_bo, ↓tr_in, ↓tr_li, ↓tr_tu, ↓tr_no, ↓wt_not, ↓wt_and, ↓wt_or, ↓we_and, ↓we_or, ↓we_not, ↓we_if, ↓di_nil, ↓di_1, ↓di_2, ↓di_3, ↓di_4, ↓di_5, ↓di_6, ↓di_7, ↓di_8, ↓di_9, ↓di_10, ↓di_11, ↓di_12, ↓we_tup, ↓we_lst, ↓wm_nil, ↓wm_cons, ↓wa_nil, ↓wa_ex, ↓wa_st, ↓wa_io, ↓fz_nil, ↓fz_ex, ↓fz_io, ↓fy_st, ↓fy_ow, ↓ar_nil, ↓ar_ex, ↓ar_st, ↓ar_io, ↓pu_nil, ↓pu_cons, ↓we_call, ij_nil, ij_ex, ij_st, ij_io, ↓wg_nm, ↓wg_tu, ↓wg_tl, ↓wgs_nil, ↓wgs_cons, ↓we_methS', ↓ls_li, ↓we_meth, ↓we_chain, ↓we_rg1, ↓we_dict0, ↓we_get, ↓isd_d, ↓we_get2, ↓ws_put, ↓we_val, ↓wi_seq, ↓wi_rng, ↓wi_enum, ↓fq_seqL, ↓fq_seqT, ↓wt_yes, ↓rs_nil, ↓rs_cons, ↓wp_nil, ↓wp_cons, ↓we_comp, ↓we_compD, ↓we_comp2, ↓we_sset, ↓we_lset, ↓we_rev, ↓rv_l, ↓rv_t, ↓f_zip, ↓iq_nil, ↓iq_cons, ↓get_0, ↓set_0, ↓slot_0, ↓fz_0, ↓get_1, ↓set_1, ↓slot_1, ↓fz_1, ↓get_2, ↓set_2, ↓slot_2, ↓fz_2, ↓get_3, ↓set_3, ↓slot_3, ↓fz_3, ↓get_4, ↓set_4, ↓slot_4, ↓fz_4, ↓get_5, ↓set_5, ↓slot_5, ↓fz_5, ↓get_6, ↓set_6, ↓slot_6, ↓fz_6, ↓get_7, ↓set_7, ↓slot_7, ↓fz_7, ↓get_8, ↓set_8, ↓slot_8, ↓fz_8, ↓get_9, ↓set_9, ↓slot_9, ↓fz_9, ↓get_10, ↓set_10, ↓slot_10, ↓fz_10, ↓get_11, ↓set_11, ↓slot_11, ↓fz_11, ↓get_12, ↓set_12, ↓slot_12, ↓fz_12, ↓get_13, ↓set_13, ↓slot_13, ↓fz_13, ↓get_14, ↓set_14, ↓slot_14, ↓fz_14, ↓get_15, ↓set_15, ↓slot_15, ↓fz_15, ↓get_16, ↓set_16, ↓slot_16, ↓fz_16, ↓get_17, ↓set_17, ↓slot_17, ↓fz_17, ↓get_18, ↓set_18, ↓slot_18, ↓fz_18, ↓get_19, ↓set_19, ↓slot_19, ↓fz_19, ↓get_20, ↓set_20, ↓slot_20, ↓fz_20, ↓get_21, ↓set_21, ↓slot_21, ↓fz_21, ↓get_22, ↓set_22, ↓slot_22, ↓fz_22, ↓get_23, ↓set_23, ↓slot_23, ↓fz_23, ↓get_24, ↓set_24, ↓slot_24, ↓fz_24, ↓get_25, ↓set_25, ↓slot_25, ↓fz_25, ↓f_sub, ↓f_lt, ↓f_le, ↓f_gt, ↓f_ge, ↓f_add, ↓f_mod, ↓f_fdiv, ↓f_mulL, ↓f_mulR, ↓f_neg, ↓f_abs, ↓f_intI, ↓f_intB, ↓f_lenL, ↓f_lenT, ↓f_tupL, ↓f_tupT, ↓f_lisL, ↓f_lisT, ↓f_isB, ↓f_isNotB, ↓f_isN, ↓f_isNotN, ↓f_all, ↓f_any, ↓f_sum, ↓f_isi_int_int, ↓f_isi_int_bool, ↓f_isi_int_tuple, ↓f_isi_int_str, ↓f_isi_int_list, ↓f_isi_bool_int, ↓f_isi_bool_bool, ↓f_isi_bool_tuple, ↓f_isi_bool_str, ↓f_isi_bool_list, ↓f_isi_tuple_int, ↓f_isi_tuple_bool, ↓f_isi_tuple_tuple, ↓f_isi_tuple_str, ↓f_isi_tuple_list, ↓f_isi_str_int, ↓f_isi_str_bool, ↓f_isi_str_tuple, ↓f_isi_str_str, ↓f_isi_str_list, ↓f_isi_list_int, ↓f_isi_list_bool, ↓f_isi_list_tuple, ↓f_isi_list_str, ↓f_isi_list_list, ↓h_pop, ↓h_pop0, ↓f_rngI, ↓f_ixl0, ↓f_ixl1, ↓f_ixl2, ↓f_ixl3, ↓f_ixl4, ↓f_ixl5, ↓f_ixt0, ↓f_ixt1, ↓f_ixt2, ↓f_ixt3, ↓f_ixt4, ↓f_ixt5, ↓f_sd0, ↓f_sd1, ↓f_sd2, ↓f_sd3, ↓f_sd4, ↓f_sd5, nd_none, nd_bool, nd_int, nd_str, nd_list, nd_tuple, w_drawI, nd_ds]
    generalize dn s 4 = s1
    generalize dv s 4 = n at hn ⊢
    have h1 : n < 2 ^ 62 := by omega
    simp only [eq_self, Int.reduceLT, Int.reduceLE, Nat.reduceLT, Nat.reduceLeDiff, Int.reduceToNat, Int.toNat_natCast, ↓ws_seq, ↓sq_nx, ↓sq_rt, ↓sq_rf, ↓sq_bk, ↓sq_ct, ↓lq_nx, ↓lq_ct, ↓lq_bk, ↓lq_rt, ↓lq_rf, ↓ou_nx, ↓ou_rt, ↓ou_rf, ↓ws_next, ↓ws_break, ↓ws_cont, ↓ws_retNone, ↓ws_drop, ↓ws_ret, ↓ws_retF, ↓ws_set, ↓ws_setF, ↓rn_st, ↓rn_ow, ↓ws_retN, ↓sn_st, ↓sn_ow, ↓ws_setN, ↓ite_t, ↓ite_f, ↓ws_if, ↓ws_asg, ↓ws_store, ↓ws_aug, ↓ws_for, ↓ws_while, ↓we_c, ↓we_n, ↓we_op, ↓we_int, ↓wv_nil, ↓wv_ex, ↓wv_nm, ↓re_nil, ↓re_ex, ↓re_nm, ↓st_st, ↓ow_ow, ↓lk_st, ↓lk_ow, ↓bo_bo, ↓in_in, ↓wt_test, ↓wt_tru, ↓tr_bo, ↓tr_in, ↓tr_li, ↓tr_tu, ↓tr_no, ↓wt_not, ↓wt_and, ↓wt_or, ↓we_and, ↓we_or, ↓we_not, ↓we_if, ↓di_nil, ↓di_1, ↓di_2, ↓di_3, ↓di_4, ↓di_5, ↓di_6, ↓di_7, ↓di_8, ↓di_9, ↓di_10, ↓di_11, ↓di_12, ↓we_tup, ↓we_lst, ↓wm_nil, ↓wm_cons, ↓wa_nil, ↓wa_ex, ↓wa_st, ↓wa_io, ↓fz_nil, ↓fz_ex, ↓fz_io, ↓fy_st, ↓fy_ow, ↓ar_nil, ↓ar_ex, ↓ar_st, ↓ar_io, ↓pu_nil, ↓pu_cons, ↓we_call, ij_nil, ij_ex, ij_st, ij_io, ↓wg_nm, ↓wg_tu, ↓wg_tl, ↓wgs_nil, ↓wgs_cons, ↓we_methS', ↓ls_li, ↓we_meth, ↓we_chain, ↓we_rg1, ↓we_dict0, ↓we_get, ↓isd_d, ↓we_get2, ↓ws_put, ↓we_val, ↓wi_seq, ↓wi_rng, ↓wi_enum, ↓fq_seqL, ↓fq_seqT, ↓wt_yes, ↓rs_nil, ↓rs_cons, ↓wp_nil, ↓wp_cons, ↓we_comp, ↓we_compD, ↓we_comp2, ↓we_sset, ↓we_lset, ↓we_rev, ↓rv_l, ↓rv_t, ↓f_zip, ↓iq_nil, ↓iq_cons, ↓get_0, ↓set_0, ↓slot_0, ↓fz_0, ↓get_1, ↓set_1, ↓slot_1, ↓fz_1, ↓get_2, ↓set_2, ↓slot_2, ↓fz_2, ↓get_3, ↓set_3, ↓slot_3, ↓fz_3, ↓get_4, ↓set_4, ↓slot_4, ↓fz_4, ↓get_5, ↓set_5, ↓slot_5, ↓fz_5, ↓get_6, ↓set_6, ↓slot_6, ↓fz_6, ↓get_7, ↓set_7, ↓slot_7, ↓fz_7, ↓get_8, ↓set_8, ↓slot_8, ↓fz_8, ↓get_9, ↓set_9, ↓slot_9, ↓fz_9, ↓get_10, ↓set_10, ↓slot_10, ↓fz_10, ↓get_11, ↓set_11, ↓slot_11, ↓fz_11, ↓get_12, ↓set_12, ↓slot_12, ↓fz_12, ↓get_13, ↓set_13, ↓slot_13, ↓fz_13, ↓get_14, ↓set_14, ↓slot_14, ↓fz_14, ↓get_15, ↓set_15, ↓slot_15, ↓fz_15, ↓get_16, ↓set_16, ↓slot_16, ↓fz_16, ↓get_17, ↓set_17, ↓slot_17, ↓fz_17, ↓get_18, ↓set_18, ↓slot_18, ↓fz_18, ↓get_19, ↓set_19, ↓slot_19, ↓fz_19, ↓get_20, ↓set_20, ↓slot_20, ↓fz_20, ↓get_21, ↓set_21, ↓slot_21, ↓fz_21, ↓get_22, ↓set_22, ↓slot_22, ↓fz_22, ↓get_23, ↓set_23, ↓slot_23, ↓fz_23, ↓get_24, ↓set_24, ↓slot_24, ↓fz_24, ↓get_25, ↓set_25, ↓slot_25, ↓fz_25, ↓f_sub, ↓f_lt, ↓f_le, ↓f_gt, ↓f_ge, ↓f_add, ↓f_mod, ↓f_fdiv, ↓f_mulL, ↓f_mulR, ↓f_neg, ↓f_abs, ↓f_intI, ↓f_intB, ↓f_lenL, ↓f_lenT, ↓f_tupL, ↓f_tupT, ↓f_lisL, ↓f_lisT, ↓f_isB, ↓f_isNotB, ↓f_isN, ↓f_isNotN, ↓f_all, ↓f_any, ↓f_sum, ↓f_isi_int_int, ↓f_isi_int_bool, ↓f_isi_int_tuple, ↓f_isi_int_str, ↓f_isi_int_list, ↓f_isi_bool_int, ↓f_isi_bool_bool, ↓f_isi_bool_tuple, ↓f_isi_bool_str, ↓f_isi_bool_list, ↓f_isi_tuple_int, ↓f_isi_tuple_bool, ↓f_isi_tuple_tuple, ↓f_isi_tuple_str, ↓f_isi_tuple_list, ↓f_isi_str_int, ↓f_isi_str_bool, ↓f_isi_str_tuple, ↓f_isi_str_str, ↓f_isi_str_list, ↓f_isi_list_int, ↓f_isi_list_bool, ↓f_isi_list_tuple, ↓f_isi_list_str, ↓f_isi_list_list, ↓h_pop, ↓h_pop0, ↓f_rngI, ↓f_ixl0, ↓f_ixl1, ↓f_ixl2, ↓f_ixl3, ↓f_ixl4, ↓f_ixl5, ↓f_ixt0, ↓f_ixt1, ↓f_ixt2, ↓f_ixt3, ↓f_ixt4, ↓f_ixt5, ↓f_sd0, ↓f_sd1, ↓f_sd2, ↓f_sd3, ↓f_sd4, ↓f_sd5, nd_none, nd_bool, nd_int, nd_str, nd_list, nd_tuple, ↓f_rng1 h1]
    refine ⟨⟨by rcases hx9 with rfl | ⟨d, rfl⟩ <;> rfl, by rw [rngD_len]; exact Nat.le_trans (Nat.le_of_lt hn) (by decide)⟩, ?_⟩
    refine wc_pure (fun k => nD k) (fun _ _ => trivial) (fun ρ => ∃ y, ρ = [some (.st (.list (ns.map .int))), some (.ow (dsD s1)), some (.st (.int (k : Int))), some (.st (.int (n : Int))), x4, x5, x6, x7, x8, y, x10, x11, none]) ⟨_, rfl⟩ (fun j d ρ ge z => ?_) fun ρ z => ?_
    · obtain ⟨y, rfl⟩ := z
      obtain ⟨hj, rfl⟩ := rngD_get ge
      rw [Int.zero_add]
      have hj3 : j < 3 := by omega
      simp only [eq_self, Int.reduceLT, Int.reduceLE, Nat.reduceLT, Nat.reduceLeDiff, Int.reduceToNat, Int.toNat_natCast, ↓ws_seq, ↓sq_nx, ↓sq_rt, ↓sq_rf, ↓sq_bk, ↓sq_ct, ↓lq_nx, ↓lq_ct, ↓lq_bk, ↓lq_rt, ↓lq_rf, ↓ou_nx, ↓ou_rt, ↓ou_rf, ↓ws_next, ↓ws_break, ↓ws_cont, ↓ws_retNone, ↓ws_drop, ↓ws_ret, ↓ws_retF, ↓ws_set, ↓ws_setF, ↓rn_st, ↓rn_ow, ↓ws_retN, ↓sn_st, ↓sn_ow, ↓ws_setN, ↓ite_t, ↓ite_f, ↓ws_if, ↓ws_asg, ↓ws_store, ↓ws_aug, ↓ws_for, ↓ws_while, ↓we_c, ↓we_n, ↓we_op, ↓we_int, ↓wv_nil, ↓wv_ex, ↓wv_nm, ↓re_nil, ↓re_ex, ↓re_nm, ↓st_st, ↓ow_ow, ↓lk_st, ↓lk_ow, ↓bo_bo, ↓in_in, ↓wt_test, ↓wt_tru, ↓tr_bo, ↓tr_in, ↓tr_li, ↓tr_tu, ↓tr_no, ↓wt_not, ↓wt_and, ↓wt_or, ↓we_and, ↓we_or, ↓we_not, ↓we_if, ↓di_nil, ↓di_1, ↓di_2, ↓di_3, ↓di_4, ↓di_5, ↓di_6, ↓di_7, ↓di_8, ↓di_9, ↓di_10, ↓di_11, ↓di_12, ↓we_tup, ↓we_lst, ↓wm_nil, ↓wm_cons, ↓wa_nil, ↓wa_ex, ↓wa_st, ↓wa_io, ↓fz_nil, ↓fz_ex, ↓fz_io, ↓fy_st, ↓fy_ow, ↓ar_nil, ↓ar_ex, ↓ar_st, ↓ar_io, ↓pu_nil, ↓pu_cons, ↓we_call, ij_nil, ij_ex, ij_st, ij_io, ↓wg_nm, ↓wg_tu, ↓wg_tl, ↓wgs_nil, ↓wgs_cons, ↓we_methS', ↓ls_li, ↓we_meth, ↓we_chain, ↓we_rg1, ↓we_dict0, ↓we_get, ↓isd_d, ↓we_get2, ↓ws_put, ↓we_val, ↓wi_seq, ↓wi_rng, ↓wi_enum, ↓fq_seqL, ↓fq_seqT, ↓wt_yes, ↓rs_nil, ↓rs_cons, ↓wp_nil, ↓wp_cons, ↓we_comp, ↓we_compD, ↓we_comp2, ↓we_sset, ↓we_lset, ↓we_rev, ↓rv_l, ↓rv_t, ↓f_zip, ↓iq_nil, ↓iq_cons, ↓get_0, ↓set_0, ↓slot_0, ↓fz_0, ↓get_1, ↓set_1, ↓slot_1, ↓fz_1, ↓get_2, ↓set_2, ↓slot_2, ↓fz_2, ↓get_3, ↓set_3, ↓slot_3, ↓fz_3, ↓get_4, ↓set_4, ↓slot_4, ↓fz_4, ↓get_5, ↓set_5, ↓slot_5, ↓fz_5, ↓get_6, ↓set_6, ↓slot_6, ↓fz_6, ↓get_7, ↓set_7, ↓slot_7, ↓fz_7, ↓get_8, ↓set_8, ↓slot_8, ↓fz_8, ↓get_9, ↓set_9, ↓slot_9, ↓fz_9, ↓get_10, ↓set_10, ↓slot_10, ↓fz_10, ↓get_11, ↓set_11, ↓slot_11, ↓fz_11, ↓get_12, ↓set_12, ↓slot_12, ↓fz_12, ↓get_13, ↓set_13, ↓slot_13, ↓fz_13, ↓get_14, ↓set_14, ↓slot_14, ↓fz_14, ↓get_15, ↓set_15, ↓slot_15, ↓fz_15, ↓get_16, ↓set_16, ↓slot_16, ↓fz_16, ↓get_17, ↓set_17, ↓slot_17, ↓fz_17, ↓get_18, ↓set_18, ↓slot_18, ↓fz_18, ↓get_19, ↓set_19, ↓slot_19, ↓fz_19, ↓get_20, ↓set_20, ↓slot_20, ↓fz_20, ↓get_21, ↓set_21, ↓slot_21, ↓fz_21, ↓get_22, ↓set_22, ↓slot_22, ↓fz_22, ↓get_23, ↓set_23, ↓slot_23, ↓fz_23, ↓get_24, ↓set_24, ↓slot_24, ↓fz_24, ↓get_25, ↓set_25, ↓slot_25, ↓fz_25, ↓f_sub, ↓f_lt, ↓f_le, ↓f_gt, ↓f_ge, ↓f_add, ↓f_mod, ↓f_fdiv, ↓f_mulL, ↓f_mulR, ↓f_neg, ↓f_abs, ↓f_intI, ↓f_intB, ↓f_lenL, ↓f_lenT, ↓f_tupL, ↓f_tupT, ↓f_lisL, ↓f_lisT, ↓f_isB, ↓f_isNotB, ↓f_isN, ↓f_isNotN, ↓f_all, ↓f_any, ↓f_sum, ↓f_isi_int_int, ↓f_isi_int_bool, ↓f_isi_int_tuple, ↓f_isi_int_str, ↓f_isi_int_list, ↓f_isi_bool_int, ↓f_isi_bool_bool, ↓f_isi_bool_tuple, ↓f_isi_bool_str, ↓f_isi_bool_list, ↓f_isi_tuple_int, ↓f_isi_tuple_bool, ↓f_isi_tuple_tuple, ↓f_isi_tuple_str, ↓f_isi_tuple_list, ↓f_isi_str_int, ↓f_isi_str_bool, ↓f_isi_str_tuple, ↓f_isi_str_str, ↓f_isi_str_list, ↓f_isi_list_int, ↓f_isi_list_bool, ↓f_isi_list_tuple, ↓f_isi_list_str, ↓f_isi_list_list, ↓h_pop, ↓h_pop0, ↓f_rngI, ↓f_ixl0, ↓f_ixl1, ↓f_ixl2, ↓f_ixl3, ↓f_ixl4, ↓f_ixl5, ↓f_ixt0, ↓f_ixt1, ↓f_ixt2, ↓f_ixt3, ↓f_ixt4, ↓f_ixt5, ↓f_sd0, ↓f_sd1, ↓f_sd2, ↓f_sd3, ↓f_sd4, ↓f_sd5, nd_none, nd_bool, nd_int, nd_str, nd_list, nd_tuple, ↓f_strI (log_nm hj3), ↓add_nm hj3]
      exact ⟨trivial, trivial, trivial, _, rfl⟩
    obtain ⟨y, rfl⟩ := z
    rw [rngD_len]
    obtain ⟨T, s2, hT, okT, dT⟩ := tree_ex hn 10 4 s1 (by omega)
    have hT : F_law_tree 10 [dsD s1, nmsD n, .int 4] = some (T.d, [dsD s2]) := hT
    simp only [eq_self, Int.reduceLT, Int.reduceLE, Nat.reduceLT, Nat.reduceLeDiff, Int.reduceToNat, Int.toNat_natCast, ↓ws_seq, ↓sq_nx, ↓sq_rt, ↓sq_rf, ↓sq_bk, ↓sq_ct, ↓lq_nx, ↓lq_ct, ↓lq_bk, ↓lq_rt, ↓lq_rf, ↓ou_nx, ↓ou_rt, ↓ou_rf, ↓ws_next, ↓ws_break, ↓ws_cont, ↓ws_retNone, ↓ws_drop, ↓ws_ret, ↓ws_retF, ↓ws_set, ↓ws_setF, ↓rn_st, ↓rn_ow, ↓ws_retN, ↓sn_st, ↓sn_ow, ↓ws_setN, ↓ite_t, ↓ite_f, ↓ws_if, ↓ws_asg, ↓ws_store, ↓ws_aug, ↓ws_for, ↓ws_while, ↓we_c, ↓we_n, ↓we_op, ↓we_int, ↓wv_nil, ↓wv_ex, ↓wv_nm, ↓re_nil, ↓re_ex, ↓re_nm, ↓st_st, ↓ow_ow, ↓lk_st, ↓lk_ow, ↓bo_bo, ↓in_in, ↓wt_test, ↓wt_tru, ↓tr_bo, ↓tr_in, ↓tr_li, ↓tr_tu, ↓tr_no, ↓wt_not, ↓wt_and, ↓wt_or, ↓we_and, ↓we_or, ↓we_not, ↓we_if, ↓di_nil, ↓di_1, ↓di_2, ↓di_3, ↓di_4, ↓di_5, ↓di_6, ↓di_7, ↓di_8, ↓di_9, ↓di_10, ↓di_11, ↓di_12, ↓we_tup, ↓we_lst, ↓wm_nil, ↓wm_cons, ↓wa_nil, ↓wa_ex, ↓wa_st, ↓wa_io, ↓fz_nil, ↓fz_ex, ↓fz_io, ↓fy_st, ↓fy_ow, ↓ar_nil, ↓ar_ex, ↓ar_st, ↓ar_io, ↓pu_nil, ↓pu_cons, ↓we_call, ij_nil, ij_ex, ij_st, ij_io, ↓wg_nm, ↓wg_tu, ↓wg_tl, ↓wgs_nil, ↓wgs_cons, ↓we_methS', ↓ls_li, ↓we_meth, ↓we_chain, ↓we_rg1, ↓we_dict0, ↓we_get, ↓isd_d, ↓we_get2, ↓ws_put, ↓we_val, ↓wi_seq, ↓wi_rng, ↓wi_enum, ↓fq_seqL, ↓fq_seqT, ↓wt_yes, ↓rs_nil, ↓rs_cons, ↓wp_nil, ↓wp_cons, ↓we_comp, ↓we_compD, ↓we_comp2, ↓we_sset, ↓we_lset, ↓we_rev, ↓rv_l, ↓rv_t, ↓f_zip, ↓iq_nil, ↓iq_cons, ↓get_0, ↓set_0, ↓slot_0, ↓fz_0, ↓get_1, ↓set_1, ↓slot_1, ↓fz_1, ↓get_2, ↓set_2, ↓slot_2, ↓fz_2, ↓get_3, ↓set_3, ↓slot_3, ↓fz_3, ↓get_4, ↓set_4, ↓slot_4, ↓fz_4, ↓get_5, ↓set_5, ↓slot_5, ↓fz_5, ↓get_6, ↓set_6, ↓slot_6, ↓fz_6, ↓get_7, ↓set_7, ↓slot_7, ↓fz_7, ↓get_8, ↓set_8, ↓slot_8, ↓fz_8, ↓get_9, ↓set_9, ↓slot_9, ↓fz_9, ↓get_10, ↓set_10, ↓slot_10, ↓fz_10, ↓get_11, ↓set_11, ↓slot_11, ↓fz_11, ↓get_12, ↓set_12, ↓slot_12, ↓fz_12, ↓get_13, ↓set_13, ↓slot_13, ↓fz_13, ↓get_14, ↓set_14, ↓slot_14, ↓fz_14, ↓get_15, ↓set_15, ↓slot_15, ↓fz_15, ↓get_16, ↓set_16, ↓slot_16, ↓fz_16, ↓get_17, ↓set_17, ↓slot_17, ↓fz_17, ↓get_18, ↓set_18, ↓slot_18, ↓fz_18, ↓get_19, ↓set_19, ↓slot_19, ↓fz_19, ↓get_20, ↓set_20, ↓slot_20, ↓fz_20, ↓get_21, ↓set_21, ↓slot_21, ↓fz_21, ↓get_22, ↓set_22, ↓slot_22, ↓fz_22, ↓get_23, ↓set_23, ↓slot_23, ↓fz_23, ↓get_24, ↓set_24, ↓slot_24, ↓fz_24, ↓get_25, ↓set_25, ↓slot_25, ↓fz_25, ↓f_sub, ↓f_lt, ↓f_le, ↓f_gt, ↓f_ge, ↓f_add, ↓f_mod, ↓f_fdiv, ↓f_mulL, ↓f_mulR, ↓f_neg, ↓f_abs, ↓f_intI, ↓f_intB, ↓f_lenL, ↓f_lenT, ↓f_tupL, ↓f_tupT, ↓f_lisL, ↓f_lisT, ↓f_isB, ↓f_isNotB, ↓f_isN, ↓f_isNotN, ↓f_all, ↓f_any, ↓f_sum, ↓f_isi_int_int, ↓f_isi_int_bool, ↓f_isi_int_tuple, ↓f_isi_int_str, ↓f_isi_int_list, ↓f_isi_bool_int, ↓f_isi_bool_bool, ↓f_isi_bool_tuple, ↓f_isi_bool_str, ↓f_isi_bool_list, ↓f_isi_tuple_int, ↓f_isi_tuple_bool, ↓f_isi_tuple_tuple, ↓f_isi_tuple_str, ↓f_isi_tuple_list, ↓f_isi_str_int, ↓f_isi_str_bool, ↓f_isi_str_tuple, ↓f_isi_str_str, ↓f_isi_str_list, ↓f_isi_list_int, ↓f_isi_list_bool, ↓f_isi_list_tuple, ↓f_isi_list_str, ↓f_isi_list_list, ↓h_pop, ↓h_pop0, ↓f_rngI, ↓f_ixl0, ↓f_ixl1, ↓f_ixl2, ↓f_ixl3, ↓f_ixl4, ↓f_ixl5, ↓f_ixt0, ↓f_ixt1, ↓f_ixt2, ↓f_ixt3, ↓f_ixt4, ↓f_ixt5, ↓f_sd0, ↓f_sd1, ↓f_sd2, ↓f_sd3, ↓f_sd4, ↓f_sd5, nd_none, nd_bool, nd_int, nd_str, nd_list, nd_tuple, ↓WF.of hT]
    refine wl_rng (fun i ρ => ∃ (s : DS) (x6 x7 x8 x9 x10 x11 : Option SV), (x9 = none ∨ ∃ d, x9 = some (.st d)) ∧ ρ = [some (.st (.list (ns.map .int))), some (.ow (dsD s)), some (.st (.int (k : Int))), some (.st (.int (n : Int))), some (.st (nmsD n)), some (.st T.d), x6, x7, x8, x9, x10, x11, none]) ⟨_, _, _, _, _, _, _, hx9, rfl⟩ (fun i ρ hi z => ?_) fun ρ z => ?_
    · obtain ⟨s, x6, x7, x8, x9, x10, x11, hx9, rfl⟩ := z
      unfold b2_law
      simp only [eq_self, Int.reduceLT, Int.reduceLE, Nat.reduceLT, Nat.reduceLeDiff, Int.reduceToNat, Int.toNat_natCast, ↓ws_seq, ↓sq_nx, ↓sq_rt, ↓sq_rf, ↓sq_bk, ↓sq_ct, ↓lq_nx, ↓lq_ct, ↓lq_bk, ↓lq_rt, ↓lq_rf, ↓ou_nx, ↓ou_rt, ↓ou_rf, ↓ws_next, ↓ws_break, ↓ws_cont, ↓ws_retNone, ↓ws_drop, ↓ws_ret, ↓ws_retF, ↓ws_set, ↓ws_setF, ↓rn_st, ↓rn_ow, ↓ws_retN, ↓sn_st, ↓sn_ow, ↓ws_setN, ↓ite_t, ↓ite_f, ↓ws_if, ↓ws_asg, ↓ws_store, ↓ws_aug, ↓ws_for, ↓ws_while, ↓we_c, ↓we_n, ↓we_op, ↓we_int, ↓wv_nil, ↓wv_ex, ↓wv_nm, ↓re_nil, ↓re_ex, ↓re_nm, ↓st_st, ↓ow_ow, ↓lk_st, ↓lk_ow, ↓bo_bo, ↓in_in, ↓wt_test, ↓wt_tru, ↓tr_bo, ↓tr_in, ↓tr_li, ↓tr_tu, ↓tr_no, ↓wt_not, ↓wt_and, ↓wt_or, ↓we_and, ↓we_or, ↓we_not, ↓we_if, ↓di_nil, ↓di_1, ↓di_2, ↓di_3, ↓di_4, ↓di_5, ↓di_6, ↓di_7, ↓di_8, ↓di_9, ↓di_10, ↓di_11, ↓di_12, ↓we_tup, ↓we_lst, ↓wm_nil, ↓wm_cons, ↓wa_nil, ↓wa_ex, ↓wa_st, ↓wa_io, ↓fz_nil, ↓fz_ex, ↓fz_io, ↓fy_st, ↓fy_ow, ↓ar_nil, ↓ar_ex, ↓ar_st, ↓ar_io, ↓pu_nil, ↓pu_cons, ↓we_call, ij_nil, ij_ex, ij_st, ij_io, ↓wg_nm, ↓wg_tu, ↓wg_tl, ↓wgs_nil, ↓wgs_cons, ↓we_methS', ↓ls_li, ↓we_meth, ↓we_chain, ↓we_rg1, ↓we_dict0, ↓we_get, ↓isd_d, ↓we_get2, ↓ws_put, ↓we_val, ↓wi_seq, ↓wi_rng, ↓wi_enum, ↓fq_seqL, ↓fq_seqT, ↓wt_yes, ↓rs_nil, ↓rs_cons, ↓wp_nil, ↓wp_cons, ↓we_comp, ↓we_compD, ↓we_comp2, ↓we_sset, ↓we_lset, ↓we_rev, ↓rv_l, ↓rv_t, ↓f_zip, ↓iq_nil, ↓iq_cons, ↓get_0, ↓set_0, ↓slot_0, ↓fz_0, ↓get_1, ↓set_1, ↓slot_1, ↓fz_1, ↓get_2, ↓set_2, ↓slot_2, ↓fz_2, ↓get_3, ↓set_3, ↓slot_3, ↓fz_3, ↓get_4, ↓set_4, ↓slot_4, ↓fz_4, ↓get_5, ↓set_5, ↓slot_5, ↓fz_5, ↓get_6, ↓set_6, ↓slot_6, ↓fz_6, ↓get_7, ↓set_7, ↓slot_7, ↓fz_7, ↓get_8, ↓set_8, ↓slot_8, ↓fz_8, ↓get_9, ↓set_9, ↓slot_9, ↓fz_9, ↓get_10, ↓set_10, ↓slot_10, ↓fz_10, ↓get_11, ↓set_11, ↓slot_11, ↓fz_11, ↓get_12, ↓set_12, ↓slot_12, ↓fz_12, ↓get_13, ↓set_13, ↓slot_13, ↓fz_13, ↓get_14, ↓set_14, ↓slot_14, ↓fz_14, ↓get_15, ↓set_15, ↓slot_15, ↓fz_15, ↓get_16, ↓set_16, ↓slot_16, ↓fz_16, ↓get_17, ↓set_17, ↓slot_17, ↓fz_17, ↓get_18, ↓set_18, ↓slot_18, ↓fz_18, ↓get_19, ↓set_19, ↓slot_19, ↓fz_19, ↓get_20, ↓set_20, ↓slot_20, ↓fz_20, ↓get_21, ↓set_21, ↓slot_21, ↓fz_21, ↓get_22, ↓set_22, ↓slot_22, ↓fz_22, ↓get_23, ↓set_23, ↓slot_23, ↓fz_23, ↓get_24, ↓set_24, ↓slot_24, ↓fz_24, ↓get_25, ↓set_25, ↓slot_25, ↓fz_25, ↓f_sub, ↓f_lt, ↓f_le, ↓f_gt, ↓f_ge, ↓f_add, ↓f_mod, ↓f_fdiv, ↓f_mulL, ↓f_mulR, ↓f_neg, ↓f_abs, ↓f_intI, ↓f_intB, ↓f_lenL, ↓f_lenT, ↓f_tupL, ↓f_tupT, ↓f_lisL, ↓f_lisT, ↓f_isB, ↓f_isNotB, ↓f_isN, ↓f_isNotN, ↓f_all, ↓f_any, ↓f_sum, ↓f_isi_int_int, ↓f_isi_int_bool, ↓f_isi_int_tuple, ↓f_isi_int_str, ↓f_isi_int_list, ↓f_isi_bool_int, ↓f_isi_bool_bool, ↓f_isi_bool_tuple, ↓f_isi_bool_str, ↓f_isi_bool_list, ↓f_isi_tuple_int, ↓f_isi_tuple_bool, ↓f_isi_tuple_tuple, ↓f_isi_tuple_str, ↓f_isi_tuple_list, ↓f_isi_str_int, ↓f_isi_str_bool, ↓f_isi_str_tuple, ↓f_isi_str_str, ↓f_isi_str_list, ↓f_isi_list_int, ↓f_isi_list_bool, ↓f_isi_list_tuple, ↓f_isi_list_str, ↓f_isi_list_list, ↓h_pop, ↓h_pop0, ↓f_rngI, ↓f_ixl0, ↓f_ixl1, ↓f_ixl2, ↓f_ixl3, ↓f_ixl4, ↓f_ixl5, ↓f_ixt0, ↓f_ixt1, ↓f_ixt2, ↓f_ixt3, ↓f_ixt4, ↓f_ixt5, ↓f_sd0, ↓f_sd1, ↓f_sd2, ↓f_sd3, ↓f_sd4, ↓f_sd5, nd_none, nd_bool, nd_int, nd_str, nd_list, nd_tuple]
      refine ⟨⟨rfl, by rw [List.length_map, List.length_range]; exact Nat.le_trans (Nat.le_of_lt hn) (by decide)⟩, ?_⟩
      refine wc_inv (fun k' ys ρ => ∃ (v : Nat → Int) (s3 : DS) (y : Option SV), ys = (List.range k').map (fun j => .int (v j)) ∧ small v k' ∧ ρ = [some (.st (.list (ns.map .int))), some (.ow (dsD s3)), some (.st (.int (k : Int))), some (.st (.int (n : Int))), some (.st (nmsD n)), some (.st T.d), some (.st (.int (i : Int))), x7, x8, x9, x10, x11, y]) [] ⟨fun _ => 0, s, _, rfl, fun j hj => absurd hj (Nat.not_lt_zero _), rfl⟩ (fun k' d ys ρ ge z => ?_) fun zs ρ z => ?_
      · obtain ⟨v, s3, y, rfl, hb, rfl⟩ := z
        have hd := dv_lt (s := s3) (n := 19) (by decide) (by decide)
        simp only [eq_self, Int.reduceLT, Int.reduceLE, Nat.reduceLT, Nat.reduceLeDiff, Int.reduceToNat, Int.toNat_natCast, ↓ws_seq, ↓sq_nx, ↓sq_rt, ↓sq_rf, ↓sq_bk, ↓sq_ct, ↓lq_nx, ↓lq_ct, ↓lq_bk, ↓lq_rt, ↓lq_rf, ↓ou_nx, ↓ou_rt, ↓ou_rf, ↓ws_next, ↓ws_break, ↓ws_cont, ↓ws_retNone, ↓ws_drop, ↓ws_ret, ↓ws_retF, ↓ws_set, ↓ws_setF, ↓rn_st, ↓rn_ow, ↓ws_retN, ↓sn_st, ↓sn_ow, ↓ws_setN, ↓ite_t, ↓ite_f, ↓ws_if, ↓ws_asg, ↓ws_store, ↓ws_aug, ↓ws_for, ↓ws_while, ↓we_c, ↓we_n, ↓we_op, ↓we_int, ↓wv_nil, ↓wv_ex, ↓wv_nm, ↓re_nil, ↓re_ex, ↓re_nm, ↓st_st, ↓ow_ow, ↓lk_st, ↓lk_ow, ↓bo_bo, ↓in_in, ↓wt_test, ↓wt_tru, ↓tr_bo, ↓tr_in, ↓tr_li, ↓tr_tu, ↓tr_no, ↓wt_not, ↓wt_and, ↓wt_or, ↓we_and, ↓we_or, ↓we_not, ↓we_if, ↓di_nil, ↓di_1, ↓di_2, ↓di_3, ↓di_4, ↓di_5, ↓di_6, ↓di_7, ↓di_8, ↓di_9, ↓di_10, ↓di_11, ↓di_12, ↓we_tup, ↓we_lst, ↓wm_nil, ↓wm_cons, ↓wa_nil, ↓wa_ex, ↓wa_st, ↓wa_io, ↓fz_nil, ↓fz_ex, ↓fz_io, ↓fy_st, ↓fy_ow, ↓ar_nil, ↓ar_ex, ↓ar_st, ↓ar_io, ↓pu_nil, ↓pu_cons, ↓we_call, ij_nil, ij_ex, ij_st, ij_io, ↓wg_nm, ↓wg_tu, ↓wg_tl, ↓wgs_nil, ↓wgs_cons, ↓we_methS', ↓ls_li, ↓we_meth, ↓we_chain, ↓we_rg1, ↓we_dict0, ↓we_get, ↓isd_d, ↓we_get2, ↓ws_put, ↓we_val, ↓wi_seq, ↓wi_rng, ↓wi_enum, ↓fq_seqL, ↓fq_seqT, ↓wt_yes, ↓rs_nil, ↓rs_cons, ↓wp_nil, ↓wp_cons, ↓we_comp, ↓we_compD, ↓we_comp2, ↓we_sset, ↓we_lset, ↓we_rev, ↓rv_l, ↓rv_t, ↓f_zip, ↓iq_nil, ↓iq_cons, ↓get_0, ↓set_0, ↓slot_0, ↓fz_0, ↓get_1, ↓set_1, ↓slot_1, ↓fz_1, ↓get_2, ↓set_2, ↓slot_2, ↓fz_2, ↓get_3, ↓set_3, ↓slot_3, ↓fz_3, ↓get_4, ↓set_4, ↓slot_4, ↓fz_4, ↓get_5, ↓set_5, ↓slot_5, ↓fz_5, ↓get_6, ↓set_6, ↓slot_6, ↓fz_6, ↓get_7, ↓set_7, ↓slot_7, ↓fz_7, ↓get_8, ↓set_8, ↓slot_8, ↓fz_8, ↓get_9, ↓set_9, ↓slot_9, ↓fz_9, ↓get_10, ↓set_10, ↓slot_10, ↓fz_10, ↓get_11, ↓set_11, ↓slot_11, ↓fz_11, ↓get_12, ↓set_12, ↓slot_12, ↓fz_12, ↓get_13, ↓set_13, ↓slot_13, ↓fz_13, ↓get_14, ↓set_14, ↓slot_14, ↓fz_14, ↓get_15, ↓set_15, ↓slot_15, ↓fz_15, ↓get_16, ↓set_16, ↓slot_16, ↓fz_16, ↓get_17, ↓set_17, ↓slot_17, ↓fz_17, ↓get_18, ↓set_18, ↓slot_18, ↓fz_18, ↓get_19, ↓set_19, ↓slot_19, ↓fz_19, ↓get_20, ↓set_20, ↓slot_20, ↓fz_20, ↓get_21, ↓set_21, ↓slot_21, ↓fz_21, ↓get_22, ↓set_22, ↓slot_22, ↓fz_22, ↓get_23, ↓set_23, ↓slot_23, ↓fz_23, ↓get_24, ↓set_24, ↓slot_24, ↓fz_24, ↓get_25, ↓set_25, ↓slot_25, ↓fz_25, ↓f_sub, ↓f_lt, ↓f_le, ↓f_gt, ↓f_ge, ↓f_add, ↓f_mod, ↓f_fdiv, ↓f_mulL, ↓f_mulR, ↓f_neg, ↓f_abs, ↓f_intI, ↓f_intB, ↓f_lenL, ↓f_lenT, ↓f_tupL, ↓f_tupT, ↓f_lisL, ↓f_lisT, ↓f_isB, ↓f_isNotB, ↓f_isN, ↓f_isNotN, ↓f_all, ↓f_any, ↓f_sum, ↓f_isi_int_int, ↓f_isi_int_bool, ↓f_isi_int_tuple, ↓f_isi_int_str, ↓f_isi_int_list, ↓f_isi_bool_int, ↓f_isi_bool_bool, ↓f_isi_bool_tuple, ↓f_isi_bool_str, ↓f_isi_bool_list, ↓f_isi_tuple_int, ↓f_isi_tuple_bool, ↓f_isi_tuple_tuple, ↓f_isi_tuple_str, ↓f_isi_tuple_list, ↓f_isi_str_int, ↓f_isi_str_bool, ↓f_isi_str_tuple, ↓f_isi_str_str, ↓f_isi_str_list, ↓f_isi_list_int, ↓f_isi_list_bool, ↓f_isi_list_tuple, ↓f_isi_list_str, ↓f_isi_list_list, ↓h_pop, ↓h_pop0, ↓f_rngI, ↓f_ixl0, ↓f_ixl1, ↓f_ixl2, ↓f_ixl3, ↓f_ixl4, ↓f_ixl5, ↓f_ixt0, ↓f_ixt1, ↓f_ixt2, ↓f_ixt3, ↓f_ixt4, ↓f_ixt5, ↓f_sd0, ↓f_sd1, ↓f_sd2, ↓f_sd3, ↓f_sd4, ↓f_sd5, nd_none, nd_bool, nd_int, nd_str, nd_list, nd_tuple, w_drawI, nd_ds]
        exact ⟨trivial, upd1 v k' (((dv s3 19 : Nat) : Int) - 9), dn s3 19, _, upd1_map, upd1_small hb (by omega), rfl⟩
      obtain ⟨v, s3, y, hz, hsm, rfl⟩ := z
      rw [List.length_map, List.length_range] at hz hsm
      rw [List.nil_append] at hz
      subst hz
      have hn2 : n < 2 ^ 62 := by omega
      simp only [eq_self, Int.reduceLT, Int.reduceLE, Nat.reduceLT, Nat.reduceLeDiff, Int.reduceToNat, Int.toNat_natCast, ↓ws_seq, ↓sq_nx, ↓sq_rt, ↓sq_rf, ↓sq_bk, ↓sq_ct, ↓lq_nx, ↓lq_ct, ↓lq_bk, ↓lq_rt, ↓lq_rf, ↓ou_nx, ↓ou_rt, ↓ou_rf, ↓ws_next, ↓ws_break, ↓ws_cont, ↓ws_retNone, ↓ws_drop, ↓ws_ret, ↓ws_retF, ↓ws_set, ↓ws_setF, ↓rn_st, ↓rn_ow, ↓ws_retN, ↓sn_st, ↓sn_ow, ↓ws_setN, ↓ite_t, ↓ite_f, ↓ws_if, ↓ws_asg, ↓ws_store, ↓ws_aug, ↓ws_for, ↓ws_while, ↓we_c, ↓we_n, ↓we_op, ↓we_int, ↓wv_nil, ↓wv_ex, ↓wv_nm, ↓re_nil, ↓re_ex, ↓re_nm, ↓st_st, ↓ow_ow, ↓lk_st, ↓lk_ow, ↓bo_bo, ↓in_in, ↓wt_test, ↓wt_tru, ↓tr_bo, ↓tr_in, ↓tr_li, ↓tr_tu, ↓tr_no, ↓wt_not, ↓wt_and, ↓wt_or, ↓we_and, ↓we_or, ↓we_not, ↓we_if, ↓di_nil, ↓di_1, ↓di_2, ↓di_3, ↓di_4, ↓di_5, ↓di_6, ↓di_7, ↓di_8, ↓di_9, ↓di_10, ↓di_11, ↓di_12, ↓we_tup, ↓we_lst, ↓wm_nil, ↓wm_cons, ↓wa_nil, ↓wa_ex, ↓wa_st, ↓wa_io, ↓fz_nil, ↓fz_ex, ↓fz_io, ↓fy_st, ↓fy_ow, ↓ar_nil, ↓ar_ex, ↓ar_st, ↓ar_io, ↓pu_nil, ↓pu_cons, ↓we_call, ij_nil, ij_ex, ij_st, ij_io, ↓wg_nm, ↓wg_tu, ↓wg_tl, ↓wgs_nil, ↓wgs_cons, ↓we_methS', ↓ls_li, ↓we_meth, ↓we_chain, ↓we_rg1, ↓we_dict0, ↓we_get, ↓isd_d, ↓we_get2, ↓ws_put, ↓we_val, ↓wi_seq, ↓wi_rng, ↓wi_enum, ↓fq_seqL, ↓fq_seqT, ↓wt_yes, ↓rs_nil, ↓rs_cons, ↓wp_nil, ↓wp_cons, ↓we_comp, ↓we_compD, ↓we_comp2, ↓we_sset, ↓we_lset, ↓we_rev, ↓rv_l, ↓rv_t, ↓f_zip, ↓iq_nil, ↓iq_cons, ↓get_0, ↓set_0, ↓slot_0, ↓fz_0, ↓get_1, ↓set_1, ↓slot_1, ↓fz_1, ↓get_2, ↓set_2, ↓slot_2, ↓fz_2, ↓get_3, ↓set_3, ↓slot_3, ↓fz_3, ↓get_4, ↓set_4, ↓slot_4, ↓fz_4, ↓get_5, ↓set_5, ↓slot_5, ↓fz_5, ↓get_6, ↓set_6, ↓slot_6, ↓fz_6, ↓get_7, ↓set_7, ↓slot_7, ↓fz_7, ↓get_8, ↓set_8, ↓slot_8, ↓fz_8, ↓get_9, ↓set_9, ↓slot_9, ↓fz_9, ↓get_10, ↓set_10, ↓slot_10, ↓fz_10, ↓get_11, ↓set_11, ↓slot_11, ↓fz_11, ↓get_12, ↓set_12, ↓slot_12, ↓fz_12, ↓get_13, ↓set_13, ↓slot_13, ↓fz_13, ↓get_14, ↓set_14, ↓slot_14, ↓fz_14, ↓get_15, ↓set_15, ↓slot_15, ↓fz_15, ↓get_16, ↓set_16, ↓slot_16, ↓fz_16, ↓get_17, ↓set_17, ↓slot_17, ↓fz_17, ↓get_18, ↓set_18, ↓slot_18, ↓fz_18, ↓get_19, ↓set_19, ↓slot_19, ↓fz_19, ↓get_20, ↓set_20, ↓slot_20, ↓fz_20, ↓get_21, ↓set_21, ↓slot_21, ↓fz_21, ↓get_22, ↓set_22, ↓slot_22, ↓fz_22, ↓get_23, ↓set_23, ↓slot_23, ↓fz_23, ↓get_24, ↓set_24, ↓slot_24, ↓fz_24, ↓get_25, ↓set_25, ↓slot_25, ↓fz_25, ↓f_sub, ↓f_lt, ↓f_le, ↓f_gt, ↓f_ge, ↓f_add, ↓f_mod, ↓f_fdiv, ↓f_mulL, ↓f_mulR, ↓f_neg, ↓f_abs, ↓f_intI, ↓f_intB, ↓f_lenL, ↓f_lenT, ↓f_tupL, ↓f_tupT, ↓f_lisL, ↓f_lisT, ↓f_isB, ↓f_isNotB, ↓f_isN, ↓f_isNotN, ↓f_all, ↓f_any, ↓f_sum, ↓f_isi_int_int, ↓f_isi_int_bool, ↓f_isi_int_tuple, ↓f_isi_int_str, ↓f_isi_int_list, ↓f_isi_bool_int, ↓f_isi_bool_bool, ↓f_isi_bool_tuple, ↓f_isi_bool_str, ↓f_isi_bool_list, ↓f_isi_tuple_int, ↓f_isi_tuple_bool, ↓f_isi_tuple_tuple, ↓f_isi_tuple_str, ↓f_isi_tuple_list, ↓f_isi_str_int, ↓f_isi_str_bool, ↓f_isi_str_tuple, ↓f_isi_str_str, ↓f_isi_str_list, ↓f_isi_list_int, ↓f_isi_list_bool, ↓f_isi_list_tuple, ↓f_isi_list_str, ↓f_isi_list_list, ↓h_pop, ↓h_pop0, ↓f_rngI, ↓f_ixl0, ↓f_ixl1, ↓f_ixl2, ↓f_ixl3, ↓f_ixl4, ↓f_ixl5, ↓f_ixt0, ↓f_ixt1, ↓f_ixt2, ↓f_ixt3, ↓f_ixt4, ↓f_ixt5, ↓f_sd0, ↓f_sd1, ↓f_sd2, ↓f_sd3, ↓f_sd4, ↓f_sd5, nd_none, nd_bool, nd_int, nd_str, nd_list, nd_tuple, ↓f_rng1 hn2]
      refine wl_rng (fun j ρ => j ≤ n ∧ ∃ (y : Option SV), (y = none ∨ ∃ d, y = some (.st d)) ∧ ρ = [some (.st (.list (ns.map .int))), some (.ow (dsD s3)), some (.st (.int (k : Int))), some (.st (.int (n : Int))), some (.st (nmsD n)), some (.st T.d), some (.st (.int (i : Int))), some (.st (.tuple ((List.range n).map fun j => .int (v j)))), some (.ow (.dict (tab v j))), y, x10, x11, none]) ⟨Nat.zero_le _, _, hx9, rfl⟩ (fun j ρ hj z => ?_) fun ρ z => ?_
      · obtain ⟨_, y, _, rfl⟩ := z
        unfold b1_law
        have hj' : j < (List.range n).length := by rw [List.length_range]; exact hj
        have hr : (List.range n)[j]! = j := by rw [getElem!_pos _ j hj', List.getElem_range]
        have hl : (tab v j).length < sizeLine := by
          rw [tab, List.length_map, List.length_range]
          exact Nat.lt_of_lt_of_le (show j < 4 by omega) (by decide)
        simp only [eq_self, Int.reduceLT, Int.reduceLE, Nat.reduceLT, Nat.reduceLeDiff, Int.reduceToNat, Int.toNat_natCast, ↓ws_seq, ↓sq_nx, ↓sq_rt, ↓sq_rf, ↓sq_bk, ↓sq_ct, ↓lq_nx, ↓lq_ct, ↓lq_bk, ↓lq_rt, ↓lq_rf, ↓ou_nx, ↓ou_rt, ↓ou_rf, ↓ws_next, ↓ws_break, ↓ws_cont, ↓ws_retNone, ↓ws_drop, ↓ws_ret, ↓ws_retF, ↓ws_set, ↓ws_setF, ↓rn_st, ↓rn_ow, ↓ws_retN, ↓sn_st, ↓sn_ow, ↓ws_setN, ↓ite_t, ↓ite_f, ↓ws_if, ↓ws_asg, ↓ws_store, ↓ws_aug, ↓ws_for, ↓ws_while, ↓we_c, ↓we_n, ↓we_op, ↓we_int, ↓wv_nil, ↓wv_ex, ↓wv_nm, ↓re_nil, ↓re_ex, ↓re_nm, ↓st_st, ↓ow_ow, ↓lk_st, ↓lk_ow, ↓bo_bo, ↓in_in, ↓wt_test, ↓wt_tru, ↓tr_bo, ↓tr_in, ↓tr_li, ↓tr_tu, ↓tr_no, ↓wt_not, ↓wt_and, ↓wt_or, ↓we_and, ↓we_or, ↓we_not, ↓we_if, ↓di_nil, ↓di_1, ↓di_2, ↓di_3, ↓di_4, ↓di_5, ↓di_6, ↓di_7, ↓di_8, ↓di_9, ↓di_10, ↓di_11, ↓di_12, ↓we_tup, ↓we_lst, ↓wm_nil, ↓wm_cons, ↓wa_nil, ↓wa_ex, ↓wa_st, ↓wa_io, ↓fz_nil, ↓fz_ex, ↓fz_io, ↓fy_st, ↓fy_ow, ↓ar_nil, ↓ar_ex, ↓ar_st, ↓ar_io, ↓pu_nil, ↓pu_cons, ↓we_call, ij_nil, ij_ex, ij_st, ij_io, ↓wg_nm, ↓wg_tu, ↓wg_tl, ↓wgs_nil, ↓wgs_cons, ↓we_methS', ↓ls_li, ↓we_meth, ↓we_chain, ↓we_rg1, ↓we_dict0, ↓we_get, ↓isd_d, ↓we_get2, ↓ws_put, ↓we_val, ↓wi_seq, ↓wi_rng, ↓wi_enum, ↓fq_seqL, ↓fq_seqT, ↓wt_yes, ↓rs_nil, ↓rs_cons, ↓wp_nil, ↓wp_cons, ↓we_comp, ↓we_compD, ↓we_comp2, ↓we_sset, ↓we_lset, ↓we_rev, ↓rv_l, ↓rv_t, ↓f_zip, ↓iq_nil, ↓iq_cons, ↓get_0, ↓set_0, ↓slot_0, ↓fz_0, ↓get_1, ↓set_1, ↓slot_1, ↓fz_1, ↓get_2, ↓set_2, ↓slot_2, ↓fz_2, ↓get_3, ↓set_3, ↓slot_3, ↓fz_3, ↓get_4, ↓set_4, ↓slot_4, ↓fz_4, ↓get_5, ↓set_5, ↓slot_5, ↓fz_5, ↓get_6, ↓set_6, ↓slot_6, ↓fz_6, ↓get_7, ↓set_7, ↓slot_7, ↓fz_7, ↓get_8, ↓set_8, ↓slot_8, ↓fz_8, ↓get_9, ↓set_9, ↓slot_9, ↓fz_9, ↓get_10, ↓set_10, ↓slot_10, ↓fz_10, ↓get_11, ↓set_11, ↓slot_11, ↓fz_11, ↓get_12, ↓set_12, ↓slot_12, ↓fz_12, ↓get_13, ↓set_13, ↓slot_13, ↓fz_13, ↓get_14, ↓set_14, ↓slot_14, ↓fz_14, ↓get_15, ↓set_15, ↓slot_15, ↓fz_15, ↓get_16, ↓set_16, ↓slot_16, ↓fz_16, ↓get_17, ↓set_17, ↓slot_17, ↓fz_17, ↓get_18, ↓set_18, ↓slot_18, ↓fz_18, ↓get_19, ↓set_19, ↓slot_19, ↓fz_19, ↓get_20, ↓set_20, ↓slot_20, ↓fz_20, ↓get_21, ↓set_21, ↓slot_21, ↓fz_21, ↓get_22, ↓set_22, ↓slot_22, ↓fz_22, ↓get_23, ↓set_23, ↓slot_23, ↓fz_23, ↓get_24, ↓set_24, ↓slot_24, ↓fz_24, ↓get_25, ↓set_25, ↓slot_25, ↓fz_25, ↓f_sub, ↓f_lt, ↓f_le, ↓f_gt, ↓f_ge, ↓f_add, ↓f_mod, ↓f_fdiv, ↓f_mulL, ↓f_mulR, ↓f_neg, ↓f_abs, ↓f_intI, ↓f_intB, ↓f_lenL, ↓f_lenT, ↓f_tupL, ↓f_tupT, ↓f_lisL, ↓f_lisT, ↓f_isB, ↓f_isNotB, ↓f_isN, ↓f_isNotN, ↓f_all, ↓f_any, ↓f_sum, ↓f_isi_int_int, ↓f_isi_int_bool, ↓f_isi_int_tuple, ↓f_isi_int_str, ↓f_isi_int_list, ↓f_isi_bool_int, ↓f_isi_bool_bool, ↓f_isi_bool_tuple, ↓f_isi_bool_str, ↓f_isi_bool_list, ↓f_isi_tuple_int, ↓f_isi_tuple_bool, ↓f_isi_tuple_tuple, ↓f_isi_tuple_str, ↓f_isi_tuple_list, ↓f_isi_str_int, ↓f_isi_str_bool, ↓f_isi_str_tuple, ↓f_isi_str_str, ↓f_isi_str_list, ↓f_isi_list_int, ↓f_isi_list_bool, ↓f_isi_list_tuple, ↓f_isi_list_str, ↓f_isi_list_list, ↓h_pop, ↓h_pop0, ↓f_rngI, ↓f_ixl0, ↓f_ixl1, ↓f_ixl2, ↓f_ixl3, ↓f_ixl4, ↓f_ixl5, ↓f_ixt0, ↓f_ixt1, ↓f_ixt2, ↓f_ixt3, ↓f_ixt4, ↓f_ixt5, ↓f_sd0, ↓f_sd1, ↓f_sd2, ↓f_sd3, ↓f_sd4, ↓f_sd5, nd_none, nd_bool, nd_int, nd_str, nd_list, nd_tuple, ↓f_mapT (f := fun j => PyData.int (v j)) hj', ↓f_mapL (f := nD) hj', hr, ↓dp_of (k := nk j) (kd := nD j) (v := .int (v j)) rfl rfl hl, tab_put (show j < 4 by omega)]
        exact ⟨hj, _, .inr ⟨_, rfl⟩, rfl⟩
      obtain ⟨_, y, hy, rfl⟩ := z
      simp only [eq_self, Int.reduceLT, Int.reduceLE, Nat.reduceLT, Nat.reduceLeDiff, Int.reduceToNat, Int.toNat_natCast, ↓ws_seq, ↓sq_nx, ↓sq_rt, ↓sq_rf, ↓sq_bk, ↓sq_ct, ↓lq_nx, ↓lq_ct, ↓lq_bk, ↓lq_rt, ↓lq_rf, ↓ou_nx, ↓ou_rt, ↓ou_rf, ↓ws_next, ↓ws_break, ↓ws_cont, ↓ws_retNone, ↓ws_drop, ↓ws_ret, ↓ws_retF, ↓ws_set, ↓ws_setF, ↓rn_st, ↓rn_ow, ↓ws_retN, ↓sn_st, ↓sn_ow, ↓ws_setN, ↓ite_t, ↓ite_f, ↓ws_if, ↓ws_asg, ↓ws_store, ↓ws_aug, ↓ws_for, ↓ws_while, ↓we_c, ↓we_n, ↓we_op, ↓we_int, ↓wv_nil, ↓wv_ex, ↓wv_nm, ↓re_nil, ↓re_ex, ↓re_nm, ↓st_st, ↓ow_ow, ↓lk_st, ↓lk_ow, ↓bo_bo, ↓in_in, ↓wt_test, ↓wt_tru, ↓tr_bo, ↓tr_in, ↓tr_li, ↓tr_tu, ↓tr_no, ↓wt_not, ↓wt_and, ↓wt_or, ↓we_and, ↓we_or, ↓we_not, ↓we_if, ↓di_nil, ↓di_1, ↓di_2, ↓di_3, ↓di_4, ↓di_5, ↓di_6, ↓di_7, ↓di_8, ↓di_9, ↓di_10, ↓di_11, ↓di_12, ↓we_tup, ↓we_lst, ↓wm_nil, ↓wm_cons, ↓wa_nil, ↓wa_ex, ↓wa_st, ↓wa_io, ↓fz_nil, ↓fz_ex, ↓fz_io, ↓fy_st, ↓fy_ow, ↓ar_nil, ↓ar_ex, ↓ar_st, ↓ar_io, ↓pu_nil, ↓pu_cons, ↓we_call, ij_nil, ij_ex, ij_st, ij_io, ↓wg_nm, ↓wg_tu, ↓wg_tl, ↓wgs_nil, ↓wgs_cons, ↓we_methS', ↓ls_li, ↓we_meth, ↓we_chain, ↓we_rg1, ↓we_dict0, ↓we_get, ↓isd_d, ↓we_get2, ↓ws_put, ↓we_val, ↓wi_seq, ↓wi_rng, ↓wi_enum, ↓fq_seqL, ↓fq_seqT, ↓wt_yes, ↓rs_nil, ↓rs_cons, ↓wp_nil, ↓wp_cons, ↓we_comp, ↓we_compD, ↓we_comp2, ↓we_sset, ↓we_lset, ↓we_rev, ↓rv_l, ↓rv_t, ↓f_zip, ↓iq_nil, ↓iq_cons, ↓get_0, ↓set_0, ↓slot_0, ↓fz_0, ↓get_1, ↓set_1, ↓slot_1, ↓fz_1, ↓get_2, ↓set_2, ↓slot_2, ↓fz_2, ↓get_3, ↓set_3, ↓slot_3, ↓fz_3, ↓get_4, ↓set_4, ↓slot_4, ↓fz_4, ↓get_5, ↓set_5, ↓slot_5, ↓fz_5, ↓get_6, ↓set_6, ↓slot_6, ↓fz_6, ↓get_7, ↓set_7, ↓slot_7, ↓fz_7, ↓get_8, ↓set_8, ↓slot_8, ↓fz_8, ↓get_9, ↓set_9, ↓slot_9, ↓fz_9, ↓get_10, ↓set_10, ↓slot_10, ↓fz_10, ↓get_11, ↓set_11, ↓slot_11, ↓fz_11, ↓get_12, ↓set_12, ↓slot_12, ↓fz_12, ↓get_13, ↓set_13, ↓slot_13, ↓fz_13, ↓get_14, ↓set_14, ↓slot_14, ↓fz_14, ↓get_15, ↓set_15, ↓slot_15, ↓fz_15, ↓get_16, ↓set_16, ↓slot_16, ↓fz_16, ↓get_17, ↓set_17, ↓slot_17, ↓fz_17, ↓get_18, ↓set_18, ↓slot_18, ↓fz_18, ↓get_19, ↓set_19, ↓slot_19, ↓fz_19, ↓get_20, ↓set_20, ↓slot_20, ↓fz_20, ↓get_21, ↓set_21, ↓slot_21, ↓fz_21, ↓get_22, ↓set_22, ↓slot_22, ↓fz_22, ↓get_23, ↓set_23, ↓slot_23, ↓fz_23, ↓get_24, ↓set_24, ↓slot_24, ↓fz_24, ↓get_25, ↓set_25, ↓slot_25, ↓fz_25, ↓f_sub, ↓f_lt, ↓f_le, ↓f_gt, ↓f_ge, ↓f_add, ↓f_mod, ↓f_fdiv, ↓f_mulL, ↓f_mulR, ↓f_neg, ↓f_abs, ↓f_intI, ↓f_intB, ↓f_lenL, ↓f_lenT, ↓f_tupL, ↓f_tupT, ↓f_lisL, ↓f_lisT, ↓f_isB, ↓f_isNotB, ↓f_isN, ↓f_isNotN, ↓f_all, ↓f_any, ↓f_sum, ↓f_isi_int_int, ↓f_isi_int_bool, ↓f_isi_int_tuple, ↓f_isi_int_str, ↓f_isi_int_list, ↓f_isi_bool_int, ↓f_isi_bool_bool, ↓f_isi_bool_tuple, ↓f_isi_bool_str, ↓f_isi_bool_list, ↓f_isi_tuple_int, ↓f_isi_tuple_bool, ↓f_isi_tuple_tuple, ↓f_isi_tuple_str, ↓f_isi_tuple_list, ↓f_isi_str_int, ↓f_isi_str_bool, ↓f_isi_str_tuple, ↓f_isi_str_str, ↓f_isi_str_list, ↓f_isi_list_int, ↓f_isi_list_bool, ↓f_isi_list_tuple, ↓f_isi_list_str, ↓f_isi_list_list, ↓h_pop, ↓h_pop0, ↓f_rngI, ↓f_ixl0, ↓f_ixl1, ↓f_ixl2, ↓f_ixl3, ↓f_ixl4, ↓f_ixl5, ↓f_ixt0, ↓f_ixt1, ↓f_ixt2, ↓f_ixt3, ↓f_ixt4, ↓f_ixt5, ↓f_sd0, ↓f_sd1, ↓f_sd2, ↓f_sd3, ↓f_sd4, ↓f_sd5, nd_none, nd_bool, nd_int, nd_str, nd_list, nd_tuple, ↓WF.of (law_leaf_eq hn hsm okT (show T.dep ≤ 8 by omega))]
      have done : ∀ x10 x11 : Option SV, ∃ (s : DS) (x6 x7 x8 x9 x10' x11' : Option SV), (x9 = none ∨ ∃ d, x9 = some (.st d)) ∧ [some (SV.st (.list (ns.map .int))), some (.ow (dsD s3)), some (.st (.int (k : Int))), some (.st (.int (n : Int))), some (.st (nmsD n)), some (.st T.d), some (.st (.int (i : Int))), some (.st (.tuple ((List.range n).map fun j => .int (v j)))), some (.st (.dict (tab v n))), y, x10, x11, none] = [some (.st (.list (ns.map .int))), some (.ow (dsD s)), some (.st (.int (k : Int))), some (.st (.int (n : Int))), some (.st (nmsD n)), some (.st T.d), x6, x7, x8, x9, x10', x11', none] := fun x10 x11 => ⟨_, _, _, _, _, _, _, hy, rfl⟩
      cases hlf : T.leaf v with
      | no =>
        rw [d_no]
        simp only [eq_self, Int.reduceLT, Int.reduceLE, Nat.reduceLT, Nat.reduceLeDiff, Int.reduceToNat, Int.toNat_natCast, ↓ws_seq, ↓sq_nx, ↓sq_rt, ↓sq_rf, ↓sq_bk, ↓sq_ct, ↓lq_nx, ↓lq_ct, ↓lq_bk, ↓lq_rt, ↓lq_rf, ↓ou_nx, ↓ou_rt, ↓ou_rf, ↓ws_next, ↓ws_break, ↓ws_cont, ↓ws_retNone, ↓ws_drop, ↓ws_ret, ↓ws_retF, ↓ws_set, ↓ws_setF, ↓rn_st, ↓rn_ow, ↓ws_retN, ↓sn_st, ↓sn_ow, ↓ws_setN, ↓ite_t, ↓ite_f, ↓ws_if, ↓ws_asg, ↓ws_store, ↓ws_aug, ↓ws_for, ↓ws_while, ↓we_c, ↓we_n, ↓we_op, ↓we_int, ↓wv_nil, ↓wv_ex, ↓wv_nm, ↓re_nil, ↓re_ex, ↓re_nm, ↓st_st, ↓ow_ow, ↓lk_st, ↓lk_ow, ↓bo_bo, ↓in_in, ↓wt_test, ↓wt_tru, ↓tr_bo, ↓tr_in, ↓tr_li, ↓tr_tu, ↓tr_no, ↓wt_not, ↓wt_and, ↓wt_or, ↓we_and, ↓we_or, ↓we_not, ↓we_if, ↓di_nil, ↓di_1, ↓di_2, ↓di_3, ↓di_4, ↓di_5, ↓di_6, ↓di_7, ↓di_8, ↓di_9, ↓di_10, ↓di_11, ↓di_12, ↓we_tup, ↓we_lst, ↓wm_nil, ↓wm_cons, ↓wa_nil, ↓wa_ex, ↓wa_st, ↓wa_io, ↓fz_nil, ↓fz_ex, ↓fz_io, ↓fy_st, ↓fy_ow, ↓ar_nil, ↓ar_ex, ↓ar_st, ↓ar_io, ↓pu_nil, ↓pu_cons, ↓we_call, ij_nil, ij_ex, ij_st, ij_io, ↓wg_nm, ↓wg_tu, ↓wg_tl, ↓wgs_nil, ↓wgs_cons, ↓we_methS', ↓ls_li, ↓we_meth, ↓we_chain, ↓we_rg1, ↓we_dict0, ↓we_get, ↓isd_d, ↓we_get2, ↓ws_put, ↓we_val, ↓wi_seq, ↓wi_rng, ↓wi_enum, ↓fq_seqL, ↓fq_seqT, ↓wt_yes, ↓rs_nil, ↓rs_cons, ↓wp_nil, ↓wp_cons, ↓we_comp, ↓we_compD, ↓we_comp2, ↓we_sset, ↓we_lset, ↓we_rev, ↓rv_l, ↓rv_t, ↓f_zip, ↓iq_nil, ↓iq_cons, ↓get_0, ↓set_0, ↓slot_0, ↓fz_0, ↓get_1, ↓set_1, ↓slot_1, ↓fz_1, ↓get_2, ↓set_2, ↓slot_2, ↓fz_2, ↓get_3, ↓set_3, ↓slot_3, ↓fz_3, ↓get_4, ↓set_4, ↓slot_4, ↓fz_4, ↓get_5, ↓set_5, ↓slot_5, ↓fz_5, ↓get_6, ↓set_6, ↓slot_6, ↓fz_6, ↓get_7, ↓set_7, ↓slot_7, ↓fz_7, ↓get_8, ↓set_8, ↓slot_8, ↓fz_8, ↓get_9, ↓set_9, ↓slot_9, ↓fz_9, ↓get_10, ↓set_10, ↓slot_10, ↓fz_10, ↓get_11, ↓set_11, ↓slot_11, ↓fz_11, ↓get_12, ↓set_12, ↓slot_12, ↓fz_12, ↓get_13, ↓set_13, ↓slot_13, ↓fz_13, ↓get_14, ↓set_14, ↓slot_14, ↓fz_14, ↓get_15, ↓set_15, ↓slot_15, ↓fz_15, ↓get_16, ↓set_16, ↓slot_16, ↓fz_16, ↓get_17, ↓set_17, ↓slot_17, ↓fz_17, ↓get_18, ↓set_18, ↓slot_18, ↓fz_18, ↓get_19, ↓set_19, ↓slot_19, ↓fz_19, ↓get_20, ↓set_20, ↓slot_20, ↓fz_20, ↓get_21, ↓set_21, ↓slot_21, ↓fz_21, ↓get_22, ↓set_22, ↓slot_22, ↓fz_22, ↓get_23, ↓set_23, ↓slot_23, ↓fz_23, ↓get_24, ↓set_24, ↓slot_24, ↓fz_24, ↓get_25, ↓set_25, ↓slot_25, ↓fz_25, ↓f_sub, ↓f_lt, ↓f_le, ↓f_gt, ↓f_ge, ↓f_add, ↓f_mod, ↓f_fdiv, ↓f_mulL, ↓f_mulR, ↓f_neg, ↓f_abs, ↓f_intI, ↓f_intB, ↓f_lenL, ↓f_lenT, ↓f_tupL, ↓f_tupT, ↓f_lisL, ↓f_lisT, ↓f_isB, ↓f_isNotB, ↓f_isN, ↓f_isNotN, ↓f_all, ↓f_any, ↓f_sum, ↓f_isi_int_int, ↓f_isi_int_bool, ↓f_isi_int_tuple, ↓f_isi_int_str, ↓f_isi_int_list, ↓f_isi_bool_int, ↓f_isi_bool_bool, ↓f_isi_bool_tuple, ↓f_isi_bool_str, ↓f_isi_bool_list, ↓f_isi_tuple_int, ↓f_isi_tuple_bool, ↓f_isi_tuple_tuple, ↓f_isi_tuple_str, ↓f_isi_tuple_list, ↓f_isi_str_int, ↓f_isi_str_bool, ↓f_isi_str_tuple, ↓f_isi_str_str, ↓f_isi_str_list, ↓f_isi_list_int, ↓f_isi_list_bool, ↓f_isi_list_tuple, ↓f_isi_list_str, ↓f_isi_list_list, ↓h_pop, ↓h_pop0, ↓f_rngI, ↓f_ixl0, ↓f_ixl1, ↓f_ixl2, ↓f_ixl3, ↓f_ixl4, ↓f_ixl5, ↓f_ixt0, ↓f_ixt1, ↓f_ixt2, ↓f_ixt3, ↓f_ixt4, ↓f_ixt5, ↓f_sd0, ↓f_sd1, ↓f_sd2, ↓f_sd3, ↓f_sd4, ↓f_sd5, nd_none, nd_bool, nd_int, nd_str, nd_list, nd_tuple, ↓f_eqS s_none s_kind, show ((Str.ofString "none") == (Str.ofString "kind")) = false from by decide +kernel]
        exact done _ _
      | test c ts a b =>
        exact absurd hlf (leaf_no T)
      | kind m =>
        rw [d_kind]
        simp only [eq_self, Int.reduceLT, Int.reduceLE, Nat.reduceLT, Nat.reduceLeDiff, Int.reduceToNat, Int.toNat_natCast, ↓ws_seq, ↓sq_nx, ↓sq_rt, ↓sq_rf, ↓sq_bk, ↓sq_ct, ↓lq_nx, ↓lq_ct, ↓lq_bk, ↓lq_rt, ↓lq_rf, ↓ou_nx, ↓ou_rt, ↓ou_rf, ↓ws_next, ↓ws_break, ↓ws_cont, ↓ws_retNone, ↓ws_drop, ↓ws_ret, ↓ws_retF, ↓ws_set, ↓ws_setF, ↓rn_st, ↓rn_ow, ↓ws_retN, ↓sn_st, ↓sn_ow, ↓ws_setN, ↓ite_t, ↓ite_f, ↓ws_if, ↓ws_asg, ↓ws_store, ↓ws_aug, ↓ws_for, ↓ws_while, ↓we_c, ↓we_n, ↓we_op, ↓we_int, ↓wv_nil, ↓wv_ex, ↓wv_nm, ↓re_nil, ↓re_ex, ↓re_nm, ↓st_st, ↓ow_ow, ↓lk_st, ↓lk_ow, ↓bo_bo, ↓in_in, ↓wt_test, ↓wt_tru, ↓tr_bo, ↓tr_in, ↓tr_li, ↓tr_tu, ↓tr_no, ↓wt_not, ↓wt_and, ↓wt_or, ↓we_and, ↓we_or, ↓we_not, ↓we_if, ↓di_nil, ↓di_1, ↓di_2, ↓di_3, ↓di_4, ↓di_5, ↓di_6, ↓di_7, ↓di_8, ↓di_9, ↓di_10, ↓di_11, ↓di_12, ↓we_tup, ↓we_lst, ↓wm_nil, ↓wm_cons, ↓wa_nil, ↓wa_ex, ↓wa_st, ↓wa_io, ↓fz_nil, ↓fz_ex, ↓fz_io, ↓fy_st, ↓fy_ow, ↓ar_nil, ↓ar_ex, ↓ar_st, ↓ar_io, ↓pu_nil, ↓pu_cons, ↓we_call, ij_nil, ij_ex, ij_st, ij_io, ↓wg_nm, ↓wg_tu, ↓wg_tl, ↓wgs_nil, ↓wgs_cons, ↓we_methS', ↓ls_li, ↓we_meth, ↓we_chain, ↓we_rg1, ↓we_dict0, ↓we_get, ↓isd_d, ↓we_get2, ↓ws_put, ↓we_val, ↓wi_seq, ↓wi_rng, ↓wi_enum, ↓fq_seqL, ↓fq_seqT, ↓wt_yes, ↓rs_nil, ↓rs_cons, ↓wp_nil, ↓wp_cons, ↓we_comp, ↓we_compD, ↓we_comp2, ↓we_sset, ↓we_lset, ↓we_rev, ↓rv_l, ↓rv_t, ↓f_zip, ↓iq_nil, ↓iq_cons, ↓get_0, ↓set_0, ↓slot_0, ↓fz_0, ↓get_1, ↓set_1, ↓slot_1, ↓fz_1, ↓get_2, ↓set_2, ↓slot_2, ↓fz_2, ↓get_3, ↓set_3, ↓slot_3, ↓fz_3, ↓get_4, ↓set_4, ↓slot_4, ↓fz_4, ↓get_5, ↓set_5, ↓slot_5, ↓fz_5, ↓get_6, ↓set_6, ↓slot_6, ↓fz_6, ↓get_7, ↓set_7, ↓slot_7, ↓fz_7, ↓get_8, ↓set_8, ↓slot_8, ↓fz_8, ↓get_9, ↓set_9, ↓slot_9, ↓fz_9, ↓get_10, ↓set_10, ↓slot_10, ↓fz_10, ↓get_11, ↓set_11, ↓slot_11, ↓fz_11, ↓get_12, ↓set_12, ↓slot_12, ↓fz_12, ↓get_13, ↓set_13, ↓slot_13, ↓fz_13, ↓get_14, ↓set_14, ↓slot_14, ↓fz_14, ↓get_15, ↓set_15, ↓slot_15, ↓fz_15, ↓get_16, ↓set_16, ↓slot_16, ↓fz_16, ↓get_17, ↓set_17, ↓slot_17, ↓fz_17, ↓get_18, ↓set_18, ↓slot_18, ↓fz_18, ↓get_19, ↓set_19, ↓slot_19, ↓fz_19, ↓get_20, ↓set_20, ↓slot_20, ↓fz_20, ↓get_21, ↓set_21, ↓slot_21, ↓fz_21, ↓get_22, ↓set_22, ↓slot_22, ↓fz_22, ↓get_23, ↓set_23, ↓slot_23, ↓fz_23, ↓get_24, ↓set_24, ↓slot_24, ↓fz_24, ↓get_25, ↓set_25, ↓slot_25, ↓fz_25, ↓f_sub, ↓f_lt, ↓f_le, ↓f_gt, ↓f_ge, ↓f_add, ↓f_mod, ↓f_fdiv, ↓f_mulL, ↓f_mulR, ↓f_neg, ↓f_abs, ↓f_intI, ↓f_intB, ↓f_lenL, ↓f_lenT, ↓f_tupL, ↓f_tupT, ↓f_lisL, ↓f_lisT, ↓f_isB, ↓f_isNotB, ↓f_isN, ↓f_isNotN, ↓f_all, ↓f_any, ↓f_sum, ↓f_isi_int_int, ↓f_isi_int_bool, ↓f_isi_int_tuple, ↓f_isi_int_str, ↓f_isi_int_list, ↓f_isi_bool_int, ↓f_isi_bool_bool, ↓f_isi_bool_tuple, ↓f_isi_bool_str, ↓f_isi_bool_list, ↓f_isi_tuple_int, ↓f_isi_tuple_bool, ↓f_isi_tuple_tuple, ↓f_isi_tuple_str, ↓f_isi_tuple_list, ↓f_isi_str_int, ↓f_isi_str_bool, ↓f_isi_str_tuple, ↓f_isi_str_str, ↓f_isi_str_list, ↓f_isi_list_int, ↓f_isi_list_bool, ↓f_isi_list_tuple, ↓f_isi_list_str, ↓f_isi_list_list, ↓h_pop, ↓h_pop0, ↓f_rngI, ↓f_ixl0, ↓f_ixl1, ↓f_ixl2, ↓f_ixl3, ↓f_ixl4, ↓f_ixl5, ↓f_ixt0, ↓f_ixt1, ↓f_ixt2, ↓f_ixt3, ↓f_ixt4, ↓f_ixt5, ↓f_sd0, ↓f_sd1, ↓f_sd2, ↓f_sd3, ↓f_sd4, ↓f_sd5, nd_none, nd_bool, nd_int, nd_str, nd_list, nd_tuple, ↓f_eqS s_kind s_kind, beq_self_eq_true]
        have hk := kind_of_eq hn hsm okT (Nat.lt_of_le_of_lt dT (by decide)) hlf (a := .tuple [.tuple [.str "wa", .tuple []]]) rfl
        simp only [eq_self, Int.reduceLT, Int.reduceLE, Nat.reduceLT, Nat.reduceLeDiff, Int.reduceToNat, Int.toNat_natCast, ↓ws_seq, ↓sq_nx, ↓sq_rt, ↓sq_rf, ↓sq_bk, ↓sq_ct, ↓lq_nx, ↓lq_ct, ↓lq_bk, ↓lq_rt, ↓lq_rf, ↓ou_nx, ↓ou_rt, ↓ou_rf, ↓ws_next, ↓ws_break, ↓ws_cont, ↓ws_retNone, ↓ws_drop, ↓ws_ret, ↓ws_retF, ↓ws_set, ↓ws_setF, ↓rn_st, ↓rn_ow, ↓ws_retN, ↓sn_st, ↓sn_ow, ↓ws_setN, ↓ite_t, ↓ite_f, ↓ws_if, ↓ws_asg, ↓ws_store, ↓ws_aug, ↓ws_for, ↓ws_while, ↓we_c, ↓we_n, ↓we_op, ↓we_int, ↓wv_nil, ↓wv_ex, ↓wv_nm, ↓re_nil, ↓re_ex, ↓re_nm, ↓st_st, ↓ow_ow, ↓lk_st, ↓lk_ow, ↓bo_bo, ↓in_in, ↓wt_test, ↓wt_tru, ↓tr_bo, ↓tr_in, ↓tr_li, ↓tr_tu, ↓tr_no, ↓wt_not, ↓wt_and, ↓wt_or, ↓we_and, ↓we_or, ↓we_not, ↓we_if, ↓di_nil, ↓di_1, ↓di_2, ↓di_3, ↓di_4, ↓di_5, ↓di_6, ↓di_7, ↓di_8, ↓di_9, ↓di_10, ↓di_11, ↓di_12, ↓we_tup, ↓we_lst, ↓wm_nil, ↓wm_cons, ↓wa_nil, ↓wa_ex, ↓wa_st, ↓wa_io, ↓fz_nil, ↓fz_ex, ↓fz_io, ↓fy_st, ↓fy_ow, ↓ar_nil, ↓ar_ex, ↓ar_st, ↓ar_io, ↓pu_nil, ↓pu_cons, ↓we_call, ij_nil, ij_ex, ij_st, ij_io, ↓wg_nm, ↓wg_tu, ↓wg_tl, ↓wgs_nil, ↓wgs_cons, ↓we_methS', ↓ls_li, ↓we_meth, ↓we_chain, ↓we_rg1, ↓we_dict0, ↓we_get, ↓isd_d, ↓we_get2, ↓ws_put, ↓we_val, ↓wi_seq, ↓wi_rng, ↓wi_enum, ↓fq_seqL, ↓fq_seqT, ↓wt_yes, ↓rs_nil, ↓rs_cons, ↓wp_nil, ↓wp_cons, ↓we_comp, ↓we_compD, ↓we_comp2, ↓we_sset, ↓we_lset, ↓we_rev, ↓rv_l, ↓rv_t, ↓f_zip, ↓iq_nil, ↓iq_cons, ↓get_0, ↓set_0, ↓slot_0, ↓fz_0, ↓get_1, ↓set_1, ↓slot_1, ↓fz_1, ↓get_2, ↓set_2, ↓slot_2, ↓fz_2, ↓get_3, ↓set_3, ↓slot_3, ↓fz_3, ↓get_4, ↓set_4, ↓slot_4, ↓fz_4, ↓get_5, ↓set_5, ↓slot_5, ↓fz_5, ↓get_6, ↓set_6, ↓slot_6, ↓fz_6, ↓get_7, ↓set_7, ↓slot_7, ↓fz_7, ↓get_8, ↓set_8, ↓slot_8, ↓fz_8, ↓get_9, ↓set_9, ↓slot_9, ↓fz_9, ↓get_10, ↓set_10, ↓slot_10, ↓fz_10, ↓get_11, ↓set_11, ↓slot_11, ↓fz_11, ↓get_12, ↓set_12, ↓slot_12, ↓fz_12, ↓get_13, ↓set_13, ↓slot_13, ↓fz_13, ↓get_14, ↓set_14, ↓slot_14, ↓fz_14, ↓get_15, ↓set_15, ↓slot_15, ↓fz_15, ↓get_16, ↓set_16, ↓slot_16, ↓fz_16, ↓get_17, ↓set_17, ↓slot_17, ↓fz_17, ↓get_18, ↓set_18, ↓slot_18, ↓fz_18, ↓get_19, ↓set_19, ↓slot_19, ↓fz_19, ↓get_20, ↓set_20, ↓slot_20, ↓fz_20, ↓get_21, ↓set_21, ↓slot_21, ↓fz_21, ↓get_22, ↓set_22, ↓slot_22, ↓fz_22, ↓get_23, ↓set_23, ↓slot_23, ↓fz_23, ↓get_24, ↓set_24, ↓slot_24, ↓fz_24, ↓get_25, ↓set_25, ↓slot_25, ↓fz_25, ↓f_sub, ↓f_lt, ↓f_le, ↓f_gt, ↓f_ge, ↓f_add, ↓f_mod, ↓f_fdiv, ↓f_mulL, ↓f_mulR, ↓f_neg, ↓f_abs, ↓f_intI, ↓f_intB, ↓f_lenL, ↓f_lenT, ↓f_tupL, ↓f_tupT, ↓f_lisL, ↓f_lisT, ↓f_isB, ↓f_isNotB, ↓f_isN, ↓f_isNotN, ↓f_all, ↓f_any, ↓f_sum, ↓f_isi_int_int, ↓f_isi_int_bool, ↓f_isi_int_tuple, ↓f_isi_int_str, ↓f_isi_int_list, ↓f_isi_bool_int, ↓f_isi_bool_bool, ↓f_isi_bool_tuple, ↓f_isi_bool_str, ↓f_isi_bool_list, ↓f_isi_tuple_int, ↓f_isi_tuple_bool, ↓f_isi_tuple_tuple, ↓f_isi_tuple_str, ↓f_isi_tuple_list, ↓f_isi_str_int, ↓f_isi_str_bool, ↓f_isi_str_tuple, ↓f_isi_str_str, ↓f_isi_str_list, ↓f_isi_list_int, ↓f_isi_list_bool, ↓f_isi_list_tuple, ↓f_isi_list_str, ↓f_isi_list_list, ↓h_pop, ↓h_pop0, ↓f_rngI, ↓f_ixl0, ↓f_ixl1, ↓f_ixl2, ↓f_ixl3, ↓f_ixl4, ↓f_ixl5, ↓f_ixt0, ↓f_ixt1, ↓f_ixt2, ↓f_ixt3, ↓f_ixt4, ↓f_ixt5, ↓f_sd0, ↓f_sd1, ↓f_sd2, ↓f_sd3, ↓f_sd4, ↓f_sd5, nd_none, nd_bool, nd_int, nd_str, nd_list, nd_tuple, ↓WF.of hk, w_isint, ↓q_nei, ne_eq, not_true_eq_false, decide_false]
        exact done _ _
    · obtain ⟨s, x6, x7, x8, x9, x10, x11, hx9, rfl⟩ := z
      exact ⟨_, _, _, _, _, _, _, _, _, _, _, hx9, rfl⟩
  · obtain ⟨s, x2, x3, x4, x5, x6, x7, x8, x9, x10, x11, hx9, rfl⟩ := z
    simp only [eq_self, Int.reduceLT, Int.reduceLE, Nat.reduceLT, Nat.reduceLeDiff, Int.reduceToNat, Int.toNat_natCast, ↓ws_seq, ↓sq_nx, ↓sq_rt, ↓sq_rf, ↓sq_bk, ↓sq_ct, ↓lq_nx, ↓lq_ct, ↓lq_bk, ↓lq_rt, ↓lq_rf, ↓ou_nx, ↓ou_rt, ↓ou_rf, ↓ws_next, ↓ws_break, ↓ws_cont, ↓ws_retNone, ↓ws_drop, ↓ws_ret, ↓ws_retF, ↓ws_set, ↓ws_setF, ↓rn_st, ↓rn_ow, ↓ws_retN, ↓sn_st, ↓sn_ow, ↓ws_setN, ↓ite_t, ↓ite_f, ↓ws_if, ↓ws_asg, ↓ws_store, ↓ws_aug, ↓ws_for, ↓ws_while, ↓we_c, ↓we_n, ↓we_op, ↓we_int, ↓wv_nil, ↓wv_ex, ↓wv_nm, ↓re_nil, ↓re_ex, ↓re_nm, ↓st_st, ↓ow_ow, ↓lk_st, ↓lk_ow, ↓bo_bo, ↓in_in, ↓wt_test, ↓wt_tru, ↓tr_bo, ↓tr_in, ↓tr_li, ↓tr_tu, ↓tr_no, ↓wt_not, ↓wt_and, ↓wt_or, ↓we_and, ↓we_or, ↓we_not, ↓we_if, ↓di_nil, ↓di_1, ↓di_2, ↓di_3, ↓di_4, ↓di_5, ↓di_6, ↓di_7, ↓di_8, ↓di_9, ↓di_10, ↓di_11, ↓di_12, ↓we_tup, ↓we_lst, ↓wm_nil, ↓wm_cons, ↓wa_nil, ↓wa_ex, ↓wa_st, ↓wa_io, ↓fz_nil, ↓fz_ex, ↓fz_io, ↓fy_st, ↓fy_ow, ↓ar_nil, ↓ar_ex, ↓ar_st, ↓ar_io, ↓pu_nil, ↓pu_cons, ↓we_call, ij_nil, ij_ex, ij_st, ij_io, ↓wg_nm, ↓wg_tu, ↓wg_tl, ↓wgs_nil, ↓wgs_cons, ↓we_methS', ↓ls_li, ↓we_meth, ↓we_chain, ↓we_rg1, ↓we_dict0, ↓we_get, ↓isd_d, ↓we_get2, ↓ws_put, ↓we_val, ↓wi_seq, ↓wi_rng, ↓wi_enum, ↓fq_seqL, ↓fq_seqT, ↓wt_yes, ↓rs_nil, ↓rs_cons, ↓wp_nil, ↓wp_cons, ↓we_comp, ↓we_compD, ↓we_comp2, ↓we_sset, ↓we_lset, ↓we_rev, ↓rv_l, ↓rv_t, ↓f_zip, ↓iq_nil, ↓iq_cons, ↓get_0, ↓set_0, ↓slot_0, ↓fz_0, ↓get_1, ↓set_1, ↓slot_1, ↓fz_1, ↓get_2, ↓set_2, ↓slot_2, ↓fz_2, ↓get_3, ↓set_3, ↓slot_3, ↓fz_3, ↓get_4, ↓set_4, ↓slot_4, ↓fz_4, ↓get_5, ↓set_5, ↓slot_5, ↓fz_5, ↓get_6, ↓set_6, ↓slot_6, ↓fz_6, ↓get_7, ↓set_7, ↓slot_7, ↓fz_7, ↓get_8, ↓set_8, ↓slot_8, ↓fz_8, ↓get_9, ↓set_9, ↓slot_9, ↓fz_9, ↓get_10, ↓set_10, ↓slot_10, ↓fz_10, ↓get_11, ↓set_11, ↓slot_11, ↓fz_11, ↓get_12, ↓set_12, ↓slot_12, ↓fz_12, ↓get_13, ↓set_13, ↓slot_13, ↓fz_13, ↓get_14, ↓set_14, ↓slot_14, ↓fz_14, ↓get_15, ↓set_15, ↓slot_15, ↓fz_15, ↓get_16, ↓set_16, ↓slot_16, ↓fz_16, ↓get_17, ↓set_17, ↓slot_17, ↓fz_17, ↓get_18, ↓set_18, ↓slot_18, ↓fz_18, ↓get_19, ↓set_19, ↓slot_19, ↓fz_19, ↓get_20, ↓set_20, ↓slot_20, ↓fz_20, ↓get_21, ↓set_21, ↓slot_21, ↓fz_21, ↓get_22, ↓set_22, ↓slot_22, ↓fz_22, ↓get_23, ↓set_23, ↓slot_23, ↓fz_23, ↓get_24, ↓set_24, ↓slot_24, ↓fz_24, ↓get_25, ↓set_25, ↓slot_25, ↓fz_25, ↓f_sub, ↓f_lt, ↓f_le, ↓f_gt, ↓f_ge, ↓f_add, ↓f_mod, ↓f_fdiv, ↓f_mulL, ↓f_mulR, ↓f_neg, ↓f_abs, ↓f_intI, ↓f_intB, ↓f_lenL, ↓f_lenT, ↓f_tupL, ↓f_tupT, ↓f_lisL, ↓f_lisT, ↓f_isB, ↓f_isNotB, ↓f_isN, ↓f_isNotN, ↓f_all, ↓f_any, ↓f_sum, ↓f_isi_int_int, ↓f_isi_int_bool, ↓f_isi_int_tuple, ↓f_isi_int_str, ↓f_isi_int_list, ↓f_isi_bool_int, ↓f_isi_bool_bool, ↓f_isi_bool_tuple, ↓f_isi_bool_str, ↓f_isi_bool_list, ↓f_isi_tuple_int, ↓f_isi_tuple_bool, ↓f_isi_tuple_tuple, ↓f_isi_tuple_str, ↓f_isi_tuple_list, ↓f_isi_str_int, ↓f_isi_str_bool, ↓f_isi_str_tuple, ↓f_isi_str_str, ↓f_isi_str_list, ↓f_isi_list_int, ↓f_isi_list_bool, ↓f_isi_list_tuple, ↓f_isi_list_str, ↓f_isi_list_list, ↓h_pop, ↓h_pop0, ↓f_rngI, ↓f_ixl0, ↓f_ixl1, ↓f_ixl2, ↓f_ixl3, ↓f_ixl4, ↓f_ixl5, ↓f_ixt0, ↓f_ixt1, ↓f_ixt2, ↓f_ixt3, ↓f_ixt4, ↓f_ixt5, ↓f_sd0, ↓f_sd1, ↓f_sd2, ↓f_sd3, ↓f_sd4, ↓f_sd5, nd_none, nd_bool, nd_int, nd_str, nd_list, nd_tuple]
    exact ⟨trivial, trivial⟩)
end Gk03

set_option Elab.async false
set_option linter.all false
set_option maxRecDepth 100000
namespace Gk03
open PySem PySem.Spec PyProof.Rows L2 VS
theorem facts_mk {K : Frag'} {h : Heap} {mg : Str → Option Value} (X : K.In h) (G : h.Ns mainGlobals mg)
    {f0 : Addr} {od0 an0 : Option Addr} {sl0 : Array (Option Value)} {oc0 kV0 dc0 pm0 cd0 ct0 : Value}
    {f1 : Addr} {od1 an1 : Option Addr} {sl1 : Array (Option Value)} {oc1 kV1 dc1 pm1 cd1 ct1 : Value}
    {f2 : Addr} {od2 an2 : Option Addr} {sl2 : Array (Option Value)} {oc2 kV2 dc2 pm2 cd2 ct2 : Value}
    {f3 : Addr} {od3 an3 : Option Addr} {sl3 : Array (Option Value)} {oc3 kV3 dc3 pm3 cd3 ct3 : Value}
    {f4 : Addr} {od4 an4 : Option Addr} {sl4 : Array (Option Value)} {oc4 kV4 dc4 pm4 cd4 ct4 : Value}
    {f5 : Addr} {od5 an5 : Option Addr} {sl5 : Array (Option Value)} {oc5 kV5 dc5 pm5 cd5 ct5 : Value}
    {f6 : Addr} {od6 an6 : Option Addr} {sl6 : Array (Option Value)} {oc6 kV6 dc6 pm6 cd6 ct6 : Value}
    {f7 : Addr} {od7 an7 : Option Addr} {sl7 : Array (Option Value)} {oc7 kV7 dc7 pm7 cd7 ct7 : Value}
    {f8 : Addr} {od8 an8 : Option Addr} {sl8 : Array (Option Value)} {oc8 kV8 dc8 pm8 cd8 ct8 : Value}
    {f9 : Addr} {od9 an9 : Option Addr} {sl9 : Array (Option Value)} {oc9 kV9 dc9 pm9 cd9 ct9 : Value}
    {f10 : Addr} {od10 an10 : Option Addr} {sl10 : Array (Option Value)} {oc10 kV10 dc10 pm10 cd10 ct10 : Value}
    (a0 : PySem.W.nsIn K mainGlobals "value" = some (some (.ref f0)))
    (l0 : K.lookup f0 = some ⟨oc0, od0, .func (PySem.W.fnOf "value" "value" (defArgs s_value) (defBody s_value) (defScope s_value) .none kV0 dc0 pm0 an0 cd0 ct0), sl0⟩)
    (c0 : PySem.W.codeIn K cd0 "value" = true) (k0 : PySem.W.keepIn K (.ref f0) = true)
    (a1 : PySem.W.nsIn K mainGlobals "state_names" = some (some (.ref f1)))
    (l1 : K.lookup f1 = some ⟨oc1, od1, .func (PySem.W.fnOf "state_names" "state_names" (defArgs s_state_names) (defBody s_state_names) (defScope s_state_names) .none kV1 dc1 pm1 an1 cd1 ct1), sl1⟩)
    (c1 : PySem.W.codeIn K cd1 "state_names" = true) (k1 : PySem.W.keepIn K (.ref f1) = true)
    (a2 : PySem.W.nsIn K mainGlobals "leaf_at" = some (some (.ref f2)))
    (l2 : K.lookup f2 = some ⟨oc2, od2, .func (PySem.W.fnOf "leaf_at" "leaf_at" (defArgs s_leaf_at) (defBody s_leaf_at) (defScope s_leaf_at) .none kV2 dc2 pm2 an2 cd2 ct2), sl2⟩)
    (c2 : PySem.W.codeIn K cd2 "leaf_at" = true) (k2 : PySem.W.keepIn K (.ref f2) = true)
    (a3 : PySem.W.nsIn K mainGlobals "kind_of" = some (some (.ref f3)))
    (l3 : K.lookup f3 = some ⟨oc3, od3, .func (PySem.W.fnOf "kind_of" "kind_of" (defArgs s_kind_of) (defBody s_kind_of) (defScope s_kind_of) .none kV3 dc3 pm3 an3 cd3 ct3), sl3⟩)
    (c3 : PySem.W.codeIn K cd3 "kind_of" = true) (k3 : PySem.W.keepIn K (.ref f3) = true)
    (a4 : PySem.W.nsIn K mainGlobals "_law_start" = some (some (.ref f4)))
    (l4 : K.lookup f4 = some ⟨oc4, od4, .func (PySem.W.fnOf "_law_start" "_law_start" (defArgs s_law_start) (defBody s_law_start) (defScope s_law_start) .none kV4 dc4 pm4 an4 cd4 ct4), sl4⟩)
    (c4 : PySem.W.codeIn K cd4 "_law_start" = true) (k4 : PySem.W.keepIn K (.ref f4) = true)
    (a5 : PySem.W.nsIn K mainGlobals "_law_draw" = some (some (.ref f5)))
    (l5 : K.lookup f5 = some ⟨oc5, od5, .func (PySem.W.fnOf "_law_draw" "_law_draw" (defArgs s_law_draw) (defBody s_law_draw) (defScope s_law_draw) .none kV5 dc5 pm5 an5 cd5 ct5), sl5⟩)
    (c5 : PySem.W.codeIn K cd5 "_law_draw" = true) (k5 : PySem.W.keepIn K (.ref f5) = true)
    (a6 : PySem.W.nsIn K mainGlobals "_law_is_int" = some (some (.ref f6)))
    (l6 : K.lookup f6 = some ⟨oc6, od6, .func (PySem.W.fnOf "_law_is_int" "_law_is_int" (defArgs s_law_is_int) (defBody s_law_is_int) (defScope s_law_is_int) .none kV6 dc6 pm6 an6 cd6 ct6), sl6⟩)
    (c6 : PySem.W.codeIn K cd6 "_law_is_int" = true) (k6 : PySem.W.keepIn K (.ref f6) = true)
    (a7 : PySem.W.nsIn K mainGlobals "_law_form" = some (some (.ref f7)))
    (l7 : K.lookup f7 = some ⟨oc7, od7, .func (PySem.W.fnOf "_law_form" "_law_form" (defArgs s_law_form) (defBody s_law_form) (defScope s_law_form) .none kV7 dc7 pm7 an7 cd7 ct7), sl7⟩)
    (c7 : PySem.W.codeIn K cd7 "_law_form" = true) (k7 : PySem.W.keepIn K (.ref f7) = true)
    (a8 : PySem.W.nsIn K mainGlobals "_law_tree" = some (some (.ref f8)))
    (l8 : K.lookup f8 = some ⟨oc8, od8, .func (PySem.W.fnOf "_law_tree" "_law_tree" (defArgs s_law_tree) (defBody s_law_tree) (defScope s_law_tree) .none kV8 dc8 pm8 an8 cd8 ct8), sl8⟩)
    (c8 : PySem.W.codeIn K cd8 "_law_tree" = true) (k8 : PySem.W.keepIn K (.ref f8) = true)
    (a9 : PySem.W.nsIn K mainGlobals "_law_leaf" = some (some (.ref f9)))
    (l9 : K.lookup f9 = some ⟨oc9, od9, .func (PySem.W.fnOf "_law_leaf" "_law_leaf" (defArgs s_law_leaf) (defBody s_law_leaf) (defScope s_law_leaf) .none kV9 dc9 pm9 an9 cd9 ct9), sl9⟩)
    (c9 : PySem.W.codeIn K cd9 "_law_leaf" = true) (k9 : PySem.W.keepIn K (.ref f9) = true)
    (a10 : PySem.W.nsIn K mainGlobals "law" = some (some (.ref f10)))
    (l10 : K.lookup f10 = some ⟨oc10, od10, .func (PySem.W.fnOf "law" "law" (defArgs s_law) (defBody s_law) (defScope s_law) .none kV10 dc10 pm10 an10 cd10 ct10), sl10⟩)
    (c10 : PySem.W.codeIn K cd10 "law" = true) (k10 : PySem.W.keepIn K (.ref f10) = true)
    (z0 : PySem.W.nsIn K mainGlobals "abs" = some none)
    (z1 : PySem.W.nsIn K mainGlobals "bool" = some none)
    (z2 : PySem.W.nsIn K mainGlobals "int" = some none)
    (z3 : PySem.W.nsIn K mainGlobals "isinstance" = some none)
    (z4 : PySem.W.nsIn K mainGlobals "len" = some none)
    (z5 : PySem.W.nsIn K mainGlobals "list" = some none)
    (z6 : PySem.W.nsIn K mainGlobals "range" = some none)
    (z7 : PySem.W.nsIn K mainGlobals "sorted" = some none)
    (z8 : PySem.W.nsIn K mainGlobals "str" = some none)
    (z9 : PySem.W.nsIn K mainGlobals "sum" = some none)
    (z10 : PySem.W.nsIn K mainGlobals "tuple" = some none)
    (z11 : PySem.W.nsIn K mainGlobals "zip" = some none)
    {t0 : Tok} (q0 : PySem.W.nsIn K mainGlobals "TEST" = some (some (.str "test" t0)))
    : Facts K mg := by
  refine { b := ?_, d_value := ?d0, d_state_names := ?d1, d_leaf_at := ?d2, d_kind_of := ?d3, d_law_start := ?d4, d_law_draw := ?d5, d_law_is_int := ?d6, d_law_form := ?d7, d_law_tree := ?d8, d_law_leaf := ?d9, d_law := ?d10, c_TEST := ⟨_, PySem.W.mg_of X G q0⟩ }
  · intro y hy
    simp only [List.mem_cons, List.not_mem_nil, or_false] at hy
    rcases hy with rfl | rfl | rfl | rfl | rfl | rfl | rfl | rfl | rfl | rfl | rfl | rfl
    · exact PySem.W.mg_none_of X G z0
    · exact PySem.W.mg_none_of X G z1
    · exact PySem.W.mg_none_of X G z2
    · exact PySem.W.mg_none_of X G z3
    · exact PySem.W.mg_none_of X G z4
    · exact PySem.W.mg_none_of X G z5
    · exact PySem.W.mg_none_of X G z6
    · exact PySem.W.mg_none_of X G z7
    · exact PySem.W.mg_none_of X G z8
    · exact PySem.W.mg_none_of X G z9
    · exact PySem.W.mg_none_of X G z10
    · exact PySem.W.mg_none_of X G z11
  case d0 =>
    have F := fun_mk (st := s_value) l0 c0 k0
    exact ⟨_, _, PySem.W.mg_of X G a0, F, F.binds fun _ _ _ _ _ _ us hl => match us, hl with | [_, _], _ => rfl⟩
  case d1 =>
    have F := fun_mk (st := s_state_names) l1 c1 k1
    exact ⟨_, _, PySem.W.mg_of X G a1, F, F.binds fun _ _ _ _ _ _ us hl => match us, hl with | [_], _ => rfl⟩
  case d2 =>
    have F := fun_mk (st := s_leaf_at) l2 c2 k2
    exact ⟨_, _, PySem.W.mg_of X G a2, F, F.binds fun _ _ _ _ _ _ us hl => match us, hl with | [_, _], _ => rfl⟩
  case d3 =>
    have F := fun_mk (st := s_kind_of) l3 c3 k3
    exact ⟨_, _, PySem.W.mg_of X G a3, F, F.binds fun _ _ _ _ _ _ us hl => match us, hl with | [_, _, _], _ => rfl⟩
  case d4 =>
    have F := fun_mk (st := s_law_start) l4 c4 k4
    exact ⟨_, _, PySem.W.mg_of X G a4, F, F.binds fun _ _ _ _ _ _ us hl => match us, hl with | [_], _ => rfl⟩
  case d5 =>
    have F := fun_mk (st := s_law_draw) l5 c5 k5
    exact ⟨_, _, PySem.W.mg_of X G a5, F, F.binds fun _ _ _ _ _ _ us hl => match us, hl with | [_, _], _ => rfl⟩
  case d6 =>
    have F := fun_mk (st := s_law_is_int) l6 c6 k6
    exact ⟨_, _, PySem.W.mg_of X G a6, F, F.binds fun _ _ _ _ _ _ us hl => match us, hl with | [_], _ => rfl⟩
  case d7 =>
    have F := fun_mk (st := s_law_form) l7 c7 k7
    exact ⟨_, _, PySem.W.mg_of X G a7, F, F.binds fun _ _ _ _ _ _ us hl => match us, hl with | [_, _], _ => rfl⟩
  case d8 =>
    have F := fun_mk (st := s_law_tree) l8 c8 k8
    exact ⟨_, _, PySem.W.mg_of X G a8, F, F.binds fun _ _ _ _ _ _ us hl => match us, hl with | [_, _, _], _ => rfl⟩
  case d9 =>
    have F := fun_mk (st := s_law_leaf) l9 c9 k9
    exact ⟨_, _, PySem.W.mg_of X G a9, F, F.binds fun _ _ _ _ _ _ us hl => match us, hl with | [_, _], _ => rfl⟩
  case d10 =>
    have F := fun_mk (st := s_law) l10 c10 k10
    exact ⟨_, _, PySem.W.mg_of X G a10, F, F.binds fun _ _ _ _ _ _ us hl => match us, hl with | [_], _ => rfl⟩
theorem all_mk {P : Program} {w : World} {K : Frag'} {h : Heap} {mg : Str → Option Value} {fa : Addr} (X : K.In h) (G : h.Ns mainGlobals mg) (hfa : mg "law" = some (.ref fa))
    {f0 : Addr} {od0 an0 : Option Addr} {sl0 : Array (Option Value)} {oc0 kV0 dc0 pm0 cd0 ct0 : Value}
    {f1 : Addr} {od1 an1 : Option Addr} {sl1 : Array (Option Value)} {oc1 kV1 dc1 pm1 cd1 ct1 : Value}
    {f2 : Addr} {od2 an2 : Option Addr} {sl2 : Array (Option Value)} {oc2 kV2 dc2 pm2 cd2 ct2 : Value}
    {f3 : Addr} {od3 an3 : Option Addr} {sl3 : Array (Option Value)} {oc3 kV3 dc3 pm3 cd3 ct3 : Value}
    {f4 : Addr} {od4 an4 : Option Addr} {sl4 : Array (Option Value)} {oc4 kV4 dc4 pm4 cd4 ct4 : Value}
    {f5 : Addr} {od5 an5 : Option Addr} {sl5 : Array (Option Value)} {oc5 kV5 dc5 pm5 cd5 ct5 : Value}
    {f6 : Addr} {od6 an6 : Option Addr} {sl6 : Array (Option Value)} {oc6 kV6 dc6 pm6 cd6 ct6 : Value}
    {f7 : Addr} {od7 an7 : Option Addr} {sl7 : Array (Option Value)} {oc7 kV7 dc7 pm7 cd7 ct7 : Value}
    {f8 : Addr} {od8 an8 : Option Addr} {sl8 : Array (Option Value)} {oc8 kV8 dc8 pm8 cd8 ct8 : Value}
    {f9 : Addr} {od9 an9 : Option Addr} {sl9 : Array (Option Value)} {oc9 kV9 dc9 pm9 cd9 ct9 : Value}
    {f10 : Addr} {od10 an10 : Option Addr} {sl10 : Array (Option Value)} {oc10 kV10 dc10 pm10 cd10 ct10 : Value}
    (a0 : PySem.W.nsIn K mainGlobals "value" = some (some (.ref f0)))
    (l0 : K.lookup f0 = some ⟨oc0, od0, .func (PySem.W.fnOf "value" "value" (defArgs s_value) (defBody s_value) (defScope s_value) .none kV0 dc0 pm0 an0 cd0 ct0), sl0⟩)
    (c0 : PySem.W.codeIn K cd0 "value" = true) (k0 : PySem.W.keepIn K (.ref f0) = true)
    (a1 : PySem.W.nsIn K mainGlobals "state_names" = some (some (.ref f1)))
    (l1 : K.lookup f1 = some ⟨oc1, od1, .func (PySem.W.fnOf "state_names" "state_names" (defArgs s_state_names) (defBody s_state_names) (defScope s_state_names) .none kV1 dc1 pm1 an1 cd1 ct1), sl1⟩)
    (c1 : PySem.W.codeIn K cd1 "state_names" = true) (k1 : PySem.W.keepIn K (.ref f1) = true)
    (a2 : PySem.W.nsIn K mainGlobals "leaf_at" = some (some (.ref f2)))
    (l2 : K.lookup f2 = some ⟨oc2, od2, .func (PySem.W.fnOf "leaf_at" "leaf_at" (defArgs s_leaf_at) (defBody s_leaf_at) (defScope s_leaf_at) .none kV2 dc2 pm2 an2 cd2 ct2), sl2⟩)
    (c2 : PySem.W.codeIn K cd2 "leaf_at" = true) (k2 : PySem.W.keepIn K (.ref f2) = true)
    (a3 : PySem.W.nsIn K mainGlobals "kind_of" = some (some (.ref f3)))
    (l3 : K.lookup f3 = some ⟨oc3, od3, .func (PySem.W.fnOf "kind_of" "kind_of" (defArgs s_kind_of) (defBody s_kind_of) (defScope s_kind_of) .none kV3 dc3 pm3 an3 cd3 ct3), sl3⟩)
    (c3 : PySem.W.codeIn K cd3 "kind_of" = true) (k3 : PySem.W.keepIn K (.ref f3) = true)
    (a4 : PySem.W.nsIn K mainGlobals "_law_start" = some (some (.ref f4)))
    (l4 : K.lookup f4 = some ⟨oc4, od4, .func (PySem.W.fnOf "_law_start" "_law_start" (defArgs s_law_start) (defBody s_law_start) (defScope s_law_start) .none kV4 dc4 pm4 an4 cd4 ct4), sl4⟩)
    (c4 : PySem.W.codeIn K cd4 "_law_start" = true) (k4 : PySem.W.keepIn K (.ref f4) = true)
    (a5 : PySem.W.nsIn K mainGlobals "_law_draw" = some (some (.ref f5)))
    (l5 : K.lookup f5 = some ⟨oc5, od5, .func (PySem.W.fnOf "_law_draw" "_law_draw" (defArgs s_law_draw) (defBody s_law_draw) (defScope s_law_draw) .none kV5 dc5 pm5 an5 cd5 ct5), sl5⟩)
    (c5 : PySem.W.codeIn K cd5 "_law_draw" = true) (k5 : PySem.W.keepIn K (.ref f5) = true)
    (a6 : PySem.W.nsIn K mainGlobals "_law_is_int" = some (some (.ref f6)))
    (l6 : K.lookup f6 = some ⟨oc6, od6, .func (PySem.W.fnOf "_law_is_int" "_law_is_int" (defArgs s_law_is_int) (defBody s_law_is_int) (defScope s_law_is_int) .none kV6 dc6 pm6 an6 cd6 ct6), sl6⟩)
    (c6 : PySem.W.codeIn K cd6 "_law_is_int" = true) (k6 : PySem.W.keepIn K (.ref f6) = true)
    (a7 : PySem.W.nsIn K mainGlobals "_law_form" = some (some (.ref f7)))
    (l7 : K.lookup f7 = some ⟨oc7, od7, .func (PySem.W.fnOf "_law_form" "_law_form" (defArgs s_law_form) (defBody s_law_form) (defScope s_law_form) .none kV7 dc7 pm7 an7 cd7 ct7), sl7⟩)
    (c7 : PySem.W.codeIn K cd7 "_law_form" = true) (k7 : PySem.W.keepIn K (.ref f7) = true)
    (a8 : PySem.W.nsIn K mainGlobals "_law_tree" = some (some (.ref f8)))
    (l8 : K.lookup f8 = some ⟨oc8, od8, .func (PySem.W.fnOf "_law_tree" "_law_tree" (defArgs s_law_tree) (defBody s_law_tree) (defScope s_law_tree) .none kV8 dc8 pm8 an8 cd8 ct8), sl8⟩)
    (c8 : PySem.W.codeIn K cd8 "_law_tree" = true) (k8 : PySem.W.keepIn K (.ref f8) = true)
    (a9 : PySem.W.nsIn K mainGlobals "_law_leaf" = some (some (.ref f9)))
    (l9 : K.lookup f9 = some ⟨oc9, od9, .func (PySem.W.fnOf "_law_leaf" "_law_leaf" (defArgs s_law_leaf) (defBody s_law_leaf) (defScope s_law_leaf) .none kV9 dc9 pm9 an9 cd9 ct9), sl9⟩)
    (c9 : PySem.W.codeIn K cd9 "_law_leaf" = true) (k9 : PySem.W.keepIn K (.ref f9) = true)
    (a10 : PySem.W.nsIn K mainGlobals "law" = some (some (.ref f10)))
    (l10 : K.lookup f10 = some ⟨oc10, od10, .func (PySem.W.fnOf "law" "law" (defArgs s_law) (defBody s_law) (defScope s_law) .none kV10 dc10 pm10 an10 cd10 ct10), sl10⟩)
    (c10 : PySem.W.codeIn K cd10 "law" = true) (k10 : PySem.W.keepIn K (.ref f10) = true)
    (z0 : PySem.W.nsIn K mainGlobals "abs" = some none)
    (z1 : PySem.W.nsIn K mainGlobals "bool" = some none)
    (z2 : PySem.W.nsIn K mainGlobals "int" = some none)
    (z3 : PySem.W.nsIn K mainGlobals "isinstance" = some none)
    (z4 : PySem.W.nsIn K mainGlobals "len" = some none)
    (z5 : PySem.W.nsIn K mainGlobals "list" = some none)
    (z6 : PySem.W.nsIn K mainGlobals "range" = some none)
    (z7 : PySem.W.nsIn K mainGlobals "sorted" = some none)
    (z8 : PySem.W.nsIn K mainGlobals "str" = some none)
    (z9 : PySem.W.nsIn K mainGlobals "sum" = some none)
    (z10 : PySem.W.nsIn K mainGlobals "tuple" = some none)
    (z11 : PySem.W.nsIn K mainGlobals "zip" = some none)
    {t0 : Tok} (q0 : PySem.W.nsIn K mainGlobals "TEST" = some (some (.str "test" t0)))
    : ∃ fd : FuncData, (∀ (s : Shared) (u : Value), BindsTo s fd ⟨[u], []⟩ [("script", u)]) ∧ ∀ base : Heap, K.In base → base.Ns mainGlobals mg → FnOk P w K mg base CX0 13 fa fd ["script"] (spF K 1 [] false F_law) := by
  have Z : Facts K mg := facts_mk X G a0 l0 c0 k0 a1 l1 c1 k1 a2 l2 c2 k2 a3 l3 c3 k3 a4 l4 c4 k4 a5 l5 c5 k5 a6 l6 c6 k6 a7 l7 c7 k7 a8 l8 c8 k8 a9 l9 c9 k9 a10 l10 c10 k10 z0 z1 z2 z3 z4 z5 z6 z7 z8 z9 z10 z11 q0
  have e := hfa.symm.trans (PySem.W.mg_of X G a10)
  cases e
  exact ⟨_, fun s u => .of_eq rfl, fun base _ _ => ok_law Z (fun_mk (st := s_law) l10 c10 k10)⟩
end Gk03
open PySem PySem.W PyProof.Rows
set_option maxHeartbeats 0 in
theorem PySem.Challenge.cw_fewkinds_k03_kinds_by_trees_holds : PySem.Challenge.rw_fewkinds_k03_kinds_by_trees.Holds := by
  w_on; o_law; k_head; (case hw => w_witness2)
  k_fill
  refine L2.walk_ofK (l := PySem.Challenge.rw_fewkinds_k03_kinds_by_trees) (n := 63) (k := 13) (x := "script") (CX := L2.CX0) (sp := fun K => VS.spF K 1 [] false Gk03.F_law) rfl (by decide) rfl ⟨rfl, by decide, by decide⟩ (fun w h Y => PySem.W.kIn_of Y) ?F (fun K H a ns hl _ hS => VS.end_sp Gk03.law_true K H a ns hl hS) (fun _ _ _ _ h => h)
  case F =>
    intro w mg fa h KX G hmg
    refine' Gk03.all_mk KX G hmg ?a0 ?l0 ?c0 ?k0 ?a1 ?l1 ?c1 ?k1 ?a2 ?l2 ?c2 ?k2 ?a3 ?l3 ?c3 ?k3 ?a4 ?l4 ?c4 ?k4 ?a5 ?l5 ?c5 ?k5 ?a6 ?l6 ?c6 ?k6 ?a7 ?l7 ?c7 ?k7 ?a8 ?l8 ?c8 ?k8 ?a9 ?l9 ?c9 ?k9 ?a10 ?l10 ?c10 ?k10 ?z0 ?z1 ?z2 ?z3 ?z4 ?z5 ?z6 ?z7 ?z8 ?z9 ?z10 ?z11 ?q0
    (case a0 => k_is)
    (case l0 => k_is)
    (case c0 => k_is)
    (case k0 => k_is)
    (case a1 => k_is)
    (case l1 => k_is)
    (case c1 => k_is)
    (case k1 => k_is)
    (case a2 => k_is)
    (case l2 => k_is)
    (case c2 => k_is)
    (case k2 => k_is)
    (case a3 => k_is)
    (case l3 => k_is)
    (case c3 => k_is)
    (case k3 => k_is)
    (case a4 => k_is)
    (case l4 => k_is)
    (case c4 => k_is)
    (case k4 => k_is)
    (case a5 => k_is)
    (case l5 => k_is)
    (case c5 => k_is)
    (case k5 => k_is)
    (case a6 => k_is)
    (case l6 => k_is)
    (case c6 => k_is)
    (case k6 => k_is)
    (case a7 => k_is)
    (case l7 => k_is)
    (case c7 => k_is)
    (case k7 => k_is)
    (case a8 => k_is)
    (case l8 => k_is)
    (case c8 => k_is)
    (case k8 => k_is)
    (case a9 => k_is)
    (case l9 => k_is)
    (case c9 => k_is)
    (case k9 => k_is)
    (case a10 => k_is)
    (case l10 => k_is)
    (case c10 => k_is)
    (case k10 => k_is)
    (case z0 => k_is)
    (case z1 => k_is)
    (case z2 => k_is)
    (case z3 => k_is)
    (case z4 => k_is)
    (case z5 => k_is)
    (case z6 => k_is)
    (case z7 => k_is)
    (case z8 => k_is)
    (case z9 => k_is)
    (case z10 => k_is)
    (case z11 => k_is)
    (case q0 => k_is)
