import PyProof.Rows.All
import Wide.All
import OpenK.AllK
import Wide.FinOn
import HandS.ForMost
import HandS.ForExc
import PyProof.ReprReads
import HandS.TupAny
import HandS.TupLe
import HandS.TupMul
import HandS.Deep
import HandS.Flow
import HandS.IsInst
import HandS.Wide
import HandS.Style
import HandS.Text
import PyProof.ReprRoads
import HandS.WideBits
import HandS.More
import HandS.Dict
import KE.GoesNew
import KE.GoesMore
import PySem.Challenge.RW_partsight_k17_any_value_as_formula
set_option Elab.async false
set_option linter.all false
set_option maxRecDepth 100000
namespace Vl
open PySem PySem.Spec PyProof.Rows L2

abbrev D := PyData
abbrev Sg := L2.St

/-! ### data at a value: lists are tracked, tuples tracked or written; the script (frozen, never written) is told as a dict of none -/
def scr (ns : List Int) : List (D × D) := ns.map fun n => (.none, .int n)
mutual
def Dv (K : PySem.W.Frag) (H : Hp) : D → V → Prop
  | .none, v => v = .non
  | .bool b, v => v = .bl b
  | .int i, v => v = .int i
  | .str x, v => v = .str x
  | .list ds, v => ∃ a xs, v = .ref a ∧ H a = some (.lst xs) ∧ DvAll K H ds xs
  | .tuple ds, v => ∃ a xs, v = .ref a ∧ SqT K H a xs ∧ DvAll K H ds xs
  | .dict es, v => ∃ a ns, v = .ref a ∧ SqL K H a (ns.map V.int) ∧ es = scr ns
def DvAll (K : PySem.W.Frag) (H : Hp) : List D → List V → Prop
  | [], xs => xs = []
  | d :: ds, xs => ∃ x r, xs = x :: r ∧ Dv K H d x ∧ DvAll K H ds r
end

/-- H' has all of H -/
def Ext (H H' : Hp) : Prop := ∀ a o, H a = some o → H' a = some o
theorem Ext.refl (H : Hp) : Ext H H := fun _ _ h => h
theorem Ext.trans {H H1 H2 : Hp} (a : Ext H H1) (b : Ext H1 H2) : Ext H H2 := fun c o h => b c o (a c o h)
theorem Ext.upd {H : Hp} {p : Addr} {o : HO} (h : H p = none) : Ext H (upd H p o) := fun a u e => by
  rw [upd_ne (ne_of_none e h)]; exact e
theorem Ext.free {H H' : Hp} (e : Ext H H') {p : Addr} (h : H' p = none) : H p = none := by
  cases q : H p with
  | none => rfl
  | some o => rw [e p o q] at h; cases h
theorem Ext.sqT {K : PySem.W.Frag} {H H' : Hp} {a : Addr} {xs : List V} (e : Ext H H') (h : SqT K H a xs) : SqT K H' a xs := by
  rcases h with (h | ⟨o, h⟩) | h
  · exact .inl (.inl (e _ _ h))
  · exact .inl (.inr ⟨o, e _ _ h⟩)
  · exact .inr h

theorem Ext.sqL {K : PySem.W.Frag} {H H' : Hp} {a : Addr} {xs : List V} (e : Ext H H') (h : SqL K H a xs) : SqL K H' a xs := by
  rcases h with (h | ⟨o, h⟩) | h
  · exact .inl (.inl (e _ _ h))
  · exact .inl (.inr ⟨o, e _ _ h⟩)
  · exact .inr h
mutual
theorem Dv.ext {K : PySem.W.Frag} {H H' : Hp} (e : Ext H H') : ∀ (d : D) (v : V), Dv K H d v → Dv K H' d v
  | .none, _, h => by simp only [Dv] at h ⊢; exact h
  | .bool _, _, h => by simp only [Dv] at h ⊢; exact h
  | .int _, _, h => by simp only [Dv] at h ⊢; exact h
  | .str _, _, h => by simp only [Dv] at h ⊢; exact h
  | .list ds, _, h => by
    simp only [Dv] at h ⊢
    obtain ⟨a, xs, e1, e2, e3⟩ := h
    exact ⟨a, xs, e1, e _ _ e2, DvAll.ext e ds xs e3⟩
  | .tuple ds, _, h => by
    simp only [Dv] at h ⊢
    obtain ⟨a, xs, e1, e2, e3⟩ := h
    exact ⟨a, xs, e1, e.sqT e2, DvAll.ext e ds xs e3⟩
  | .dict _, _, h => by
    simp only [Dv] at h ⊢
    obtain ⟨a, ns, e1, e2, e3⟩ := h
    exact ⟨a, ns, e1, e.sqL e2, e3⟩
theorem DvAll.ext {K : PySem.W.Frag} {H H' : Hp} (e : Ext H H') : ∀ (ds : List D) (xs : List V), DvAll K H ds xs → DvAll K H' ds xs
  | [], _, h => by simp only [DvAll] at h ⊢; exact h
  | d :: ds, _, h => by
    simp only [DvAll] at h ⊢
    obtain ⟨x, r, e1, e2, e3⟩ := h
    exact ⟨x, r, e1, Dv.ext e d x e2, DvAll.ext e ds r e3⟩
end

theorem DvAll.length {K : PySem.W.Frag} {H : Hp} : ∀ {ds : List D} {xs : List V}, DvAll K H ds xs → ds.length = xs.length
  | [], _, h => by simp only [DvAll] at h; subst h; rfl
  | d :: ds, _, h => by
    simp only [DvAll] at h
    obtain ⟨x, r, rfl, _, e3⟩ := h
    rw [List.length_cons, List.length_cons, DvAll.length e3]
theorem DvAll.get {K : PySem.W.Frag} {H : Hp} : ∀ {ds : List D} {xs : List V} {i : Nat} {d : D}, DvAll K H ds xs → ds[i]? = some d → ∃ x, xs[i]? = some x ∧ Dv K H d x
  | [], _, _, _, _, e => by simp at e
  | d :: ds, _, 0, d', h, e => by
    simp only [DvAll] at h
    obtain ⟨x, r, rfl, e2, _⟩ := h
    simp at e; subst e
    exact ⟨x, by simp, e2⟩
  | d :: ds, _, i + 1, d', h, e => by
    simp only [DvAll] at h
    obtain ⟨x, r, rfl, _, e3⟩ := h
    obtain ⟨y, h1, h2⟩ := DvAll.get (i := i) e3 (by simpa using e)
    exact ⟨y, by simpa using h1, h2⟩
theorem DvAll.append {K : PySem.W.Frag} {H : Hp} : ∀ {ds es : List D} {xs ys : List V}, DvAll K H ds xs → DvAll K H es ys → DvAll K H (ds ++ es) (xs ++ ys)
  | [], _, _, _, h, h' => by simp only [DvAll] at h; subst h; exact h'
  | d :: ds, es, _, ys, h, h' => by
    simp only [DvAll] at h
    obtain ⟨x, r, rfl, e2, e3⟩ := h
    show DvAll K H (d :: (ds ++ es)) (x :: (r ++ ys))
    simp only [DvAll]
    exact ⟨x, r ++ ys, rfl, e2, DvAll.append e3 h'⟩
theorem DvAll.take {K : PySem.W.Frag} {H : Hp} : ∀ {ds : List D} {xs : List V} (n : Nat), DvAll K H ds xs → DvAll K H (ds.take n) (xs.take n)
  | _, _, 0, _ => by simp [DvAll]
  | [], _, n + 1, h => by simp only [DvAll] at h; subst h; simp [DvAll]
  | d :: ds, _, n + 1, h => by
    simp only [DvAll] at h
    obtain ⟨x, r, rfl, e2, e3⟩ := h
    show DvAll K H (d :: ds.take n) (x :: r.take n)
    simp only [DvAll]
    exact ⟨x, r.take n, rfl, e2, DvAll.take n e3⟩
theorem DvAll.drop {K : PySem.W.Frag} {H : Hp} : ∀ {ds : List D} {xs : List V} (n : Nat), DvAll K H ds xs → DvAll K H (ds.drop n) (xs.drop n)
  | _, _, 0, h => by simpa using h
  | [], _, n + 1, h => by simp only [DvAll] at h; subst h; simp [DvAll]
  | d :: ds, _, n + 1, h => by
    simp only [DvAll] at h
    obtain ⟨x, r, rfl, e2, e3⟩ := h
    exact DvAll.drop n e3
theorem DvAll.set {K : PySem.W.Frag} {H : Hp} {d : D} {x : V} (hd : Dv K H d x) : ∀ {ds : List D} {xs : List V} (i : Nat), DvAll K H ds xs → DvAll K H (ds.set i d) (xs.set i x)
  | [], _, _, h => by simp only [DvAll] at h; subst h; simp [DvAll]
  | e :: ds, _, 0, h => by
    simp only [DvAll] at h
    obtain ⟨y, r, rfl, _, e3⟩ := h
    show DvAll K H (d :: ds) (x :: r)
    simp only [DvAll]
    exact ⟨x, r, rfl, hd, e3⟩
  | e :: ds, _, i + 1, h => by
    simp only [DvAll] at h
    obtain ⟨y, r, rfl, e2, e3⟩ := h
    show DvAll K H (e :: ds.set i d) (y :: r.set i x)
    simp only [DvAll]
    exact ⟨y, r.set i x, rfl, e2, DvAll.set hd i e3⟩
theorem DvAll.nil {K : PySem.W.Frag} {H : Hp} : DvAll K H [] [] := by simp [DvAll]
theorem DvAll.cons {K : PySem.W.Frag} {H : Hp} {d : D} {x : V} {ds : List D} {xs : List V} (a : Dv K H d x) (b : DvAll K H ds xs) : DvAll K H (d :: ds) (x :: xs) := by
  simp only [DvAll]; exact ⟨x, xs, rfl, a, b⟩
theorem DvAll.one {K : PySem.W.Frag} {H : Hp} {d : D} {x : V} (a : Dv K H d x) : DvAll K H [d] [x] := .cons a .nil
theorem DvAll.reverse {K : PySem.W.Frag} {H : Hp} : ∀ {ds : List D} {xs : List V}, DvAll K H ds xs → DvAll K H ds.reverse xs.reverse
  | [], _, h => by simp only [DvAll] at h; subst h; simp [DvAll]
  | d :: ds, _, h => by
    simp only [DvAll] at h
    obtain ⟨x, r, rfl, e2, e3⟩ := h
    rw [List.reverse_cons, List.reverse_cons]
    exact (DvAll.reverse e3).append (.one e2)
theorem DvAll.dropLast {K : PySem.W.Frag} {H : Hp} {ds : List D} {xs : List V} (h : DvAll K H ds xs) : DvAll K H ds.dropLast xs.dropLast := by
  rw [List.dropLast_eq_take, List.dropLast_eq_take, h.length]
  exact h.take _

/-! to the data relation of the layer -/
mutual
theorem Dv.dp {K : PySem.W.Frag} {H : Hp} : ∀ (d : D) (v : V), d.hasDict = false → Dv K H d v → Dp K H v d
  | .none, _, _, h => by simp only [Dv] at h; subst h; exact .non
  | .bool b, _, _, h => by simp only [Dv] at h; subst h; exact .bl b
  | .int i, _, _, h => by simp only [Dv] at h; subst h; exact .int i
  | .str x, _, _, h => by simp only [Dv] at h; subst h; exact .str x
  | .list ds, _, n, h => by
    simp only [Dv] at h
    obtain ⟨a, xs, rfl, e2, e3⟩ := h
    exact .lst (SqL.of e2) (DvAll.dp ds xs (by simpa only [PyData.hasDict] using n) e3)
  | .tuple ds, _, n, h => by
    simp only [Dv] at h
    obtain ⟨a, xs, rfl, e2, e3⟩ := h
    exact .tup e2 (DvAll.dp ds xs (by simpa only [PyData.hasDict] using n) e3)
  | .dict _, _, n, h => by simp only [PyData.hasDict] at n; cases n
theorem DvAll.dp {K : PySem.W.Frag} {H : Hp} : ∀ (ds : List D) (xs : List V), PyData.hasDictAll ds = false → DvAll K H ds xs → DpAll K H xs ds
  | [], _, _, h => by simp only [DvAll] at h; subst h; exact .nil
  | d :: ds, _, n, h => by
    simp only [DvAll] at h
    obtain ⟨x, r, rfl, e2, e3⟩ := h
    simp only [PyData.hasDictAll, Bool.or_eq_false_iff] at n
    exact .cons (Dv.dp d x n.1 e2) (DvAll.dp ds r n.2 e3)
end

theorem Dv.todp {K : PySem.W.Frag} {H : Hp} {d : D} {v : V} (h : Dv K H d v) (n : d.hasDict = false) : Dp K H v d := Dv.dp d v n h

/-! ### addresses left out -/
open Classical in
noncomputable def hid (W : Addr → Prop) (H : Hp) : Hp := fun a => if W a then none else H a
theorem hid_ext {W : Addr → Prop} {H : Hp} : Ext (hid W H) H := fun a o h => by
  unfold hid at h; split at h
  · cases h
  · exact h
theorem hid_of {W : Addr → Prop} {H : Hp} {a : Addr} (h : ¬ W a) : hid W H a = H a := by unfold hid; rw [if_neg h]
theorem hid_some {W : Addr → Prop} {H : Hp} {a : Addr} {o : HO} (h : hid W H a = some o) : ¬ W a ∧ H a = some o := by
  unfold hid at h; split at h
  · cases h
  · exact ⟨by assumption, h⟩
theorem hid_mono {W W' : Addr → Prop} {H H' : Hp} (h : ∀ a o, ¬ W a → H a = some o → ¬ W' a ∧ H' a = some o) : Ext (hid W H) (hid W' H') := fun a o e => by
  obtain ⟨n, q⟩ := hid_some e
  obtain ⟨n', q'⟩ := h a o n q
  rw [hid_of n']; exact q'

/-! ### what a slot holds -/
/-- an unaliased object: a list; an instance of the class at C with its attributes -/
inductive Own where
  | lst (ds : List D)
  | obj (C : Addr) (fs : List (Str × D))
inductive Sl where
  | non
  | dat (d : D)
  | own (o : Own)
  | par (o : Own)

def FsAll (K : PySem.W.Frag) (H : Hp) : List (Str × D) → List (Str × V) → Prop
  | [], xs => xs = []
  | (f, d) :: ds, xs => ∃ x r, xs = (f, x) :: r ∧ Dv K H d x ∧ FsAll K H ds r
theorem FsAll.ext {K : PySem.W.Frag} {H H' : Hp} (e : Ext H H') : ∀ (ds : List (Str × D)) (xs : List (Str × V)), FsAll K H ds xs → FsAll K H' ds xs
  | [], _, h => h
  | (f, d) :: ds, _, ⟨x, r, e1, e2, e3⟩ => ⟨x, r, e1, e2.ext e, FsAll.ext e ds r e3⟩

/-- at p stands o: its contents read in Hh -/
def OwnAt (K : PySem.W.Frag) (Hh H : Hp) (p : Addr) : Own → Prop
  | .lst ds => ∃ xs, H p = some (.lst xs) ∧ DvAll K Hh ds xs
  | .obj C fs => ∃ dx xs, H p = some (.ins C dx xs) ∧ FsAll K Hh fs xs
theorem OwnAt.ext {K : PySem.W.Frag} {Hh Hh' H H' : Hp} {p : Addr} {o : Own} (e : Ext Hh Hh') (e2 : H' p = H p) (h : OwnAt K Hh H p o) : OwnAt K Hh' H' p o := by
  cases o with
  | lst ds => obtain ⟨xs, h1, h2⟩ := h; exact ⟨xs, e2.trans h1, h2.ext e⟩
  | obj C fs => obtain ⟨dx, xs, h1, h2⟩ := h; exact ⟨dx, xs, e2.trans h1, h2.ext e⟩
theorem OwnAt.some {K : PySem.W.Frag} {Hh H : Hp} {p : Addr} {o : Own} (h : OwnAt K Hh H p o) : ∃ u, H p = some u := by
  cases o with
  | lst ds => obtain ⟨xs, h1, _⟩ := h; exact ⟨_, h1⟩
  | obj C fs => obtain ⟨dx, xs, h1, _⟩ := h; exact ⟨_, h1⟩

/-- what stays through a def's run: ex: what others own; H0, P: the entry and what was passed by reference (at pa of its slot); gh: data that are held beside the slots -/
structure Fx where
  ex : Addr → Prop
  H0 : Hp
  P : Addr → Prop
  pa : Nat → Addr
  gh : List (D × V)
  /-- objects of others that stay as they are -/
  kp : List (Addr × HO)
  kpx : ∀ q ∈ kp, ex q.1
def Fx.plus (c : Fx) (p : Addr) : Fx := { c with ex := fun a => c.ex a ∨ a = p, kpx := fun q h => .inl (c.kpx q h) }
def Fx.hold (c : Fx) (g : List (D × V)) : Fx := { c with gh := g ++ c.gh }

def IsOwn (ρ : List Sl) (i : Nat) : Prop := ∃ o, ρ[i]? = some (.own o) ∨ ρ[i]? = some (.par o)
/-- what may be written: what others own, what the slots own -/
def Wr (c : Fx) (ad : Nat → Addr) (ρ : List Sl) (a : Addr) : Prop := c.ex a ∨ ∃ i, IsOwn ρ i ∧ ad i = a

structure EnvOk (K : PySem.W.Frag) (c : Fx) (ad : Nat → Addr) (σ : Sg) (H : Hp) (ρ : List Sl) : Prop where
  len : ρ.length = σ.length
  dat : ∀ (i : Nat) (d : D), ρ[i]? = some (Sl.dat d) → ∃ v, σ[i]? = some (some v) ∧ Dv K (hid (Wr c ad ρ) H) d v
  own : ∀ (i : Nat) (o : Own), ρ[i]? = some (Sl.own o) → c.H0 (ad i) = none
  par : ∀ (i : Nat) (o : Own), ρ[i]? = some (Sl.par o) → ad i = c.pa i ∧ c.P (ad i)
  at_ : ∀ (i : Nat) (o : Own), (ρ[i]? = some (Sl.own o) ∨ ρ[i]? = some (Sl.par o)) → σ[i]? = some (some (.ref (ad i))) ∧ OwnAt K (hid (Wr c ad ρ) H) H (ad i) o ∧ ¬ c.ex (ad i)
  inj : ∀ i j : Nat, IsOwn ρ i → IsOwn ρ j → ad i = ad j → i = j
  ext : ∀ a, c.ex a → ∃ o, H a = some o
  fr : ∀ a o, c.H0 a = some o → ¬ c.P a → H a = some o
  gh : ∀ p ∈ c.gh, Dv K (hid (Wr c ad ρ) H) p.1 p.2
  pex : ∀ a, c.P a → ∃ o, H a = some o
  kpe : ∀ q ∈ c.kp, H q.1 = some q.2

theorem IsOwn.lt {ρ : List Sl} {i : Nat} (h : IsOwn ρ i) : i < ρ.length := by
  obtain ⟨o, h | h⟩ := h <;> exact (List.getElem?_eq_some_iff.mp h).1
section
variable {K : PySem.W.Frag} {c : Fx} {ad : Nat → Addr} {σ : Sg} {H H' : Hp} {ρ : List Sl}
theorem EnvOk.wr (I : EnvOk K c ad σ H ρ) {a : Addr} (h : Wr c ad ρ a) : ∃ o, H a = some o := by
  rcases h with h | ⟨i, ⟨o, h⟩, rfl⟩
  · exact I.ext a h
  · exact (I.at_ i o h).2.1.some
theorem EnvOk.nwr (I : EnvOk K c ad σ H ρ) {a : Addr} (h : H a = none) : ¬ Wr c ad ρ a := fun w => by
  obtain ⟨o, e⟩ := I.wr w; rw [h] at e; cases e
/-- new objects beside -/
theorem EnvOk.grow (I : EnvOk K c ad σ H ρ) (e : Ext H H') : EnvOk K c ad σ H' ρ := by
  have em : Ext (hid (Wr c ad ρ) H) (hid (Wr c ad ρ) H') := hid_mono fun a o n q => ⟨n, e a o q⟩
  refine ⟨I.len, fun i d h => ?_, I.own, I.par, fun i o h => ?_, I.inj, fun a h => ?_, fun a o h n => e a o (I.fr a o h n), fun p hp => (I.gh p hp).ext em, fun a w => let ⟨o, q⟩ := I.pex a w; ⟨o, e a o q⟩, fun q hq => e _ _ (I.kpe q hq)⟩
  · obtain ⟨v, h1, h2⟩ := I.dat i d h
    exact ⟨v, h1, h2.ext em⟩
  · obtain ⟨h1, h2, h3⟩ := I.at_ i o h
    obtain ⟨u, hu⟩ := h2.some
    exact ⟨h1, h2.ext em ((e _ _ hu).trans hu.symm), h3⟩
  · obtain ⟨o, h⟩ := I.ext a h
    exact ⟨o, e a o h⟩
/-- less is held, less is forbidden -/
theorem EnvOk.less {c' : Fx} (I : EnvOk K c ad σ H ρ) (h0 : c'.H0 = c.H0) (hP : c'.P = c.P) (hpa : c'.pa = c.pa) (hex : ∀ a, c'.ex a → c.ex a) (hgh : ∀ p ∈ c'.gh, p ∈ c.gh) (hkp : ∀ q ∈ c'.kp, q ∈ c.kp := by exact fun _ h => h) : EnvOk K c' ad σ H ρ := by
  have em : Ext (hid (Wr c ad ρ) H) (hid (Wr c' ad ρ) H) := hid_mono fun a o n q => ⟨fun w => n (w.imp (hex a) id), q⟩
  refine ⟨I.len, fun i d h => ?_, fun i o h => by rw [h0]; exact I.own i o h, fun i o h => by rw [hP, hpa]; exact I.par i o h, fun i o h => ?_, I.inj, fun a h => I.ext a (hex a h), fun a o h n => I.fr a o (h0 ▸ h) (hP ▸ n), fun p hp => (I.gh p (hgh p hp)).ext em, fun a w => I.pex a (hP ▸ w), fun q hq => I.kpe q (hkp q hq)⟩
  · obtain ⟨v, h1, h2⟩ := I.dat i d h
    exact ⟨v, h1, h2.ext em⟩
  · obtain ⟨h1, h2, h3⟩ := I.at_ i o h
    exact ⟨h1, h2.ext em rfl, fun w => h3 (hex _ w)⟩
theorem EnvOk.hold (I : EnvOk K c ad σ H ρ) {g : List (D × V)} (h : ∀ p ∈ g, Dv K (hid (Wr c ad ρ) H) p.1 p.2) : EnvOk K (c.hold g) ad σ H ρ :=
  ⟨I.len, I.dat, I.own, I.par, I.at_, I.inj, I.ext, I.fr, fun p hp => (List.mem_append.mp hp).elim (h p) (I.gh p), I.pex, I.kpe⟩
theorem EnvOk.unhold {g : List (D × V)} (I : EnvOk K (c.hold g) ad σ H ρ) : EnvOk K c ad σ H ρ :=
  ⟨I.len, I.dat, I.own, I.par, I.at_, I.inj, I.ext, I.fr, fun p hp => I.gh p (List.mem_append_right _ hp), I.pex, I.kpe⟩
theorem EnvOk.held {g : List (D × V)} (I : EnvOk K (c.hold g) ad σ H ρ) : ∀ p ∈ g, Dv K (hid (Wr c ad ρ) H) p.1 p.2 := fun p hp => I.gh p (List.mem_append_left _ hp)
end

/-! ### results -/
inductive Res where
  | dat (d : D)
  | frs (o : Own)
  | slt (i : Nat)
structure Exn where
  C : Addr
  fs : List (Str × D)
inductive Rg (α : Type) where
  | stuck
  | ok (r : α) (ρ : List Sl)
  | exc (x : Exn) (ρ : List Sl)
abbrev EM := List Sl → Rg Res
def Rg.bind {α β : Type} (r : Rg α) (f : α → List Sl → Rg β) : Rg β :=
  match r with
  | .stuck => .stuck
  | .ok a ρ => f a ρ
  | .exc x ρ => .exc x ρ
def ofO {α β : Type} (o : Option α) (f : α → Rg β) : Rg β :=
  match o with
  | none => .stuck
  | some a => f a
def Wants {α : Type} (r : Rg α) (P : α → List Sl → Prop) (E : Exn → List Sl → Prop) : Prop :=
  match r with
  | .stuck => False
  | .ok a ρ => P a ρ
  | .exc x ρ => E x ρ
theorem Wants.of_bind {α β : Type} {r : Rg α} {f : α → List Sl → Rg β} {P : β → List Sl → Prop} {E : Exn → List Sl → Prop} (h : Wants (r.bind f) P E) : Wants r (fun a ρ => Wants (f a ρ) P E) E := by
  cases r with
  | stuck => exact h
  | ok a ρ => exact h
  | exc x ρ => exact h
theorem Wants.of_ofO {α β : Type} {o : Option α} {f : α → Rg β} {P : β → List Sl → Prop} {E : Exn → List Sl → Prop} (h : Wants (ofO o f) P E) : ∃ a, o = some a ∧ Wants (f a) P E := by
  cases o with
  | none => exact h.elim
  | some a => exact ⟨a, rfl, h⟩
theorem Wants.mono {α : Type} {r : Rg α} {P P' : α → List Sl → Prop} {E E' : Exn → List Sl → Prop} (h : Wants r P E) (p : ∀ a ρ, P a ρ → P' a ρ) (e : ∀ x ρ, E x ρ → E' x ρ) : Wants r P' E' := by
  cases r with
  | stuck => exact h
  | ok a ρ => exact p _ _ h
  | exc x ρ => exact e _ _ h

def Post (K : PySem.W.Frag) (c : Fx) (ad : Nat → Addr) (σ : Sg) (r : Res) (ρ : List Sl) (v : V) (H : Hp) : Prop :=
  match r with
  | .dat d => EnvOk K c ad σ H ρ ∧ Dv K (hid (Wr c ad ρ) H) d v
  | .frs o => ∃ p, v = .ref p ∧ EnvOk K (c.plus p) ad σ H ρ ∧ c.H0 p = none ∧ ¬ c.ex p ∧ OwnAt K (hid (Wr (c.plus p) ad ρ) H) H p o
  | .slt i => EnvOk K c ad σ H ρ ∧ IsOwn ρ i ∧ v = .ref (ad i)
def XPost (K : PySem.W.Frag) (c : Fx) (ad : Nat → Addr) (σ : Sg) (x : Exn) (ρ : List Sl) (cls : Value) (d : Option Addr) (H : Hp) : Prop :=
  EnvOk K c ad σ H ρ ∧ cls = .ref x.C ∧ ((x.fs = [] ∧ d = none) ∨ ∃ dd fs, d = some dd ∧ H dd = some (.xd fs) ∧ FsAll K (hid (Wr c ad ρ) H) x.fs fs)

def OkQ (K : PySem.W.Frag) (c : Fx) (ad : Nat → Addr) (σ : Sg) (Q : VK) (r : Res) (ρ : List Sl) : Prop := ∀ v H, Post K c ad σ r ρ v H → Q v H
def ExQ (K : PySem.W.Frag) (c : Fx) (ad : Nat → Addr) (σ : Sg) (W : WX) (x : Exn) (ρ : List Sl) : Prop := ∀ cls d H, XPost K c ad σ x ρ cls d H → W cls d σ H
def tV (K : PySem.W.Frag) (W : WX) (m : EM) : TE := fun σ H Q => ∃ c ad ρ, EnvOk K c ad σ H ρ ∧ Wants (m ρ) (OkQ K c ad σ Q) (ExQ K c ad σ W)
abbrev VE (X : Cx) (W : WX) (e : Expr) (m : EM) : Prop := PE X e (tV X.K W m)

/-- freeze: a fresh list is data from now on -/
def fz : Res → Option Res
  | .dat d => some (.dat d)
  | .frs (.lst ds) => some (.dat (.list ds))
  | .frs (.obj _ _) => none
  | .slt i => some (.slt i)
theorem fz_ok {K : PySem.W.Frag} {c : Fx} {ad : Nat → Addr} {σ : Sg} {r r' : Res} {ρ : List Sl} {v : V} {H : Hp} (e : fz r = some r') (h : Post K c ad σ r ρ v H) : Post K c ad σ r' ρ v H := by
  cases r with
  | dat d => simp [fz] at e; subst e; exact h
  | slt i => simp [fz] at e; subst e; exact h
  | frs o =>
    cases o with
    | obj C fs => simp [fz] at e
    | lst ds =>
      simp [fz] at e; subst e
      obtain ⟨p, rfl, I, h0, hx, xs, hp, ho⟩ := h
      have I' : EnvOk K c ad σ H ρ := I.less rfl rfl rfl (fun a w => .inl w) fun p hp => hp
      refine ⟨I', ?_⟩
      have np : ¬ Wr c ad ρ p := fun w => by
        rcases w with w | ⟨i, ⟨o, hi⟩, e⟩
        · exact hx w
        · exact (I.at_ i o hi).2.2 (.inr e)
      simp only [Dv]
      refine ⟨p, xs, rfl, by rw [hid_of np]; exact hp, DvAll.ext (hid_mono fun a o n q => ⟨fun w => n (w.imp .inl id), q⟩) _ _ ho⟩

/-- data at the top of a value; within, what is not written -/
def Dt (K : PySem.W.Frag) (W : Addr → Prop) (H : Hp) (d : D) (v : V) : Prop :=
  Dv K (hid W H) d v ∨ ∃ ds a xs, d = .list ds ∧ v = .ref a ∧ H a = some (.lst xs) ∧ DvAll K (hid W H) ds xs
theorem Dt.dv {K : PySem.W.Frag} {W : Addr → Prop} {H : Hp} {d : D} {v : V} (h : Dt K W H d v) : Dv K H d v := by
  rcases h with h | ⟨ds, a, xs, rfl, rfl, h1, h2⟩
  · exact h.ext hid_ext
  · simp only [Dv]; exact ⟨a, xs, rfl, h1, h2.ext hid_ext⟩
theorem Dt.list {K : PySem.W.Frag} {W : Addr → Prop} {H : Hp} {ds : List D} {v : V} (h : Dt K W H (.list ds) v) : ∃ a xs, v = .ref a ∧ H a = some (.lst xs) ∧ DvAll K (hid W H) ds xs := by
  rcases h with h | ⟨ds', a, xs, e, rfl, h1, h2⟩
  · simp only [Dv] at h
    obtain ⟨a, xs, rfl, h1, h2⟩ := h
    exact ⟨a, xs, rfl, (hid_some h1).2, h2⟩
  · cases e; exact ⟨a, xs, rfl, h1, h2⟩
theorem Dt.tuple {K : PySem.W.Frag} {W : Addr → Prop} {H : Hp} {ds : List D} {v : V} (h : Dt K W H (.tuple ds) v) : ∃ a xs, v = .ref a ∧ SqT K (hid W H) a xs ∧ SqT K H a xs ∧ DvAll K (hid W H) ds xs := by
  rcases h with h | ⟨ds', a, xs, e, rfl, h1, h2⟩
  · simp only [Dv] at h
    obtain ⟨a, xs, rfl, h1, h2⟩ := h
    exact ⟨a, xs, rfl, h1, hid_ext.sqT h1, h2⟩
  · cases e
theorem Dt.int {K : PySem.W.Frag} {W : Addr → Prop} {H : Hp} {i : Int} {v : V} (h : Dt K W H (.int i) v) : v = .int i := by
  rcases h with h | ⟨_, _, _, e, _⟩
  · simpa only [Dv] using h
  · cases e
theorem Dt.str {K : PySem.W.Frag} {W : Addr → Prop} {H : Hp} {i : Str} {v : V} (h : Dt K W H (.str i) v) : v = .str i := by
  rcases h with h | ⟨_, _, _, e, _⟩
  · simpa only [Dv] using h
  · cases e
theorem Dt.bl {K : PySem.W.Frag} {W : Addr → Prop} {H : Hp} {i : Bool} {v : V} (h : Dt K W H (.bool i) v) : v = .bl i := by
  rcases h with h | ⟨_, _, _, e, _⟩
  · simpa only [Dv] using h
  · cases e
theorem Dt.non {K : PySem.W.Frag} {W : Addr → Prop} {H : Hp} {v : V} (h : Dt K W H .none v) : v = .non := by
  rcases h with h | ⟨_, _, _, e, _⟩
  · simpa only [Dv] using h
  · cases e

theorem Dt.script {K : PySem.W.Frag} {W : Addr → Prop} {H : Hp} {es : List (D × D)} {v : V} (h : Dt K W H (.dict es) v) : ∃ a ns, v = .ref a ∧ SqL K H a (ns.map V.int) ∧ es = scr ns := by
  rcases h with h | ⟨_, _, _, e, _⟩
  · simp only [Dv] at h
    obtain ⟨a, ns, e1, e2, e3⟩ := h
    exact ⟨a, ns, e1, hid_ext.sqL e2, e3⟩
  · cases e
/-- the script's numbers -/
def scrOf (es : List (D × D)) : List Int := es.map fun p => match p.2 with
  | .int n => n
  | _ => 0
theorem scrOf_scr (ns : List Int) : scrOf (scr ns) = ns := by
  unfold scrOf scr
  rw [List.map_map]
  exact (List.map_congr_left fun n _ => rfl).trans (List.map_id ns)

/-- the data that a result is, as things stand -/
def dref (ρ : List Sl) : Res → Option D
  | .dat d => some d
  | .frs (.lst ds) => some (.list ds)
  | .frs (.obj _ _) => none
  | .slt i => match ρ[i]? with
    | some (.own (.lst ds)) => some (.list ds)
    | some (.par (.lst ds)) => some (.list ds)
    | _ => none
theorem dref_slt {ρ : List Sl} {i : Nat} {d : D} (h : dref ρ (.slt i) = some d) : ∃ ds, d = .list ds ∧ (ρ[i]? = some (.own (.lst ds)) ∨ ρ[i]? = some (.par (.lst ds))) := by
  simp only [dref] at h
  split at h
  · cases h; exact ⟨_, rfl, .inl (by assumption)⟩
  · cases h; exact ⟨_, rfl, .inr (by assumption)⟩
  · cases h
/-- what is read of a slot's object -/
theorem EnvOk.slt {K : PySem.W.Frag} {c : Fx} {ad : Nat → Addr} {σ : Sg} {H : Hp} {ρ : List Sl} {i : Nat} {d : D} (I : EnvOk K c ad σ H ρ) (h : dref ρ (.slt i) = some d) : Dt K (Wr c ad ρ) H d (.ref (ad i)) := by
  obtain ⟨ds, rfl, q⟩ := dref_slt h
  obtain ⟨_, ⟨xs, h1, h2⟩, _⟩ := I.at_ i _ q
  exact .inr ⟨ds, ad i, xs, rfl, rfl, h1, h2⟩

theorem post_dt {K : PySem.W.Frag} {c : Fx} {ad : Nat → Addr} {σ : Sg} {r : Res} {ρ : List Sl} {v : V} {H : Hp} {d : D} (h : Post K c ad σ r ρ v H) (e : dref ρ r = some d) : EnvOk K c ad σ H ρ ∧ Dt K (Wr c ad ρ) H d v := by
  cases r with
  | dat d' => simp only [dref] at e; cases e; exact ⟨h.1, .inl h.2⟩
  | slt i =>
    obtain ⟨I, _, rfl⟩ := h
    exact ⟨I, I.slt e⟩
  | frs o =>
    cases o with
    | obj C fs => simp [dref] at e
    | lst ds =>
      simp only [dref] at e; cases e
      have h' := fz_ok (r' := .dat (.list ds)) rfl h
      exact ⟨h'.1, .inl h'.2⟩
theorem ExQ.unhold {K : PySem.W.Frag} {c : Fx} {g : List (D × V)} {ad : Nat → Addr} {σ : Sg} {W : WX} {x : Exn} {ρ : List Sl} (h : ExQ K c ad σ W x ρ) : ExQ K (c.hold g) ad σ W x ρ := fun cls d H ⟨I, h1, h2⟩ => h cls d H ⟨I.unhold, h1, h2⟩
theorem Post.unhold {K : PySem.W.Frag} {c : Fx} {g : List (D × V)} {ad : Nat → Addr} {σ : Sg} {r : Res} {ρ : List Sl} {v : V} {H : Hp} (h : Post K (c.hold g) ad σ r ρ v H) : Post K c ad σ r ρ v H := by
  cases r with
  | dat d => exact ⟨h.1.unhold, h.2⟩
  | slt i => exact ⟨h.1.unhold, h.2⟩
  | frs o =>
    obtain ⟨p, e, I, h0, hx, ho⟩ := h
    exact ⟨p, e, EnvOk.unhold (c := c.plus p) (g := g) I, h0, hx, ho⟩
theorem Post.env {K : PySem.W.Frag} {c : Fx} {ad : Nat → Addr} {σ : Sg} {r : Res} {ρ : List Sl} {v : V} {H : Hp} (h : Post K c ad σ r ρ v H) : EnvOk K c ad σ H ρ := by
  cases r with
  | dat d => exact h.1
  | slt i => exact h.1
  | frs o =>
    obtain ⟨p, e, I, h0, hx, ho⟩ := h
    exact I.less rfl rfl rfl (fun a w => .inl w) fun p hp => hp
/-- data among what is held, or a slot's object -/
def Held (K : PySem.W.Frag) (c : Fx) (ad : Nat → Addr) (ρ : List Sl) (H : Hp) (v : V) : Res → Prop
  | .dat d => Dv K (hid (Wr c ad ρ) H) d v
  | .slt i => v = .ref (ad i)
  | .frs _ => False
theorem Held.dt {K : PySem.W.Frag} {c : Fx} {ad : Nat → Addr} {σ : Sg} {ρ : List Sl} {H : Hp} {v : V} {r : Res} {d : D} (I : EnvOk K c ad σ H ρ) (h : Held K c ad ρ H v r) (e : dref ρ r = some d) : Dt K (Wr c ad ρ) H d v := by
  cases r with
  | dat d' => simp only [dref] at e; cases e; exact .inl h
  | slt i => cases h; exact I.slt e
  | frs o => exact h.elim
/-- the next part is reckoned while the value of r is held -/
theorem hold_next {K : PySem.W.Frag} {W : WX} {b : EM} {c : Fx} {ad : Nat → Addr} {σ : Sg} {H : Hp} {ρ : List Sl} {r r' : Res} {v : V} {Q : VK} (hp : Post K c ad σ r ρ v H) (hf : fz r = some r')
    (h : Wants (b ρ) (fun rb ρ2 => ∀ y H2, Post K c ad σ rb ρ2 y H2 → Held K c ad ρ2 H2 v r' → Q y H2) (ExQ K c ad σ W)) : tV K W b σ H Q := by
  have hp' := fz_ok hf hp
  cases r' with
  | dat d =>
    refine ⟨c.hold [(d, v)], ad, ρ, hp'.1.hold (fun p hp => by rw [List.mem_singleton.mp hp]; exact hp'.2), h.mono (fun rb ρ2 q y H2 hy => ?_) fun x ρ2 q => q.unhold⟩
    exact q y H2 hy.unhold (hy.env.held (d, v) (List.mem_singleton.mpr rfl))
  | slt i => exact ⟨c, ad, ρ, hp'.1, h.mono (fun rb ρ2 q y H2 hy => q y H2 hy hp'.2.2) fun x ρ2 q => q⟩
  | frs o =>
    cases r with
    | dat d => simp [fz] at hf
    | slt i => simp [fz] at hf
    | frs o' => cases o' <;> simp [fz] at hf
theorem tV.mono {K : PySem.W.Frag} {W : WX} {m : EM} {σ : Sg} {H : Hp} {Q Q' : VK} (h : tV K W m σ H Q) (q : ∀ v H, Q v H → Q' v H) : tV K W m σ H Q' := by
  obtain ⟨c, ad, ρ, I, h⟩ := h
  exact ⟨c, ad, ρ, I, h.mono (fun r ρ' k v H p => q v H (k v H p)) fun _ _ k => k⟩
theorem pe_imp {X : Cx} {e : Expr} {t t' : TE} (h : PE X e t) (g : ∀ σ H Q, t' σ H Q → t σ H Q) : PE X e t' := ⟨fun pins s σ H Q I q => h.run pins s σ H Q I (g σ H Q q)⟩
theorem pt_imp {X : Cx} {e : Expr} {t t' : TT} (h : PT X e t) (g : ∀ σ H Q, t' σ H Q → t σ H Q) : PT X e t' := ⟨fun pins s σ H Q I q => h.run pins s σ H Q I (g σ H Q q)⟩

/-! ### two operands -/
def bin2 (a b : EM) (ρ : List Sl) : Rg (D × D) :=
  (a ρ).bind fun ra ρ1 => ofO (fz ra) fun ra => (b ρ1).bind fun rb ρ2 => ofO (dref ρ2 ra) fun x => ofO (dref ρ2 rb) fun y => .ok (x, y) ρ2
theorem seq2 {K : PySem.W.Frag} {W : WX} {a b : EM} {c : Fx} {ad : Nat → Addr} {σ : Sg} {H : Hp} {ρ : List Sl} {R : V → V → Hp → Prop} (I : EnvOk K c ad σ H ρ)
    (h : Wants (bin2 a b ρ) (fun xy ρ2 => ∀ x y H2, EnvOk K c ad σ H2 ρ2 → Dt K (Wr c ad ρ2) H2 xy.1 x → Dt K (Wr c ad ρ2) H2 xy.2 y → R x y H2) (ExQ K c ad σ W)) :
    tV K W a σ H fun x H1 => tV K W b σ H1 fun y H2 => R x y H2 := by
  refine ⟨c, ad, ρ, I, h.of_bind.mono (fun ra ρ1 q x H1 hp => ?_) fun _ _ k => k⟩
  obtain ⟨ra', hf, q⟩ := q.of_ofO
  refine hold_next hp hf (q.of_bind.mono (fun rb ρ2 k y H2 hy hh => ?_) fun _ _ k => k)
  obtain ⟨dx, ex, k⟩ := k.of_ofO
  obtain ⟨dy, ey, k⟩ := k.of_ofO
  obtain ⟨I2, ty⟩ := post_dt hy ey
  exact k x y H2 I2 (Held.dt I2 hh ex) ty

/-! ### new values -/
def NewP (K : PySem.W.Frag) (W : Addr → Prop) (H : Hp) (r : Res) (v : V) (H' : Hp) : Prop :=
  Ext H H' ∧ match r with
  | .dat d => Dv K (hid W H') d v
  | .frs (.lst ds) => ∃ p xs, v = .ref p ∧ H p = none ∧ H' p = some (.lst xs) ∧ DvAll K (hid W H) ds xs
  | _ => False
theorem NewP.post {K : PySem.W.Frag} {c : Fx} {ad : Nat → Addr} {σ : Sg} {H H' : Hp} {ρ : List Sl} {r : Res} {v : V} (I : EnvOk K c ad σ H ρ) (h : NewP K (Wr c ad ρ) H r v H') : Post K c ad σ r ρ v H' := by
  obtain ⟨e, h⟩ := h
  cases r with
  | dat d => exact ⟨I.grow e, h⟩
  | slt i => exact h.elim
  | frs o =>
    cases o with
    | obj C fs => exact h.elim
    | lst ds =>
      obtain ⟨p, xs, rfl, hn, hp, hd⟩ := h
      have I' := I.grow e
      have em : Ext (hid (Wr c ad ρ) H) (hid (Wr (c.plus p) ad ρ) H') := hid_mono fun a o n q => ⟨fun w => by
        rcases w with (w | w) | w
        · exact n (.inl w)
        · subst w; rw [hn] at q; cases q
        · exact n (.inr w), e a o q⟩
      have nx : ¬ c.ex p := fun w => by obtain ⟨o, q⟩ := I.ext p w; rw [hn] at q; cases q
      refine ⟨p, rfl, ⟨I.len, fun i d h => ?_, I.own, I.par, fun i o h => ?_, I.inj, fun a w => ?_, I'.fr, fun q hq => (I.gh q hq).ext em, I'.pex, I'.kpe⟩, ?_, nx, xs, hp, hd.ext em⟩
      · obtain ⟨v, h1, h2⟩ := I.dat i d h
        exact ⟨v, h1, h2.ext em⟩
      · obtain ⟨h1, h2, h3⟩ := I.at_ i o h
        obtain ⟨u, hu⟩ := h2.some
        refine ⟨h1, h2.ext em ((e _ _ hu).trans hu.symm), fun w => ?_⟩
        rcases w with w | w
        · exact h3 w
        · rw [w, hn] at hu; cases hu
      · rcases w with w | w
        · exact I'.ext a w
        · subst w; exact ⟨_, hp⟩
      · cases q : c.H0 p with
        | none => rfl
        | some o =>
          by_cases hP : c.P p
          · obtain ⟨u, e'⟩ := I.pex p hP
            rw [hn] at e'; cases e'
          · rw [I.fr p o q hP] at hn; cases hn
end Vl

set_option Elab.async false
set_option linter.all false
set_option maxRecDepth 100000
namespace Vl
open PySem PySem.Spec PyProof.Rows L2

/-! ### an operation on data -/
abbrev OpF := D → D → Option Res
def OpB (K : PySem.W.Frag) (r : R2) (f : OpF) : Prop :=
  ∀ (W : Addr → Prop) (H : Hp) (x y : V) (dx dy : D) (res : Res) (Q : VK), (∀ a, W a → ∃ o, H a = some o) → Dt K W H dx x → Dt K W H dy y → f dx dy = some res →
    (∀ v H', NewP K W H res v H' → Q v H') → r x y H Q
theorem NewP.same {K : PySem.W.Frag} {W : Addr → Prop} {H : Hp} {d : D} {v : V} (h : Dv K (hid W H) d v) : NewP K W H (.dat d) v H := ⟨Ext.refl _, h⟩
theorem NewP.bl {K : PySem.W.Frag} {W : Addr → Prop} {H : Hp} {b : Bool} : NewP K W H (.dat (.bool b)) (.bl b) H := .same (by simp only [Dv])
theorem NewP.int {K : PySem.W.Frag} {W : Addr → Prop} {H : Hp} {b : Int} : NewP K W H (.dat (.int b)) (.int b) H := .same (by simp only [Dv])
theorem NewP.str {K : PySem.W.Frag} {W : Addr → Prop} {H : Hp} {b : Str} : NewP K W H (.dat (.str b)) (.str b) H := .same (by simp only [Dv])
theorem NewP.non {K : PySem.W.Frag} {W : Addr → Prop} {H : Hp} : NewP K W H (.dat .none) .non H := .same (by simp only [Dv])
theorem NewP.lst {K : PySem.W.Frag} {W : Addr → Prop} {H : Hp} {ds : List D} {xs : List V} {p : Addr} (hn : H p = none) (h : DvAll K (hid W H) ds xs) : NewP K W H (.frs (.lst ds)) (.ref p) (upd H p (.lst xs)) :=
  ⟨Ext.upd hn, p, xs, rfl, hn, upd_same, h⟩
theorem hid_new {W : Addr → Prop} {H : Hp} {p : Addr} {o : HO} (hW : ∀ a, W a → ∃ o, H a = some o) (hn : H p = none) : hid W (upd H p o) p = some o ∧ Ext (hid W H) (hid W (upd H p o)) := by
  have np : ¬ W p := fun w => by obtain ⟨u, e⟩ := hW p w; rw [hn] at e; cases e
  exact ⟨by rw [hid_of np, upd_same], hid_mono fun a u n q => ⟨n, (Ext.upd hn) a u q⟩⟩
theorem NewP.tup {K : PySem.W.Frag} {W : Addr → Prop} {H : Hp} {ds : List D} {xs : List V} {p : Addr} (hW : ∀ a, W a → ∃ o, H a = some o) (hn : H p = none) (h : DvAll K (hid W H) ds xs) : NewP K W H (.dat (.tuple ds)) (.ref p) (upd H p (.tup xs)) := by
  obtain ⟨h1, h2⟩ := hid_new (o := .tup xs) hW hn
  refine ⟨Ext.upd hn, ?_⟩
  show Dv K _ _ _
  simp only [Dv]
  exact ⟨p, xs, rfl, SqT.of h1, h.ext h2⟩
theorem Dv.tupOf {K : PySem.W.Frag} {H : Hp} {ds : List D} {xs : List V} {a : Addr} (h1 : SqT K H a xs) (h : DvAll K H ds xs) : Dv K H (.tuple ds) (.ref a) := by
  simp only [Dv]; exact ⟨a, xs, rfl, h1, h⟩

def mBin (f : OpF) (a b : EM) : EM := fun ρ => (bin2 a b ρ).bind fun xy ρ2 => ofO (f xy.1 xy.2) fun r => .ok r ρ2
theorem bin_red {K : PySem.W.Frag} {W : WX} {r : R2} {f : OpF} {ma mb : EM} (hf : OpB K r f) {σ : Sg} {H : Hp} {Q : VK} (h : tV K W (mBin f ma mb) σ H Q) : tOp r (tV K W ma) (tV K W mb) σ H Q := by
  obtain ⟨c, ad, ρ, I, h⟩ := h
  refine seq2 I (h.of_bind.mono (fun xy ρ2 q x y H2 I2 tx ty => ?_) fun _ _ k => k)
  obtain ⟨res, e, q⟩ := q.of_ofO
  exact hf _ _ _ _ _ _ _ _ (fun a w => I2.wr w) tx ty e fun v H' n => q v H' (n.post I2)
section
variable {X : Cx} {W : WX} {a b c : Expr} {ma mb mc : EM} {pos : Pos} {r r' : R2} {f g : OpF}
theorem ve_op {op : Operator} (ho : OpR X (binaryOp op) r) (hf : OpB X.K r f) (ha : VE X W a ma) (hb : VE X W b mb) : VE X W (.BinOp a op b pos) (mBin f ma mb) :=
  pe_imp (pe_op ho ha hb) fun _ _ _ => bin_red hf
theorem ve_cmp {op : CmpOp} (ho : OpR X (compareOp op) r) (hf : OpB X.K r f) (ha : VE X W a ma) (hb : VE X W b mb) (hm : behindInMarks op b = false) : VE X W (.Compare a [op] [b] pos) (mBin f ma mb) :=
  pe_imp (pe_cmpR ho ha hb hm) fun _ _ _ => bin_red hf
end
theorem OpB.or {K : PySem.W.Frag} {r r' : R2} {f g : OpF} (h : OpB K r f) (h' : OpB K r' g) : OpB K (fun x y H Q => r x y H Q ∨ r' x y H Q) (fun x y => match f x y with | some z => some z | none => g x y) := by
  intro W H x y dx dy res Q hW hx hy e q
  dsimp only at e
  cases e1 : f dx dy with
  | some z => rw [e1] at e; exact .inl (h W H x y dx dy res Q hW hx hy (e1.trans e) q)
  | none => rw [e1] at e; exact .inr (h' W H x y dx dy res Q hW hx hy e q)
/-- the same under another spelling of the function -/
theorem OpB.as {K : PySem.W.Frag} {r : R2} {f g : OpF} (h : OpB K r f) (e : ∀ x y z, g x y = some z → f x y = some z) : OpB K r g := fun W H x y dx dy res Q hW hx hy q => h W H x y dx dy res Q hW hx hy (e _ _ _ q)

/-! ### ints -/
def fI (C : Int → Int → Bool) (g : Int → Int → D) : OpF
  | .int i, .int j => if C i j = true then some (.dat (g i j)) else none
  | _, _ => none
theorem opB_int {K : PySem.W.Frag} {C : Int → Int → Prop} {Cb : Int → Int → Bool} {g : Int → Int → V} {gd : Int → Int → D} (hC : ∀ i j, Cb i j = true → C i j) (hg : ∀ i j (H : Hp), Dv K H (gd i j) (g i j)) : OpB K (rI C g) (fI Cb gd) := by
  intro W H x y dx dy res Q hW hx hy e q
  unfold fI at e
  split at e
  · split at e
    · cases e
      rw [hx.int, hy.int]
      exact ⟨_, _, rfl, rfl, hC _ _ (by assumption), q _ _ (.same (hg _ _ _))⟩
    · cases e
  · cases e
def fI0 (g : Int → Int → D) : OpF
  | .int i, .int j => some (.dat (g i j))
  | _, _ => none
theorem opB_int0 {K : PySem.W.Frag} {g : Int → Int → V} {gd : Int → Int → D} (hg : ∀ i j (H : Hp), Dv K H (gd i j) (g i j)) : OpB K (rI0 g) (fI0 gd) := by
  intro W H x y dx dy res Q hW hx hy e q
  unfold fI0 at e
  split at e
  · cases e
    rw [hx.int, hy.int]
    exact ⟨_, _, rfl, rfl, q _ _ (.same (hg _ _ _))⟩
  · cases e

/-! ### + -/
def fAdd : OpF
  | .int i, .int j => some (.dat (.int (i + j)))
  | .str x, .str y => if x.length + y.length ≤ sizeLine then some (.dat (.str (x ++ y))) else none
  | .tuple xs, .tuple ys => if xs.length + ys.length ≤ sizeLine then some (.dat (.tuple (xs ++ ys))) else none
  | .list xs, .list ys => if xs.length + ys.length ≤ sizeLine then some (.frs (.lst (xs ++ ys))) else none
  | _, _ => none
abbrev rAddR (K : PySem.W.Frag) : R2 := fun x y H Q => rI0 (fun i j => .int (i + j)) x y H Q ∨ ((∃ i j, x = .str i ∧ y = .str j ∧ i.length + j.length ≤ sizeLine ∧ Q (.str (i ++ j)) H) ∨ (rCatA K x y H Q ∨ rCat x y H Q))
theorem op_addR {X : Cx} : OpR X (binaryOp .Add) (rAddR X.K) := op_add.or (op_add_str.or (op_catA.or op_cat))
theorem opB_add {K : PySem.W.Frag} : OpB K (rAddR K) fAdd := by
  intro W H x y dx dy res Q hW hx hy e q
  unfold fAdd at e
  split at e
  · cases e
    rw [hx.int, hy.int]
    exact .inl ⟨_, _, rfl, rfl, q _ _ .int⟩
  · split at e
    · cases e
      rw [hx.str, hy.str]
      exact .inr (.inl ⟨_, _, rfl, rfl, by assumption, q _ _ .str⟩)
    · cases e
  · split at e
    · cases e
      obtain ⟨a, xs, rfl, h1, h1', h2⟩ := hx.tuple
      obtain ⟨b, ys, rfl, k1, k1', k2⟩ := hy.tuple
      refine .inr (.inr (.inl ⟨a, b, xs, ys, rfl, rfl, h1', k1', ?_, fun e => ?_, fun n e => ?_, fun n n' p hp => ?_⟩))
      · rw [← h2.length, ← k2.length]; assumption
      · subst e
        refine q _ _ (.same (Dv.tupOf k1 ?_))
        have l := h2.length
        rw [List.length_nil] at l
        rw [List.eq_nil_of_length_eq_zero l, List.nil_append]
        exact k2
      · subst e
        refine q _ _ (.same (Dv.tupOf h1 ?_))
        have l := k2.length
        rw [List.length_nil] at l
        rw [List.eq_nil_of_length_eq_zero l, List.append_nil]
        exact h2
      · exact q _ _ (.tup hW hp (h2.append k2))
    · cases e
  · split at e
    · cases e
      obtain ⟨a, xs, rfl, h1, h2⟩ := hx.list
      obtain ⟨b, ys, rfl, k1, k2⟩ := hy.list
      refine .inr (.inr (.inr ⟨a, b, xs, ys, rfl, rfl, h1, k1, ?_, fun p hp => ?_⟩))
      · rw [← h2.length, ← k2.length]; assumption
      · exact q _ _ (.lst hp (h2.append k2))
    · cases e
  · cases e

def fSub : OpF := fI0 fun i j => .int (i - j)
theorem opB_sub {K : PySem.W.Frag} : OpB K (rI0 fun i j => .int (i - j)) fSub := opB_int0 fun _ _ _ => by simp only [Dv]
def fFdiv : OpF := fI (fun i j => decide (0 < j ∧ j < 1073741824)) fun i j => .int (i / j)
theorem opB_fdiv {K : PySem.W.Frag} : OpB K (rI CDiv fun i j => .int (i / j)) fFdiv := opB_int (fun i j h => (of_decide_eq_true h : 0 < j ∧ j < 1073741824)) fun _ _ _ => by simp only [Dv]
def fMod : OpF := fI (fun i j => decide (0 < j)) fun i j => .int (i % j)
theorem opB_mod {K : PySem.W.Frag} : OpB K (rI (fun _ j => 0 < j) fun i j => .int (i % j)) fMod := opB_int (fun i j h => of_decide_eq_true h) fun _ _ _ => by simp only [Dv]
def fMul : OpF
  | .int i, .int j => if (-(2 ^ 64) < i ∧ i < 2 ^ 64) ∨ (-(2 ^ 64) < j ∧ j < 2 ^ 64) then some (.dat (.int (i * j))) else none
  | .list xs, .int k => if -(2 ^ 63) ≤ k ∧ k < 2 ^ 63 ∧ xs.length * k.toNat ≤ sizeLine then some (.frs (.lst (List.replicate k.toNat xs).flatten)) else none
  | .tuple xs, .int k => if xs ≠ [] ∧ 2 ≤ k ∧ k ≤ 1000 ∧ xs.length ≤ 1000 then some (.dat (.tuple (List.replicate k.toNat xs).flatten)) else none
  | _, _ => none
abbrev rMulR (K : PySem.W.Frag) : R2 := fun x y H Q => rI CMul (fun i j => .int (i * j)) x y H Q ∨ (rRep x y H Q ∨ rRepT K x y H Q)
theorem op_mulR {X : Cx} : OpR X (binaryOp .Mult) (rMulR X.K) := op_mul.or (op_rep.or op_repT)
theorem DvAll.rep {K : PySem.W.Frag} {H : Hp} {ds : List D} {xs : List V} (h : DvAll K H ds xs) : ∀ n : Nat, DvAll K H (List.replicate n ds).flatten (List.replicate n xs).flatten
  | 0 => .nil
  | n + 1 => by
    rw [List.replicate_succ, List.replicate_succ, List.flatten_cons, List.flatten_cons]
    exact h.append (DvAll.rep h n)
theorem opB_mul {K : PySem.W.Frag} : OpB K (rMulR K) fMul := by
  intro W H x y dx dy res Q hW hx hy e q
  unfold fMul at e
  split at e
  · split at e
    · cases e
      rw [hx.int, hy.int]
      exact .inl ⟨_, _, rfl, rfl, by assumption, q _ _ .int⟩
    · cases e
  · split at e
    · rename_i hc
      cases e
      rw [hy.int]
      obtain ⟨a, xs, rfl, h1, h2⟩ := hx.list
      refine .inr (.inl ⟨a, _, xs, rfl, rfl, h1, hc.1, hc.2.1, ?_, fun p hp => ?_⟩)
      · rw [← h2.length]; exact hc.2.2
      · exact q _ _ (.lst hp (h2.rep _))
    · cases e
  · split at e
    · rename_i hc
      cases e
      rw [hy.int]
      obtain ⟨a, xs, rfl, h1, h1', h2⟩ := hx.tuple
      refine .inr (.inr ⟨a, _, xs, rfl, rfl, h1', fun z => hc.1 ?_, hc.2.1, hc.2.2.1, ?_, fun p hp => ?_⟩)
      · have l := h2.length
        rw [z, List.length_nil] at l
        exact List.eq_nil_of_length_eq_zero l
      · rw [← h2.length]; exact hc.2.2.2
      · exact q _ _ (.tup hW hp (h2.rep _))
    · cases e
  · cases e

/-! ### == -/
theorem noDictS {d : D} (h : SeqAt.shaped d = true) : d.hasDict = false := PyData.hasDict_of_canLay d (SeqAt.canLay_of_shaped h)
def fEq : OpF := fun x y => if SeqAt.shaped x = true ∧ SeqAt.shaped y = true then some (.dat (.bool (PyData.eqv x y))) else none
def fNe : OpF := fun x y => if SeqAt.shaped x = true ∧ SeqAt.shaped y = true then some (.dat (.bool (!PyData.eqv x y))) else none
theorem opB_eq {K : PySem.W.Frag} : OpB K (rEqD K) fEq := by
  intro W H x y dx dy res Q hW hx hy e q
  unfold fEq at e
  split at e
  · rename_i hc
    cases e
    exact ⟨_, _, hx.dv.todp (noDictS hc.1), hy.dv.todp (noDictS hc.2), hc.1, hc.2, q _ _ .bl⟩
  · cases e
theorem opB_ne {K : PySem.W.Frag} : OpB K (rNeD K) fNe := by
  intro W H x y dx dy res Q hW hx hy e q
  unfold fNe at e
  split at e
  · rename_i hc
    cases e
    exact ⟨_, _, hx.dv.todp (noDictS hc.1), hy.dv.todp (noDictS hc.2), hc.1, hc.2, q _ _ .bl⟩
  · cases e
/-! ### <, <=, >, >= of ints; of tuples of ints -/
def intsOf : List D → Option (List Int)
  | [] => some []
  | .int i :: r => (intsOf r).map (i :: ·)
  | _ => none
theorem intsOf_dv {K : PySem.W.Frag} {H : Hp} : ∀ {ds : List D} {ns : List Int} {xs : List V}, intsOf ds = some ns → DvAll K H ds xs → xs = ns.map V.int
  | [], ns, xs, e, h => by simp [intsOf] at e; subst e; simp only [DvAll] at h; subst h; rfl
  | d :: ds, ns, xs, e, h => by
    cases d with
    | int i =>
      simp only [intsOf, Option.map_eq_some_iff] at e
      obtain ⟨ms, e1, rfl⟩ := e
      simp only [DvAll, Dv] at h
      obtain ⟨x, r, rfl, rfl, h3⟩ := h
      rw [List.map_cons, intsOf_dv e1 h3]
    | none => simp [intsOf] at e
    | bool _ => simp [intsOf] at e
    | str _ => simp [intsOf] at e
    | list _ => simp [intsOf] at e
    | tuple _ => simp [intsOf] at e
    | dict _ => simp [intsOf] at e
theorem intsOf_map : ∀ ns : List Int, intsOf (ns.map PyData.int) = some ns
  | [] => rfl
  | n :: ns => by simp [intsOf, intsOf_map ns]
def leT (ns ms : List Int) : Bool := Ob.lexAt (fun j => decide (ns.getD j 0 = ms.getD j 0)) (fun j => decide (ns.getD j 0 ≤ ms.getD j 0)) (decide (ns.length ≤ ms.length)) 0 (min ns.length ms.length)
def fLt : OpF
  | .int i, .int j => some (.dat (.bool (decide (i < j))))
  | .tuple xs, .tuple ys => match intsOf xs, intsOf ys with
    | some ns, some ms => some (.dat (.bool (HT.lexLt ns ms)))
    | _, _ => none
  | .str x, .str y => some (.dat (.bool (decide (x.cps.toList < y.cps.toList))))
  | _, _ => none
abbrev rLtR (K : PySem.W.Frag) : R2 := fun x y H Q => rI0 (fun i j => .bl (decide (i < j))) x y H Q ∨ (rLtT K x y H Q ∨ (∃ i j, x = .str i ∧ y = .str j ∧ Q (.bl (decide (i.cps.toList < j.cps.toList))) H))
theorem op_ltR {X : Cx} (hu : X.A.units < cLine) : OpR X (compareOp .Lt) (rLtR X.K) := op_lt.or ((op_ltT hu).or op_lt_str)
theorem opB_lt {K : PySem.W.Frag} : OpB K (rLtR K) fLt := by
  intro W H x y dx dy res Q hW hx hy e q
  unfold fLt at e
  split at e
  · cases e
    rw [hx.int, hy.int]
    exact .inl ⟨_, _, rfl, rfl, q _ _ .bl⟩
  · split at e
    · rename_i e1 e2
      cases e
      obtain ⟨a, xs, rfl, _, h1, h2⟩ := hx.tuple
      obtain ⟨b, ys, rfl, _, k1, k2⟩ := hy.tuple
      refine .inr (.inl ⟨a, b, _, _, rfl, rfl, ?_, ?_, q _ _ .bl⟩)
      · rw [← intsOf_dv e1 h2]; exact h1
      · rw [← intsOf_dv e2 k2]; exact k1
    · cases e
  · cases e
    rw [hx.str, hy.str]
    exact .inr (.inr ⟨_, _, rfl, rfl, q _ _ .bl⟩)
  · cases e
def fLe : OpF
  | .int i, .int j => some (.dat (.bool (decide (i ≤ j))))
  | .tuple xs, .tuple ys => match intsOf xs, intsOf ys with
    | some ns, some ms => some (.dat (.bool (leT ns ms)))
    | _, _ => none
  | _, _ => none
abbrev rLeR (K : PySem.W.Frag) : R2 := fun x y H Q => rI0 (fun i j => .bl (decide (i ≤ j))) x y H Q ∨ rLeT K x y H Q
theorem op_leR {X : Cx} (hu : X.A.units < cLine) : OpR X (compareOp .LtE) (rLeR X.K) := op_le.or (op_leT hu)
theorem opB_le {K : PySem.W.Frag} : OpB K (rLeR K) fLe := by
  intro W H x y dx dy res Q hW hx hy e q
  unfold fLe at e
  split at e
  · cases e
    rw [hx.int, hy.int]
    exact .inl ⟨_, _, rfl, rfl, q _ _ .bl⟩
  · split at e
    · rename_i e1 e2
      cases e
      obtain ⟨a, xs, rfl, _, h1, h2⟩ := hx.tuple
      obtain ⟨b, ys, rfl, _, k1, k2⟩ := hy.tuple
      refine .inr ⟨a, b, _, _, rfl, rfl, ?_, ?_, q _ _ .bl⟩
      · rw [← intsOf_dv e1 h2]; exact h1
      · rw [← intsOf_dv e2 k2]; exact k1
    · cases e
  · cases e
def fGt : OpF := fI0 fun i j => .bool (decide (j < i))
theorem opB_gt {K : PySem.W.Frag} : OpB K (rI0 fun i j => .bl (decide (j < i))) fGt := opB_int0 fun _ _ _ => by simp only [Dv]
def fGe : OpF := fI0 fun i j => .bool (decide (j ≤ i))
theorem opB_ge {K : PySem.W.Frag} : OpB K (rI0 fun i j => .bl (decide (j ≤ i))) fGe := opB_int0 fun _ _ _ => by simp only [Dv]
/-! ### in, not in -/
def flatD : D → Bool
  | .none => true
  | .bool _ => true
  | .int _ => true
  | .str _ => true
  | _ => false
theorem flat_dv {K : PySem.W.Frag} {H : Hp} {d : D} {v : V} (h : Dv K H d v) (f : flatD d = true) : flatV v = true ∧ ∀ {e : D} {u : V}, Dv K H e u → flatD e = true → eqV v u = PyData.eqv d e := by
  have key : ∀ {d : D} {v : V}, Dv K H d v → flatD d = true → (d = .none ∧ v = .non) ∨ (∃ b, d = .bool b ∧ v = .bl b) ∨ (∃ i, d = .int i ∧ v = .int i) ∨ (∃ x, d = .str x ∧ v = .str x) := by
    intro d v h f
    cases d <;> simp [flatD] at f <;> simp only [Dv] at h <;> subst h <;> simp
  refine ⟨?_, fun {e u} h' f' => ?_⟩
  · rcases key h f with ⟨rfl, rfl⟩ | ⟨b, rfl, rfl⟩ | ⟨i, rfl, rfl⟩ | ⟨x, rfl, rfl⟩ <;> rfl
  · rcases key h f with ⟨rfl, rfl⟩ | ⟨b, rfl, rfl⟩ | ⟨i, rfl, rfl⟩ | ⟨x, rfl, rfl⟩ <;>
      rcases key h' f' with ⟨rfl, rfl⟩ | ⟨b', rfl, rfl⟩ | ⟨i', rfl, rfl⟩ | ⟨x', rfl, rfl⟩ <;> simp only [eqV, PyData.eqv]
theorem flat_all {K : PySem.W.Frag} {H : Hp} {d : D} {v : V} (h : Dv K H d v) (f : flatD d = true) : ∀ {es : List D} {us : List V}, DvAll K H es us → es.all flatD = true → us.all flatV = true ∧ inV v us = es.any fun z => PyData.eqv z d
  | [], us, h', _ => by simp only [DvAll] at h'; subst h'; exact ⟨rfl, rfl⟩
  | e :: es, us, h', f' => by
    simp only [DvAll] at h'
    obtain ⟨x, r, rfl, h2, h3⟩ := h'
    rw [List.all_cons, Bool.and_eq_true] at f'
    obtain ⟨i1, i2⟩ := flat_all h f h3 f'.2
    obtain ⟨j1, j2⟩ := flat_dv h2 f'.1
    refine ⟨by rw [List.all_cons, j1, i1]; rfl, ?_⟩
    unfold inV at i2 ⊢
    rw [List.any_cons, List.any_cons, i2, j2 h f]
def inStr (x y : Str) : Bool := !(Builtin.Str.occurrences y x 0 y.length 1).isEmpty
def inD : D → D → Option Bool
  | x, .list ys => if flatD x = true ∧ ys.all flatD = true then some (ys.any fun z => PyData.eqv z x) else
      if SeqAt.shaped x = true ∧ SeqAt.shaped (.list ys) = true then some (ys.any fun z => PyData.eqv z x) else none
  | x, .tuple ys => if flatD x = true ∧ ys.all flatD = true then some (ys.any fun z => PyData.eqv z x) else none
  | .str x, .str y => some (inStr x y)
  | _, _ => none
def fIn : OpF := fun x y => (inD x y).map fun b => .dat (.bool b)
def fNotIn : OpF := fun x y => (inD x y).map fun b => .dat (.bool (!b))
abbrev rInR (K : PySem.W.Frag) : R2 := fun x y H Q => rIn K false x y H Q ∨ (rInD K x y H Q ∨ (∃ i j, x = .str i ∧ y = .str j ∧ Q (.bl (!(Builtin.Str.occurrences j i 0 j.length 1).isEmpty)) H))
theorem op_inR {X : Cx} (hu : X.A.units + 65 < cLine) : OpR X (compareOp .In) (rInR X.K) := op_in_seq.or ((op_inD hu).or op_in_str)
abbrev rNotInR (K : PySem.W.Frag) : R2 := fun x y H Q => rIn K true x y H Q ∨ (rNotInD K x y H Q ∨ (∃ i j, x = .str i ∧ y = .str j ∧ Q (.bl (!(!(Builtin.Str.occurrences j i 0 j.length 1).isEmpty))) H))
theorem op_notInR {X : Cx} (hu : X.A.units + 65 < cLine) : OpR X (compareOp .NotIn) (rNotInR X.K) := op_notIn_seq.or ((op_notInD hu).or L2.op_notIn_str)
theorem flatAll_dv {K : PySem.W.Frag} {H : Hp} {d : D} {v : V} {es : List D} {us : List V} (h : Dv K H d v) (f : flatD d = true) (h' : DvAll K H es us) (f' : es.all flatD = true) : flatV v = true ∧ us.all flatV = true ∧ inV v us = es.any fun z => PyData.eqv z d :=
  ⟨(flat_dv h f).1, (flat_all h f h' f').1, (flat_all h f h' f').2⟩
theorem opB_in {K : PySem.W.Frag} : OpB K (rInR K) fIn := by
  intro W H x y dx dy res Q hW hx hy e q
  unfold fIn at e
  rw [Option.map_eq_some_iff] at e
  obtain ⟨b, e, rfl⟩ := e
  unfold inD at e
  split at e
  · rename_i ys
    obtain ⟨a, xs, rfl, h1, h2⟩ := hy.list
    split at e
    · rename_i hc
      cases e
      obtain ⟨f1, f2, f3⟩ := flatAll_dv hx.dv hc.1 (h2.ext hid_ext) hc.2
      refine .inl ⟨a, xs, rfl, .inl (SqL.of h1), f1, f2, ?_⟩
      rw [if_neg Bool.false_ne_true, f3]
      exact q _ _ .bl
    · split at e
      · rename_i hc
        cases e
        exact .inr (.inl ⟨_, _, hx.dv.todp (noDictS hc.1), hy.dv.todp (noDictS hc.2), hc.1, hc.2, q _ _ .bl⟩)
      · cases e
  · rename_i ys
    obtain ⟨a, xs, rfl, _, h1, h2⟩ := hy.tuple
    split at e
    · rename_i hc
      cases e
      obtain ⟨f1, f2, f3⟩ := flatAll_dv hx.dv hc.1 (h2.ext hid_ext) hc.2
      refine .inl ⟨a, xs, rfl, .inr h1, f1, f2, ?_⟩
      rw [if_neg Bool.false_ne_true, f3]
      exact q _ _ .bl
    · cases e
  · cases e
    rw [hx.str, hy.str]
    exact .inr (.inr ⟨_, _, rfl, rfl, q _ _ .bl⟩)
  · cases e
theorem opB_notIn {K : PySem.W.Frag} : OpB K (rNotInR K) fNotIn := by
  intro W H x y dx dy res Q hW hx hy e q
  unfold fNotIn at e
  rw [Option.map_eq_some_iff] at e
  obtain ⟨b, e, rfl⟩ := e
  unfold inD at e
  split at e
  · rename_i ys
    obtain ⟨a, xs, rfl, h1, h2⟩ := hy.list
    split at e
    · rename_i hc
      cases e
      obtain ⟨f1, f2, f3⟩ := flatAll_dv hx.dv hc.1 (h2.ext hid_ext) hc.2
      refine .inl ⟨a, xs, rfl, .inl (SqL.of h1), f1, f2, ?_⟩
      rw [if_pos rfl, f3]
      exact q _ _ .bl
    · split at e
      · rename_i hc
        cases e
        exact .inr (.inl ⟨_, _, hx.dv.todp (noDictS hc.1), hy.dv.todp (noDictS hc.2), hc.1, hc.2, q _ _ .bl⟩)
      · cases e
  · rename_i ys
    obtain ⟨a, xs, rfl, _, h1, h2⟩ := hy.tuple
    split at e
    · rename_i hc
      cases e
      obtain ⟨f1, f2, f3⟩ := flatAll_dv hx.dv hc.1 (h2.ext hid_ext) hc.2
      refine .inl ⟨a, xs, rfl, .inr h1, f1, f2, ?_⟩
      rw [if_pos rfl, f3]
      exact q _ _ .bl
    · cases e
  · cases e
    rw [hx.str, hy.str]
    exact .inr (.inr ⟨_, _, rfl, rfl, q _ _ .bl⟩)
  · cases e
/-! ### is None -/
def isNoneD : D → Bool
  | .none => true
  | _ => false
def fIs : OpF
  | x, .none => some (.dat (.bool (isNoneD x)))
  | _, _ => none
def fIsNot : OpF
  | x, .none => some (.dat (.bool (!isNoneD x)))
  | _, _ => none
theorem isNone_dv {K : PySem.W.Frag} {H : Hp} {d : D} {v : V} (h : Dv K H d v) : isNoneD d = decide (v = .non) := by
  cases d <;> simp only [Dv] at h
  · subst h; rfl
  · subst h; rfl
  · subst h; rfl
  · subst h; rfl
  · obtain ⟨_, _, rfl, _⟩ := h; rfl
  · obtain ⟨_, _, rfl, _⟩ := h; rfl
  · obtain ⟨_, _, rfl, _⟩ := h; rfl
abbrev rIsR : R2 := fun x y H Q => y = .non ∧ Q (.bl (decide (x = .non))) H
abbrev rIsNotR : R2 := fun x y H Q => y = .non ∧ Q (.bl (!decide (x = .non))) H
theorem opB_is {K : PySem.W.Frag} : OpB K rIsR fIs := by
  intro W H x y dx dy res Q hW hx hy e q
  unfold fIs at e
  split at e
  · cases e
    refine ⟨hy.non, ?_⟩
    rw [← isNone_dv hx.dv]
    exact q _ _ .bl
  · cases e
theorem opB_isNot {K : PySem.W.Frag} : OpB K rIsNotR fIsNot := by
  intro W H x y dx dy res Q hW hx hy e q
  unfold fIsNot at e
  split at e
  · cases e
    refine ⟨hy.non, ?_⟩
    rw [← isNone_dv hx.dv]
    exact q _ _ .bl
  · cases e
end Vl

set_option Elab.async false
set_option linter.all false
set_option maxRecDepth 100000
namespace Vl
open PySem PySem.Spec PyProof.Rows L2

/-! ### names, constants -/
def mVar (i : Nat) : EM := fun ρ => match ρ[i]? with
  | some (.dat d) => .ok (.dat d) ρ
  | some (.own _) => .ok (.slt i) ρ
  | some (.par _) => .ok (.slt i) ρ
  | _ => .stuck
theorem var_red {K : PySem.W.Frag} {W : WX} {i : Nat} {σ : Sg} {H : Hp} {Q : VK} (h : tV K W (mVar i) σ H Q) : tVar i σ H Q := by
  obtain ⟨c, ad, ρ, I, h⟩ := h
  unfold mVar at h
  split at h
  · obtain ⟨v, h1, h2⟩ := I.dat _ _ (by assumption)
    exact ⟨v, h1, h v H ⟨I, h2⟩⟩
  · rename_i o e
    obtain ⟨h1, h2, _⟩ := I.at_ i _ (.inl e)
    exact ⟨_, h1, h _ H ⟨I, ⟨_, .inl e⟩, rfl⟩⟩
  · rename_i o e
    obtain ⟨h1, h2, _⟩ := I.at_ i _ (.inr e)
    exact ⟨_, h1, h _ H ⟨I, ⟨_, .inr e⟩, rfl⟩⟩
  · exact h.elim
section
variable {X : Cx} {W : WX}
theorem ve_var (i : Nat) {x : Str} {pos : Pos} (hN : X.N[i]? = some x := by rfl) (hv : Vis X.env.scope x := by first | exact Or.inl rfl | exact Or.inr (Or.inl rfl) | exact Or.inr (Or.inr rfl)) (hd : (x == ("__debug__" : Str)) = false := by decide)
    (hcd : (x == ("__classdict__" : Str)) = false := by decide) : VE X W (.Name x pos) (mVar i) := pe_imp (pe_var hN hv hd hcd) fun _ _ _ => var_red
end
def mK (d : D) : EM := fun ρ => .ok (.dat d) ρ
/-- a written value: it reads so in every heap -/
def KV (K : PySem.W.Frag) (d : D) (v : V) : Prop := ∀ H : Hp, Dv K H d v
theorem k_red {K : PySem.W.Frag} {W : WX} {d : D} {v : V} (k : KV K d v) {σ : Sg} {H : Hp} {Q : VK} (h : tV K W (mK d) σ H Q) : tC v σ H Q := by
  obtain ⟨c, ad, ρ, I, h⟩ := h
  exact h v H ⟨I, k _⟩
section
variable {X : Cx} {W : WX}
theorem ve_int {i : Int} {j pos} : VE X W (.Constant (.int i) j pos) (mK (.int i)) := pe_imp pe_int fun _ _ _ => k_red fun _ => by simp only [Dv]
theorem ve_str {x : Str} {j pos} : VE X W (.Constant (.str x) j pos) (mK (.str x)) := pe_imp pe_str fun _ _ _ => k_red fun _ => by simp only [Dv]
theorem ve_bl {b : Bool} {j pos} : VE X W (.Constant (.bool b) j pos) (mK (.bool b)) := pe_imp pe_bl fun _ _ _ => k_red fun _ => by simp only [Dv]
theorem ve_non {j pos} : VE X W (.Constant .none j pos) (mK .none) := pe_imp pe_non fun _ _ _ => k_red fun _ => by simp only [Dv]
/-- a module's constant -/
theorem ve_glob {x : Str} {d : D} {v : V} {u : Value} {pos : Pos} (hg : Gl X x) (hm : X.mg x = some u) (r : RelV v u) (k : KV X.K d v) (hd : (x == ("__debug__" : Str)) = false := by decide) : VE X W (.Name x pos) (mK d) :=
  pe_imp (pe_glob hg hm r hd) fun _ _ _ => k_red k
end

/-! ### tests -/
abbrev TM := List Sl → Rg Bool
def OkB (K : PySem.W.Frag) (c : Fx) (ad : Nat → Addr) (σ : Sg) (Q : Bool → Hp → Prop) (b : Bool) (ρ : List Sl) : Prop := ∀ H, EnvOk K c ad σ H ρ → Q b H
def tTm (K : PySem.W.Frag) (W : WX) (m : TM) : TT := fun σ H Q => ∃ c ad ρ, EnvOk K c ad σ H ρ ∧ Wants (m ρ) (OkB K c ad σ Q) (ExQ K c ad σ W)
abbrev VT (X : Cx) (W : WX) (e : Expr) (m : TM) : Prop := PT X e (tTm X.K W m)
abbrev VW (X : Cx) (W : WX) (e : Expr) (m : TM) : Prop := PW X e (tTm X.K W m)
/-- a truth value's test -/
def mTB (m : EM) : TM := fun ρ => (m ρ).bind fun r ρ' => match r with
  | .dat (.bool b) => .ok b ρ'
  | _ => .stuck
theorem tb_red {K : PySem.W.Frag} {W : WX} {m : EM} {σ : Sg} {H : Hp} {Q : Bool → Hp → Prop} (h : tTm K W (mTB m) σ H Q) : tV K W m σ H fun x H' => ∃ k, x = .bl k ∧ Q k H' := by
  obtain ⟨c, ad, ρ, I, h⟩ := h
  refine ⟨c, ad, ρ, I, h.of_bind.mono (fun r ρ' q v H' p => ?_) fun _ _ k => k⟩
  cases r with
  | dat d =>
    cases d with
    | bool b =>
      obtain ⟨I', e⟩ := p
      simp only [Dv] at e
      exact ⟨b, e, q H' I'⟩
    | none => exact q.elim
    | int _ => exact q.elim
    | str _ => exact q.elim
    | list _ => exact q.elim
    | tuple _ => exact q.elim
    | dict _ => exact q.elim
  | frs o => exact q.elim
  | slt i => exact q.elim
/-- data's truth -/
def truD : D → Option Bool
  | .none => some false
  | .bool b => some b
  | .int i => some (i != 0)
  | .str x => if x.length ≤ sizeLine then some ((x.length : Int) != 0) else none
  | .list xs => some (!xs.isEmpty)
  | .tuple xs => some (!xs.isEmpty)
  | .dict _ => none
theorem tru_dv {K : PySem.W.Frag} {W : Addr → Prop} {H : Hp} {d : D} {v : V} {b : Bool} (h : Dt K W H d v) (e : truD d = some b) : TruV K v H b := by
  cases d with
  | none => simp only [truD] at e; cases e; rw [h.non]; rfl
  | bool k => simp only [truD] at e; cases e; rw [h.bl]; rfl
  | int k => simp only [truD] at e; cases e; rw [h.int]; rfl
  | str k =>
    simp only [truD] at e
    split at e
    · cases e; rw [h.str]; exact ⟨by assumption, rfl⟩
    · cases e
  | list xs =>
    simp only [truD] at e; cases e
    obtain ⟨a, us, rfl, h1, h2⟩ := h.list
    refine .inl ⟨us, SqL.of h1, ?_⟩
    have l := h2.length
    cases xs <;> cases us <;> simp at l <;> rfl
  | tuple xs =>
    simp only [truD] at e; cases e
    obtain ⟨a, us, rfl, _, h1, h2⟩ := h.tuple
    refine .inr (.inl ⟨us, h1, ?_⟩)
    have l := h2.length
    cases xs <;> cases us <;> simp at l <;> rfl
  | dict xs => simp [truD] at e
def mTr (m : EM) : TM := fun ρ => (m ρ).bind fun r ρ' => ofO (dref ρ' r) fun d => ofO (truD d) fun b => .ok b ρ'
theorem tr_red {K : PySem.W.Frag} {W : WX} {m : EM} {σ : Sg} {H : Hp} {Q : Bool → Hp → Prop} (h : tTm K W (mTr m) σ H Q) : tV K W m σ H fun x H' => ∃ k, TruV K x H' k ∧ Q k H' := by
  obtain ⟨c, ad, ρ, I, h⟩ := h
  refine ⟨c, ad, ρ, I, h.of_bind.mono (fun r ρ' q v H' p => ?_) fun _ _ k => k⟩
  obtain ⟨d, e1, q⟩ := q.of_ofO
  obtain ⟨b, e2, q⟩ := q.of_ofO
  obtain ⟨I', t⟩ := post_dt p e1
  exact ⟨b, tru_dv t e2, q H' I'⟩
def mNotT (m : TM) : TM := fun ρ => (m ρ).bind fun b ρ' => .ok (!b) ρ'
def mAndT (a b : TM) : TM := fun ρ => (a ρ).bind fun k ρ' => if k = true then b ρ' else .ok false ρ'
def mOrT (a b : TM) : TM := fun ρ => (a ρ).bind fun k ρ' => if k = true then .ok true ρ' else b ρ'
section
variable {X : Cx} {W : WX} {a b c : Expr} {rest : List Expr} {ma mb mc : EM} {ta tb tc : TM} {pos : Pos} {r r' : R2} {f g : OpF}
theorem vt_cmp {op : CmpOp} (ho : OpR X (compareOp op) r) (hf : OpB X.K r f) (ha : VE X W a ma) (hb : VE X W b mb) (hm : behindInMarks op b = false) : VT X W (.Compare a [op] [b] pos) (mTB (mBin f ma mb)) :=
  pt_imp (pt_cmpR ho ha hb hm) fun _ _ _ h => bin_red hf (tb_red h)
theorem vt_tr (ha : VE X W a ma) (he : ∀ whole, isTrue a X.env whole = (do let v ← whole; standAt a.pos; holding [v] (truthy v)) := by intro _; rfl) : VT X W a (mTr ma) :=
  pt_imp (pt_truth ha he) fun _ _ _ h => tr_red h
theorem vt_not (ha : VT X W a ta) : VT X W (.UnaryOp .Not a pos) (mNotT ta) :=
  pt_imp (pt_not ha) fun σ H Q ⟨c, ad, ρ, I, h⟩ => ⟨c, ad, ρ, I, h.of_bind.mono (fun k ρ' q H' I' => q H' I') fun _ _ k => k⟩
theorem vw_and1 (ha : VT X W a ta) : VW X W (.BoolOp .And [a] pos) ta := pw_and1 ha
theorem vw_or1 (ha : VT X W a ta) : VW X W (.BoolOp .Or [a] pos) ta := pw_or1 ha
theorem pw_imp {e : Expr} {t t' : TT} (h : PW X e t) (g : ∀ σ H Q, t' σ H Q → t σ H Q) : PW X e t' := ⟨fun whole pins s σ H Q I q => h.run whole pins s σ H Q I (g σ H Q q)⟩
theorem vw_and (ha : VT X W a ta) (hb : VW X W (.BoolOp .And (b :: rest) pos) tb) : VW X W (.BoolOp .And (a :: b :: rest) pos) (mAndT ta tb) :=
  pw_imp (pw_and ha hb) fun σ H Q ⟨c, ad, ρ, I, h⟩ => ⟨c, ad, ρ, I, h.of_bind.mono (fun k ρ' q H' I' => by
    cases k with
    | true => exact ⟨c, ad, ρ', I', q⟩
    | false => exact q H' I') fun _ _ k => k⟩
theorem vw_or (ha : VT X W a ta) (hb : VW X W (.BoolOp .Or (b :: rest) pos) tb) : VW X W (.BoolOp .Or (a :: b :: rest) pos) (mOrT ta tb) :=
  pw_imp (pw_or ha hb) fun σ H Q ⟨c, ad, ρ, I, h⟩ => ⟨c, ad, ρ, I, h.of_bind.mono (fun k ρ' q H' I' => by
    cases k with
    | true => exact q H' I'
    | false => exact ⟨c, ad, ρ', I', q⟩) fun _ _ k => k⟩
theorem vt_w {e : Expr} (h : VW X W e ta) : VT X W e ta := h.pt
end
/-! ### and, or, not as values; a if t else b -/
def mAnd (a b : EM) : EM := fun ρ => (a ρ).bind fun r ρ' => ofO (dref ρ' r) fun d => ofO (truD d) fun k => if k = true then b ρ' else .ok r ρ'
def mOr (a b : EM) : EM := fun ρ => (a ρ).bind fun r ρ' => ofO (dref ρ' r) fun d => ofO (truD d) fun k => if k = true then .ok r ρ' else b ρ'
def mNot (a : EM) : EM := fun ρ => (a ρ).bind fun r ρ' => ofO (dref ρ' r) fun d => ofO (truD d) fun k => .ok (.dat (.bool (!k))) ρ'
def mIf (t : TM) (a b : EM) : EM := fun ρ => (t ρ).bind fun k ρ' => if k = true then a ρ' else b ρ'
section
variable {X : Cx} {W : WX} {a b c : Expr} {rest : List Expr} {ma mb mc : EM} {ta tb tc : TM} {pos : Pos}
theorem ve_one {op} (h : VE X W a ma) : VE X W (.BoolOp op [a] pos) ma := pe_one h
theorem ve_and (ha : VE X W a ma) (hb : VE X W (.BoolOp .And (b :: rest) pos) mb) : VE X W (.BoolOp .And (a :: b :: rest) pos) (mAnd ma mb) :=
  pe_imp (pe_andT ha hb) fun σ H Q ⟨c, ad, ρ, I, h⟩ => ⟨c, ad, ρ, I, h.of_bind.mono (fun r ρ' q v H' p => by
    obtain ⟨d, e1, q⟩ := q.of_ofO
    obtain ⟨k, e2, q⟩ := q.of_ofO
    obtain ⟨I', t⟩ := post_dt p e1
    refine ⟨k, tru_dv t e2, ?_⟩
    cases k with
    | true => exact ⟨c, ad, ρ', I', q⟩
    | false => exact q v H' p) fun _ _ k => k⟩
theorem ve_or (ha : VE X W a ma) (hb : VE X W (.BoolOp .Or (b :: rest) pos) mb) : VE X W (.BoolOp .Or (a :: b :: rest) pos) (mOr ma mb) :=
  pe_imp (pe_orT ha hb) fun σ H Q ⟨c, ad, ρ, I, h⟩ => ⟨c, ad, ρ, I, h.of_bind.mono (fun r ρ' q v H' p => by
    obtain ⟨d, e1, q⟩ := q.of_ofO
    obtain ⟨k, e2, q⟩ := q.of_ofO
    obtain ⟨I', t⟩ := post_dt p e1
    refine ⟨k, tru_dv t e2, ?_⟩
    cases k with
    | true => exact q v H' p
    | false => exact ⟨c, ad, ρ', I', q⟩) fun _ _ k => k⟩
theorem dv_bl {K : PySem.W.Frag} {H : Hp} {b : Bool} : Dv K H (.bool b) (.bl b) := by simp only [Dv]
theorem dv_int {K : PySem.W.Frag} {H : Hp} {b : Int} : Dv K H (.int b) (.int b) := by simp only [Dv]
theorem dv_str {K : PySem.W.Frag} {H : Hp} {b : Str} : Dv K H (.str b) (.str b) := by simp only [Dv]
theorem dv_non {K : PySem.W.Frag} {H : Hp} : Dv K H .none .non := by simp only [Dv]
theorem ve_not (ha : VE X W a ma) : VE X W (.UnaryOp .Not a pos) (mNot ma) :=
  pe_imp (pe_notT ha) fun σ H Q ⟨c, ad, ρ, I, h⟩ => ⟨c, ad, ρ, I, h.of_bind.mono (fun r ρ' q v H' p => by
    obtain ⟨d, e1, q⟩ := q.of_ofO
    obtain ⟨k, e2, q⟩ := q.of_ofO
    obtain ⟨I', t⟩ := post_dt p e1
    exact ⟨k, tru_dv t e2, q _ H' ⟨I', dv_bl⟩⟩) fun _ _ k => k⟩
theorem ve_if (hc : VT X W c tc) (ha : VE X W a ma) (hb : VE X W b mb) : VE X W (.IfExp c a b pos) (mIf tc ma mb) :=
  pe_imp (pe_ifExp hc ha hb) fun σ H Q ⟨c, ad, ρ, I, h⟩ => ⟨c, ad, ρ, I, h.of_bind.mono (fun k ρ' q H' I' => by
    cases k with
    | true => exact ⟨c, ad, ρ', I', q⟩
    | false => exact ⟨c, ad, ρ', I', q⟩) fun _ _ k => k⟩
end
/-! ### -a -/
def mNeg (a : EM) : EM := fun ρ => (a ρ).bind fun r ρ' => match r with
  | .dat (.int i) => .ok (.dat (.int (-i))) ρ'
  | _ => .stuck
section
variable {X : Cx} {W : WX} {a b c : Expr} {ma mb mc : EM} {pos : Pos}
theorem ve_neg (ha : VE X W a ma) : VE X W (.UnaryOp .USub a pos) (mNeg ma) :=
  pe_imp (pe_un un_neg ha) fun σ H Q ⟨c, ad, ρ, I, h⟩ => ⟨c, ad, ρ, I, h.of_bind.mono (fun r ρ' q v H' p => by
    cases r with
    | dat d =>
      cases d with
      | int i =>
        obtain ⟨I', e⟩ := p
        simp only [Dv] at e
        exact ⟨i, e, q _ H' ⟨I', dv_int⟩⟩
      | none => exact q.elim
      | bool _ => exact q.elim
      | str _ => exact q.elim
      | list _ => exact q.elim
      | tuple _ => exact q.elim
      | dict _ => exact q.elim
    | frs o => exact q.elim
    | slt i => exact q.elim) fun _ _ k => k⟩
end
/-! ### a op b op' c -/
def mChain (f g : OpF) (a b c : EM) : EM := fun ρ =>
  (a ρ).bind fun ra ρ1 => ofO (fz ra) fun ra => (b ρ1).bind fun rb ρ2 => ofO (fz rb) fun rb => ofO (dref ρ2 ra) fun x => ofO (dref ρ2 rb) fun y => ofO (f x y) fun z => match z with
    | .dat (.bool k) => if k = true then (c ρ2).bind fun rc ρ3 => ofO (dref ρ3 rb) fun y => ofO (dref ρ3 rc) fun w => ofO (g y w) fun r => .ok r ρ3 else .ok (.dat (.bool false)) ρ2
    | _ => .stuck
theorem Post.held {K : PySem.W.Frag} {c : Fx} {ad : Nat → Addr} {σ : Sg} {r r' : Res} {ρ : List Sl} {v : V} {H : Hp} (hp : Post K c ad σ r ρ v H) (hf : fz r = some r') : Held K c ad ρ H v r' := by
  have hp' := fz_ok hf hp
  cases r' with
  | dat d => exact hp'.2
  | slt i => exact hp'.2.2
  | frs o =>
    cases r with
    | dat d => simp [fz] at hf
    | slt i => simp [fz] at hf
    | frs o' => cases o' <;> simp [fz] at hf
theorem chain_red {K : PySem.W.Frag} {W : WX} {r r' : R2} {f g : OpF} {ma mb mc : EM} (hf : OpB K r f) (hg : OpB K r' g) {σ : Sg} {H : Hp} {Q : VK} (h : tV K W (mChain f g ma mb mc) σ H Q) : tChain r r' (tV K W ma) (tV K W mb) (tV K W mc) σ H Q := by
  obtain ⟨c, ad, ρ, I, h⟩ := h
  refine ⟨c, ad, ρ, I, h.of_bind.mono (fun ra ρ1 q x H1 hp => ?_) fun _ _ k => k⟩
  obtain ⟨ra', ea, q⟩ := q.of_ofO
  refine hold_next hp ea (q.of_bind.mono (fun rb ρ2 k y H2 hy hh => ?_) fun _ _ k => k)
  obtain ⟨rb', eb, k⟩ := k.of_ofO
  obtain ⟨dx, ex, k⟩ := k.of_ofO
  obtain ⟨dy, ey, k⟩ := k.of_ofO
  obtain ⟨z, ez, k⟩ := k.of_ofO
  have I2 := hy.env
  have hy' := hy.held eb
  have ty := Held.dt I2 hy' ey
  refine hf _ _ _ _ _ _ _ _ (fun a w => I2.wr w) (Held.dt I2 hh ex) ty ez fun v H3 n => ?_
  cases z with
  | frs o => exact k.elim
  | slt i => exact k.elim
  | dat d =>
    cases d with
    | none => exact k.elim
    | int _ => exact k.elim
    | str _ => exact k.elim
    | list _ => exact k.elim
    | tuple _ => exact k.elim
    | dict _ => exact k.elim
    | bool b =>
      obtain ⟨I3, e⟩ := n.post I2
      simp only [Dv] at e
      refine ⟨b, e, ?_⟩
      cases b with
      | false => exact k _ H3 ⟨I3, dv_bl⟩
      | true =>
        have hy3 : Held K c ad ρ2 H3 y rb' := by
          cases rb' with
          | dat d => exact Dv.ext (hid_mono fun a o m q => ⟨m, n.1 a o q⟩) _ _ hy'
          | slt i => exact hy'
          | frs o => exact hy'
        have go : ∀ (c' : Fx), EnvOk K c' ad σ H3 ρ2 → (∀ rc ρ3 w H4, Post K c' ad σ rc ρ3 w H4 → Post K c ad σ rc ρ3 w H4 ∧ Held K c ad ρ3 H4 y rb') → (∀ x ρ3, ExQ K c ad σ W x ρ3 → ExQ K c' ad σ W x ρ3) → tV K W mc σ H3 fun w' H4 => r' y w' H4 Q := by
          intro c' I' hk hx
          refine ⟨c', ad, ρ2, I', k.of_bind.mono (fun rc ρ3 q w H4 hw => ?_) fun x ρ' q => hx _ _ q⟩
          obtain ⟨d1, e1, q⟩ := q.of_ofO
          obtain ⟨d2, e2, q⟩ := q.of_ofO
          obtain ⟨r3, e3, q⟩ := q.of_ofO
          obtain ⟨hw', hy4⟩ := hk _ _ _ _ hw
          obtain ⟨I4, t4⟩ := post_dt hw' e2
          exact hg _ _ _ _ _ _ _ _ (fun a w => I4.wr w) (Held.dt I4 hy4 e1) t4 e3 fun v H5 n5 => q v H5 (n5.post I4)
        cases rb' with
        | dat d =>
          exact go (c.hold [(d, y)]) (I3.hold (fun p hp => by rw [List.mem_singleton.mp hp]; exact hy3)) (fun rc ρ3 w H4 hw => ⟨hw.unhold, hw.env.held (d, y) (List.mem_singleton.mpr rfl)⟩) fun x ρ3 q => q.unhold
        | slt i => exact go c I3 (fun rc ρ3 w H4 hw => ⟨hw, hy3⟩) fun x ρ3 q => q
        | frs o => exact hy3.elim
section
variable {X : Cx} {W : WX} {a b c : Expr} {ma mb mc : EM} {pos : Pos} {r r' : R2} {f g : OpF}
theorem ve_chain {op op' : CmpOp} (ho : OpR X (compareOp op) r) (hf : OpB X.K r f) (ho' : OpR X (compareOp op') r') (hg : OpB X.K r' g) (ha : VE X W a ma) (hb : VE X W b mb) (hc : VE X W c mc)
    (hm : lastMarks [op, op'] [b, c] = false) : VE X W (.Compare a [op, op'] [b, c] pos) (mChain f g ma mb mc) := pe_imp (pe_chain ho ho' ha hb hc hm) fun _ _ _ => chain_red hf hg
theorem vt_chain {op op' : CmpOp} (ho : OpR X (compareOp op) r) (hf : OpB X.K r f) (ho' : OpR X (compareOp op') r') (hg : OpB X.K r' g) (ha : VE X W a ma) (hb : VE X W b mb) (hc : VE X W c mc)
    (hm : lastMarks [op, op'] [b, c] = false) : VT X W (.Compare a [op, op'] [b, c] pos) (mTB (mChain f g ma mb mc)) := pt_imp (pt_chain ho ho' ha hb hc hm) fun _ _ _ h => chain_red hf hg (tb_red h)
end
/-! ### argument lists -/
abbrev AM := List Sl → Rg (List Res)
def HeldAll (K : PySem.W.Frag) (c : Fx) (ad : Nat → Addr) (ρ : List Sl) (H : Hp) : List Res → List V → Prop
  | [], vs => vs = []
  | r :: rs, vs => ∃ v us, vs = v :: us ∧ Held K c ad ρ H v r ∧ HeldAll K c ad ρ H rs us
def OkA (K : PySem.W.Frag) (c : Fx) (ad : Nat → Addr) (σ : Sg) (Q : List V → Hp → Prop) (rs : List Res) (ρ : List Sl) : Prop := ∀ vs H, EnvOk K c ad σ H ρ → HeldAll K c ad ρ H rs vs → Q vs H
def tAm (K : PySem.W.Frag) (W : WX) (m : AM) : TA := fun σ H Q => ∃ c ad ρ, EnvOk K c ad σ H ρ ∧ Wants (m ρ) (OkA K c ad σ Q) (ExQ K c ad σ W)
theorem HeldAll.unhold {K : PySem.W.Frag} {c : Fx} {g : List (D × V)} {ad : Nat → Addr} {ρ : List Sl} {H : Hp} : ∀ {rs : List Res} {vs : List V}, HeldAll K (c.hold g) ad ρ H rs vs → HeldAll K c ad ρ H rs vs
  | [], _, h => h
  | r :: rs, _, ⟨v, us, e, h1, h2⟩ => ⟨v, us, e, (by cases r <;> exact h1), HeldAll.unhold h2⟩
abbrev VA (X : Cx) (W : WX) (es : List Expr) (m : AM) : Prop := PA X es (tAm X.K W m)
def aNil : AM := fun ρ => .ok [] ρ
def aCons (a : EM) (r : AM) : AM := fun ρ => (a ρ).bind fun x ρ1 => ofO (fz x) fun x => (r ρ1).bind fun xs ρ2 => .ok (x :: xs) ρ2
section
variable {X : Cx} {W : WX} {e : Expr} {es : List Expr} {me : EM} {ms : AM} {pos : Pos}
theorem pa_imp {t t' : TA} (h : PA X es t) (g : ∀ σ H Q, t' σ H Q → t σ H Q) : PA X es t' := ⟨fun p pins s σ H Q I q => h.run p pins s σ H Q I (g σ H Q q)⟩
theorem va_nil : VA X W [] aNil := pa_imp pa_nil fun σ H Q ⟨c, ad, ρ, I, h⟩ => h [] H I rfl
theorem cons_red {K : PySem.W.Frag} {σ : Sg} {H : Hp} {Q : List V → Hp → Prop} (h : tAm K W (aCons me ms) σ H Q) : tCons (tV K W me) (tAm K W ms) σ H Q := by
  obtain ⟨c, ad, ρ, I, h⟩ := h
  refine ⟨c, ad, ρ, I, h.of_bind.mono (fun ra ρ1 q x H1 hp => ?_) fun _ _ k => k⟩
  obtain ⟨ra', ea, q⟩ := q.of_ofO
  have hx := hp.held ea
  have I1 := hp.env
  cases ra' with
  | frs o => exact hx.elim
  | slt i => exact ⟨c, ad, ρ1, I1, q.of_bind.mono (fun rs ρ2 k vs H2 I2 hv => k (x :: vs) H2 I2 ⟨x, vs, rfl, hx, hv⟩) fun _ _ k => k⟩
  | dat d =>
    refine ⟨c.hold [(d, x)], ad, ρ1, I1.hold (fun p hp => by rw [List.mem_singleton.mp hp]; exact hx), q.of_bind.mono (fun rs ρ2 k vs H2 I2 hv => ?_) fun _ _ k => k.unhold⟩
    exact k (x :: vs) H2 I2.unhold ⟨x, vs, rfl, I2.held (d, x) (List.mem_singleton.mpr rfl), hv.unhold⟩
theorem va_cons (ha : VE X W e me) (hr : VA X W es ms) (hs : starEach (e :: es) X.env = (false, eval e X.env) :: starEach es X.env := by rfl) : VA X W (e :: es) (aCons me ms) :=
  pa_imp (pa_cons ha hr hs) fun _ _ _ => cons_red
end
/-- the data of arguments, as things stand -/
def drefs (ρ : List Sl) : List Res → Option (List D)
  | [] => some []
  | r :: rs => match dref ρ r, drefs ρ rs with
    | some d, some ds => some (d :: ds)
    | _, _ => none
def DtAll (K : PySem.W.Frag) (W : Addr → Prop) (H : Hp) : List D → List V → Prop
  | [], vs => vs = []
  | d :: ds, vs => ∃ v us, vs = v :: us ∧ Dt K W H d v ∧ DtAll K W H ds us
theorem HeldAll.dt {K : PySem.W.Frag} {c : Fx} {ad : Nat → Addr} {σ : Sg} {ρ : List Sl} {H : Hp} (I : EnvOk K c ad σ H ρ) : ∀ {rs : List Res} {vs : List V} {ds : List D}, HeldAll K c ad ρ H rs vs → drefs ρ rs = some ds → DtAll K (Wr c ad ρ) H ds vs
  | [], vs, ds, h, e => by simp [drefs] at e; subst e; exact h
  | r :: rs, vs, ds, h, e => by
    obtain ⟨v, us, rfl, h1, h2⟩ := h
    simp only [drefs] at e
    split at e
    · cases e
      rename_i e1 e2
      exact ⟨v, us, rfl, Held.dt I h1 e1, HeldAll.dt I h2 e2⟩
    · cases e
/-- all are data, no slot's object -/
def dats : List Res → Option (List D)
  | [] => some []
  | .dat d :: rs => (dats rs).map (d :: ·)
  | _ => none
theorem HeldAll.dvs {K : PySem.W.Frag} {c : Fx} {ad : Nat → Addr} {ρ : List Sl} {H : Hp} : ∀ {rs : List Res} {vs : List V} {ds : List D}, HeldAll K c ad ρ H rs vs → dats rs = some ds → DvAll K (hid (Wr c ad ρ) H) ds vs
  | [], vs, ds, h, e => by simp [dats] at e; subst e; cases h; exact .nil
  | r :: rs, vs, ds, h, e => by
    obtain ⟨v, us, rfl, h1, h2⟩ := h
    cases r with
    | dat d =>
      simp only [dats, Option.map_eq_some_iff] at e
      obtain ⟨es, e1, rfl⟩ := e
      exact .cons h1 (HeldAll.dvs h2 e1)
    | frs o => exact h1.elim
    | slt i => simp [dats] at e
/-! ### displays -/
def mTup (m : AM) : EM := fun ρ => (m ρ).bind fun rs ρ' => ofO (dats rs) fun ds => if ds.length ≤ sizeLine then .ok (.dat (.tuple ds)) ρ' else .stuck
def mLst (m : AM) : EM := fun ρ => (m ρ).bind fun rs ρ' => ofO (dats rs) fun ds => if ds.length ≤ sizeLine then .ok (.frs (.lst ds)) ρ' else .stuck
section
variable {X : Cx} {W : WX} {es : List Expr} {ms : AM} {pos : Pos}
theorem ve_tup {x1} (h : VA X W es ms) : VE X W (.Tuple es x1 pos) (mTup ms) :=
  pe_imp (pe_tup h) fun σ H Q ⟨c, ad, ρ, I, h⟩ => ⟨c, ad, ρ, I, h.of_bind.mono (fun rs ρ' q vs H' I' hv => by
    obtain ⟨ds, e, q⟩ := q.of_ofO
    split at q
    · rename_i hl
      have hd := hv.dvs e
      exact ⟨by rw [← hd.length]; exact hl, fun p hp => q _ _ ((NewP.tup (W := Wr c ad ρ') (H := H') (fun a w => I'.wr w) hp hd).post I')⟩
    · exact q.elim) fun _ _ k => k⟩
theorem ve_lst (h : VA X W es ms) : VE X W (.List es pos) (mLst ms) :=
  pe_imp (pe_lst h) fun σ H Q ⟨c, ad, ρ, I, h⟩ => ⟨c, ad, ρ, I, h.of_bind.mono (fun rs ρ' q vs H' I' hv => by
    obtain ⟨ds, e, q⟩ := q.of_ofO
    split at q
    · rename_i hl
      have hd := hv.dvs e
      exact ⟨by rw [← hd.length]; exact hl, fun p hp => q _ _ ((NewP.lst (W := Wr c ad ρ') (H := H') hp hd).post I')⟩
    · exact q.elim) fun _ _ k => k⟩
end
end Vl

set_option Elab.async false
set_option linter.all false
set_option maxRecDepth 100000
namespace Vl
open PySem PySem.Spec PyProof.Rows L2

/-! ### the call of a def of the text -/
def Fx.plusS (c : Fx) (S : Addr → Prop) : Fx := { c with ex := fun a => c.ex a ∨ S a, kpx := fun q h => .inl (c.kpx q h) }
/-- what an argument is for the callee -/
def toSlot (ρ : List Sl) : Res → Option Sl
  | .dat d => some (.dat d)
  | .frs _ => none
  | .slt i => match ρ[i]? with
    | some (.own o) => some (.par o)
    | some (.par o) => some (.par o)
    | _ => none
def toSlots (ρ : List Sl) : List Res → Option (List Sl)
  | [] => some []
  | r :: rs => match toSlot ρ r, toSlots ρ rs with
    | some a, some as => some (a :: as)
    | _, _ => none
def slts : List Res → List Nat
  | [] => []
  | .slt i :: rs => i :: slts rs
  | _ :: rs => slts rs
theorem toSlots_len {ρ : List Sl} : ∀ {rs : List Res} {as : List Sl}, toSlots ρ rs = some as → as.length = rs.length
  | [], as, e => by simp [toSlots] at e; subst e; rfl
  | r :: rs, as, e => by
    simp only [toSlots] at e
    split at e
    · cases e
      rename_i e2
      rw [List.length_cons, List.length_cons, toSlots_len e2]
    · cases e
theorem toSlots_get {ρ : List Sl} : ∀ {rs : List Res} {as : List Sl} {j : Nat} {a : Sl}, toSlots ρ rs = some as → as[j]? = some a → ∃ r, rs[j]? = some r ∧ toSlot ρ r = some a
  | [], as, j, a, e, h => by simp [toSlots] at e; subst e; simp at h
  | r :: rs, as, j, a, e, h => by
    simp only [toSlots] at e
    split at e
    · cases e
      rename_i e1 e2
      cases j with
      | zero => simp at h; subst h; exact ⟨r, rfl, e1⟩
      | succ j =>
        obtain ⟨r', h1, h2⟩ := toSlots_get (j := j) e2 (by simpa using h)
        exact ⟨r', by simpa using h1, h2⟩
    · cases e
theorem slts_mem : ∀ {rs : List Res} {j i : Nat}, rs[j]? = some (Res.slt i) → i ∈ slts rs
  | [], j, i, h => by simp at h
  | r :: rs, 0, i, h => by simp at h; subst h; exact List.mem_cons_self
  | r :: rs, j + 1, i, h => by
    have := slts_mem (rs := rs) (j := j) (i := i) (by simpa using h)
    cases r with
    | slt k => exact List.mem_cons_of_mem _ this
    | dat d => exact this
    | frs o => exact this
theorem slts_inj : ∀ {rs : List Res} {j j' i : Nat}, (slts rs).Nodup → rs[j]? = some (Res.slt i) → rs[j']? = some (Res.slt i) → j = j'
  | [], j, j', i, _, h, _ => by simp at h
  | r :: rs, 0, 0, i, _, _, _ => rfl
  | r :: rs, 0, j' + 1, i, nd, h, h' => by
    simp at h; subst h
    have := slts_mem (rs := rs) (j := j') (i := i) (by simpa using h')
    exact absurd this (List.nodup_cons.mp nd).1
  | r :: rs, j + 1, 0, i, nd, h, h' => by
    simp at h'; subst h'
    have := slts_mem (rs := rs) (j := j) (i := i) (by simpa using h)
    exact absurd this (List.nodup_cons.mp nd).1
  | r :: rs, j + 1, j' + 1, i, nd, h, h' => by
    have nd' : (slts rs).Nodup := by
      cases r with
      | slt k => exact (List.nodup_cons.mp nd).2
      | dat d => exact nd
      | frs o => exact nd
    have e := slts_inj (rs := rs) (j := j) (j' := j') (i := i) nd' (by simpa using h) (by simpa using h')
    rw [e]
theorem HeldAll.len {K : PySem.W.Frag} {c : Fx} {ad : Nat → Addr} {ρ : List Sl} {H : Hp} : ∀ {rs : List Res} {vs : List V}, HeldAll K c ad ρ H rs vs → vs.length = rs.length
  | [], vs, h => by cases h; rfl
  | r :: rs, vs, ⟨v, us, e, _, h⟩ => by subst e; exact congrArg (· + 1) (HeldAll.len h)
theorem HeldAll.get {K : PySem.W.Frag} {c : Fx} {ad : Nat → Addr} {ρ : List Sl} {H : Hp} : ∀ {rs : List Res} {vs : List V} {j : Nat} {r : Res}, HeldAll K c ad ρ H rs vs → rs[j]? = some r → ∃ v, vs[j]? = some v ∧ Held K c ad ρ H v r
  | [], vs, j, r, _, h => by simp at h
  | r :: rs, vs, 0, r', ⟨v, us, e, h1, _⟩, h => by simp at h; subst h; subst e; exact ⟨v, by simp, h1⟩
  | r :: rs, vs, j + 1, r', ⟨v, us, e, _, h2⟩, h => by
    subst e
    obtain ⟨v', a, b⟩ := HeldAll.get (j := j) h2 (by simpa using h)
    exact ⟨v', by simpa using a, b⟩
/-- the callee's view -/
def Fx.callee (c : Fx) (ad : Nat → Addr) (ρ : List Sl) (rs : List Res) (H : Hp) : Fx where
  ex := fun a => Wr c ad ρ a ∧ ¬ ∃ j i : Nat, rs[j]? = some (Res.slt i) ∧ a = ad i
  H0 := H
  P := fun a => ∃ j i : Nat, rs[j]? = some (Res.slt i) ∧ a = ad i
  pa := fun j => match rs[j]? with
    | some (Res.slt i) => ad i
    | _ => 0
  gh := []
  kp := []
  kpx := fun _ h => nomatch h
theorem callee_pa {c : Fx} {ad : Nat → Addr} {ρ : List Sl} {rs : List Res} {H : Hp} {j i : Nat} (h : rs[j]? = some (Res.slt i)) : (c.callee ad ρ rs H).pa j = ad i := by
  show (match rs[j]? with | some (Res.slt i) => ad i | _ => 0) = ad i
  rw [h]
theorem toSlot_par {ρ : List Sl} {r : Res} {o : Own} (h : toSlot ρ r = some (.par o)) : ∃ i, r = .slt i ∧ (ρ[i]? = some (.own o) ∨ ρ[i]? = some (.par o)) := by
  cases r with
  | dat d => simp [toSlot] at h
  | frs d => simp [toSlot] at h
  | slt i =>
    simp only [toSlot] at h
    split at h
    · cases h; exact ⟨i, rfl, .inl (by assumption)⟩
    · cases h; exact ⟨i, rfl, .inr (by assumption)⟩
    · cases h
theorem toSlot_dat {ρ : List Sl} {r : Res} {d : D} (h : toSlot ρ r = some (.dat d)) : r = .dat d := by
  cases r with
  | dat d' => simp [toSlot] at h; rw [h]
  | frs d => simp [toSlot] at h
  | slt i => simp only [toSlot] at h; split at h <;> cases h
theorem toSlot_nown {ρ : List Sl} {r : Res} {o : Own} (h : toSlot ρ r = some (.own o)) : False := by
  cases r with
  | dat d' => simp [toSlot] at h
  | frs d => simp [toSlot] at h
  | slt i => simp only [toSlot] at h; split at h <;> cases h
theorem toSlots_slt {ρ : List Sl} : ∀ {rs : List Res} {as : List Sl} {j i : Nat}, toSlots ρ rs = some as → rs[j]? = some (Res.slt i) → ∃ o, as[j]? = some (.par o) ∧ (ρ[i]? = some (.own o) ∨ ρ[i]? = some (.par o))
  | [], as, j, i, e, h => by simp at h
  | r :: rs, as, j, i, e, h => by
    simp only [toSlots] at e
    split at e
    · cases e
      rename_i e1 e2
      cases j with
      | zero =>
        simp at h; subst h
        simp only [toSlot] at e1
        split at e1
        · cases e1; exact ⟨_, rfl, .inl (by assumption)⟩
        · cases e1; exact ⟨_, rfl, .inr (by assumption)⟩
        · cases e1
      | succ j =>
        obtain ⟨o, h1, h2⟩ := toSlots_slt (j := j) (i := i) e2 (by simpa using h)
        exact ⟨o, by simpa using h1, h2⟩
    · cases e
/-- at the callee's entry -/
theorem call_in {K : PySem.W.Frag} {c : Fx} {ad : Nat → Addr} {σ : Sg} {H : Hp} {ρ : List Sl} {rs : List Res} {vs : List V} {as : List Sl} (I : EnvOk K c ad σ H ρ) (hh : HeldAll K c ad ρ H rs vs) (ht : toSlots ρ rs = some as) (nd : (slts rs).Nodup) :
    EnvOk K (c.callee ad ρ rs H) (c.callee ad ρ rs H).pa (vs.map some) H as := by
  have par_of : ∀ {j : Nat} {o : Own}, as[j]? = some (Sl.par o) → ∃ i, rs[j]? = some (Res.slt i) ∧ (ρ[i]? = some (.own o) ∨ ρ[i]? = some (.par o)) := fun {j o} h => by
    obtain ⟨r, h1, h2⟩ := toSlots_get ht h
    obtain ⟨i, rfl, h3⟩ := toSlot_par h2
    exact ⟨i, h1, h3⟩
  have own_of : ∀ {j : Nat} {o : Own}, as[j]? = some (Sl.own o) → False := fun {j o} h => by
    obtain ⟨r, h1, h2⟩ := toSlots_get ht h
    exact toSlot_nown h2
  have isown : ∀ {j : Nat}, IsOwn as j → ∃ i, rs[j]? = some (Res.slt i) ∧ IsOwn ρ i := fun {j} ⟨o, h⟩ => by
    rcases h with h | h
    · exact (own_of h).elim
    · obtain ⟨i, h1, h2⟩ := par_of h
      exact ⟨i, h1, o, h2⟩
  have wsub : ∀ a, Wr (c.callee ad ρ rs H) (c.callee ad ρ rs H).pa as a → Wr c ad ρ a := fun a w => by
    rcases w with w | ⟨j, hj, e⟩
    · exact w.1
    · obtain ⟨i, h1, h2⟩ := isown hj
      rw [callee_pa h1] at e
      exact .inr ⟨i, h2, e⟩
  have em : Ext (hid (Wr c ad ρ) H) (hid (Wr (c.callee ad ρ rs H) (c.callee ad ρ rs H).pa as) H) := hid_mono fun a o n q => ⟨fun w => n (wsub a w), q⟩
  refine ⟨?_, fun j d h => ?_, fun j o h => (own_of h).elim, fun j o h => ?_, fun j o h => ?_, fun j j' h h' e => ?_, fun a w => I.wr w.1, fun a o h _ => h, (fun p hp => nomatch hp), fun a ⟨j, i, h, e⟩ => ?_, fun q hq => nomatch hq⟩
  · rw [toSlots_len ht, List.length_map, hh.len]
  · obtain ⟨r, h1, h2⟩ := toSlots_get ht h
    rw [toSlot_dat h2] at h1
    obtain ⟨v, g1, g2⟩ := hh.get h1
    exact ⟨v, by rw [List.getElem?_map, g1]; rfl, Dv.ext em _ _ g2⟩
  · obtain ⟨i, h1, h2⟩ := par_of h
    exact ⟨rfl, j, i, h1, callee_pa h1⟩
  · rcases h with h | h
    · exact (own_of h).elim
    · obtain ⟨i, h1, h2⟩ := par_of h
      obtain ⟨v, g1, g2⟩ := hh.get h1
      obtain ⟨_, k2, k3⟩ := I.at_ i o h2
      rw [callee_pa h1]
      refine ⟨by rw [List.getElem?_map, g1]; exact congrArg (fun z => some (some z)) g2, k2.ext em rfl, fun w => w.2 ⟨j, i, h1, rfl⟩⟩
  · obtain ⟨i, h1, h2⟩ := isown h
    obtain ⟨i', h1', h2'⟩ := isown h'
    rw [callee_pa h1, callee_pa h1'] at e
    have e' := I.inj i i' h2 h2' e
    subst e'
    exact slts_inj nd h1 h1'
  · obtain ⟨o, _, h2⟩ := toSlots_slt ht h
    subst e
    exact I.wr (.inr ⟨i, ⟨o, h2⟩, rfl⟩)

/-- outs: what is left of the parameters -/
theorem call_back {K : PySem.W.Frag} {c : Fx} {ad ad' : Nat → Addr} {σ σ' : Sg} {H H' : Hp} {ρ ρ' outs : List Sl} {rs : List Res} {vs : List V} {as : List Sl} {S : Addr → Prop} (I : EnvOk K c ad σ H ρ) (hh : HeldAll K c ad ρ H rs vs) (ht : toSlots ρ rs = some as)
    (J : EnvOk K ((c.callee ad ρ rs H).plusS S) ad' σ' H' outs) (hS : ∀ a, S a → H a = none)
    (hl : ρ'.length = ρ.length) (hd : ∀ (i : Nat) (d : D), ρ'[i]? = some (Sl.dat d) → ρ[i]? = some (Sl.dat d))
    (ho : ∀ (i : Nat) (o : Own), ρ'[i]? = some (Sl.own o) → (∃ o1, ρ[i]? = some (Sl.own o1)) ∧ ((∃ j : Nat, rs[j]? = some (Res.slt i) ∧ outs[j]? = some (Sl.par o)) ∨ ((∀ j : Nat, rs[j]? ≠ some (Res.slt i)) ∧ ρ[i]? = some (Sl.own o))))
    (hp : ∀ (i : Nat) (o : Own), ρ'[i]? = some (Sl.par o) → (∃ o1, ρ[i]? = some (Sl.par o1)) ∧ ((∃ j : Nat, rs[j]? = some (Res.slt i) ∧ outs[j]? = some (Sl.par o)) ∨ ((∀ j : Nat, rs[j]? ≠ some (Res.slt i)) ∧ ρ[i]? = some (Sl.par o)))) :
    EnvOk K (c.plusS S) ad σ H' ρ' ∧ ∀ a, Wr (c.plusS S) ad ρ' a → Wr ((c.callee ad ρ rs H).plusS S) ad' outs a := by
  have isown : ∀ {i : Nat}, IsOwn ρ' i → IsOwn ρ i := fun {i} ⟨o, h⟩ => by
    rcases h with h | h
    · obtain ⟨⟨o1, h1⟩, _⟩ := ho i o h; exact ⟨o1, .inl h1⟩
    · obtain ⟨⟨o1, h1⟩, _⟩ := hp i o h; exact ⟨o1, .inr h1⟩
  have slotOwn : ∀ {j i : Nat}, rs[j]? = some (Res.slt i) → IsOwn ρ i := fun {j i} h => by
    obtain ⟨o, _, h2⟩ := toSlots_slt ht h
    exact ⟨o, h2⟩
  have nP : ∀ {a : Addr}, c.ex a → ¬ ∃ j i : Nat, rs[j]? = some (Res.slt i) ∧ a = ad i := fun {a} w ⟨j, i, h, e⟩ => by
    obtain ⟨o, h2⟩ := slotOwn h
    exact (I.at_ i o h2).2.2 (e ▸ w)
  have keep : ∀ (a : Addr) (o : HO), H a = some o → (¬ ∃ j i : Nat, rs[j]? = some (Res.slt i) ∧ a = ad i) → H' a = some o := fun a o h n => J.fr a o h n
  have nPi : ∀ {i : Nat}, IsOwn ρ i → (∀ j : Nat, rs[j]? ≠ some (Res.slt i)) → ¬ ∃ j i' : Nat, rs[j]? = some (Res.slt i') ∧ ad i = ad i' := fun {i} hi n ⟨j, i', h, e⟩ => by
    have := I.inj i i' hi (slotOwn h) e
    subst this
    exact n j h
  have passed : ∀ {i j : Nat} {o : Own}, rs[j]? = some (Res.slt i) → outs[j]? = some (Sl.par o) → ad' j = ad i := fun {i j o} h1 h2 => (J.par j o h2).1.trans (callee_pa (c := c) (ad := ad) (ρ := ρ) (rs := rs) (H := H) h1)
  have wsub : ∀ a, Wr (c.plusS S) ad ρ' a → Wr ((c.callee ad ρ rs H).plusS S) ad' outs a := fun a w => by
    rcases w with (w | w) | ⟨i, ⟨o, h⟩, e⟩
    · exact .inl (.inl ⟨.inl w, nP w⟩)
    · exact .inl (.inr w)
    · have hi : IsOwn ρ i := isown ⟨o, h⟩
      have two : (∃ j : Nat, rs[j]? = some (Res.slt i) ∧ outs[j]? = some (Sl.par o)) ∨ ((∀ j : Nat, rs[j]? ≠ some (Res.slt i))) := by
        rcases h with h | h
        · exact (ho i o h).2.imp id (·.1)
        · exact (hp i o h).2.imp id (·.1)
      rcases two with ⟨j, h1, h2⟩ | n
      · exact .inr ⟨j, ⟨o, .inr h2⟩, (passed h1 h2).trans e⟩
      · subst e
        exact .inl (.inl ⟨.inr ⟨i, hi, rfl⟩, nPi hi n⟩)
  have wold : ∀ a o, H a = some o → Wr (c.plusS S) ad ρ' a → Wr c ad ρ a := fun a o q w => by
    rcases w with (w | w) | ⟨i, h, e⟩
    · exact .inl w
    · rw [hS a w] at q; cases q
    · exact .inr ⟨i, isown h, e⟩
  have em : Ext (hid (Wr c ad ρ) H) (hid (Wr (c.plusS S) ad ρ') H') := hid_mono fun a o n q => ⟨fun w => n (wold a o q w), keep a o q fun ⟨j, i, h, e⟩ => n (.inr ⟨i, slotOwn h, e.symm⟩)⟩
  have em2 : Ext (hid (Wr ((c.callee ad ρ rs H).plusS S) ad' outs) H') (hid (Wr (c.plusS S) ad ρ') H') := hid_mono fun a o n q => ⟨fun w => n (wsub a w), q⟩
  refine ⟨⟨hl.trans I.len, fun i d h => ?_, fun i o h => ?_, fun i o h => ?_, fun i o h => ?_, fun i j h h' => I.inj i j (isown h) (isown h'), fun a w => ?_, fun a o h n => ?_, fun p h => Dv.ext em _ _ (I.gh p h), fun a w => ?_, fun q hq => keep _ _ (I.kpe q hq) (nP (c.kpx q hq))⟩, wsub⟩
  · obtain ⟨v, h1, h2⟩ := I.dat i d (hd i d h)
    exact ⟨v, h1, h2.ext em⟩
  · obtain ⟨⟨o1, h1⟩, _⟩ := ho i o h
    exact I.own i o1 h1
  · obtain ⟨⟨o1, h1⟩, _⟩ := hp i o h
    exact I.par i o1 h1
  · have hi : IsOwn ρ i := isown ⟨o, h⟩
    obtain ⟨o1, h1⟩ := hi
    obtain ⟨k1, k2, k3⟩ := I.at_ i o1 h1
    obtain ⟨u, hu⟩ := k2.some
    refine ⟨k1, ?_, fun w => ?_⟩
    · have two : (∃ j : Nat, rs[j]? = some (Res.slt i) ∧ outs[j]? = some (Sl.par o)) ∨ ((∀ j : Nat, rs[j]? ≠ some (Res.slt i)) ∧ (ρ[i]? = some (Sl.own o) ∨ ρ[i]? = some (Sl.par o))) := by
        rcases h with h | h
        · exact (ho i o h).2.imp id fun ⟨a, b⟩ => ⟨a, .inl b⟩
        · exact (hp i o h).2.imp id fun ⟨a, b⟩ => ⟨a, .inr b⟩
      rcases two with ⟨j, g1, g2⟩ | ⟨n, g⟩
      · obtain ⟨_, m2, _⟩ := J.at_ j o (.inr g2)
        rw [passed g1 g2] at m2
        exact m2.ext em2 rfl
      · obtain ⟨_, m2, _⟩ := I.at_ i o g
        exact m2.ext em ((keep _ _ hu (nPi ⟨o1, h1⟩ n)).trans hu.symm)
    · rcases w with w | w
      · exact k3 w
      · rw [hS _ w] at hu; cases hu
  · rcases w with w | w
    · obtain ⟨o, h⟩ := I.ext a w
      exact ⟨o, keep a o h (nP w)⟩
    · exact J.ext a (.inr w)
  · refine keep a o (I.fr a o h n) fun ⟨j, i, g, e⟩ => ?_
    obtain ⟨o1, g1 | g1⟩ := slotOwn g
    · have := I.own i o1 g1
      rw [← e] at this
      rw [show c.H0 a = some o from h] at this; cases this
    · exact n (e ▸ (I.par i o1 g1).2)
  · obtain ⟨o, h⟩ := I.pex a w
    by_cases n : ∃ j i : Nat, rs[j]? = some (Res.slt i) ∧ a = ad i
    · exact J.pex a n
    · exact ⟨o, keep a o h n⟩
theorem plusS_none {K : PySem.W.Frag} {c : Fx} {ad : Nat → Addr} {σ : Sg} {H : Hp} {ρ : List Sl} : EnvOk K (c.plusS fun _ => False) ad σ H ρ ↔ EnvOk K c ad σ H ρ :=
  ⟨fun I => I.less rfl rfl rfl (fun _ w => .inl w) fun _ h => h, fun I => I.less rfl rfl rfl (fun _ w => w.elim id False.elim) fun _ h => h⟩

/-! ### what a def promises -/
/-- of the parameters what is left: those passed by reference -/
def parOnly : Sl → Sl
  | .par o => .par o
  | _ => .non
def outsOf (n : Nat) (ρ : List Sl) : List Sl := (ρ.take n).map parOnly
def OkF (K : PySem.W.Frag) (c : Fx) (Q : VK) (r : Res) (outs : List Sl) : Prop := ∀ ad σ v H, Post K c ad σ r outs v H → Q v H
def ExF (K : PySem.W.Frag) (c : Fx) (E : XK) (x : Exn) (outs : List Sl) : Prop := ∀ ad σ cls d H, XPost K c ad σ x outs cls d H → E cls d H
abbrev FM := List Sl → Rg Res
structure FnV (P : Program) (w : World) (K : PySem.W.Frag) (mg : Str → Option Value) (base : Heap) (k : Nat) (f : Addr) (fd : FuncData) (ps : List Str) (fm : FM) : Prop where
  run : ∀ (A : Around) (outer : List Env) (s : Shared) (H : Hp) (args : Args) (us : List Value) (vs : List V) (Q : VK) (E : XK) (c : Fx) (as : List Sl), Room k A → A.guards = some [] → Env0 P w K mg base A outer s H →
    BindsTo s fd args (ps.zip us) → Vals vs us → vs.length = ps.length → c.H0 = H → EnvOk K c c.pa (vs.map some) H as → Wants (fm as) (OkF K c Q) (ExF K c E) →
    codeAny (model P w) A (.call (.ref f) args) (CR (L2.CX P w) outer P w H s Q E) s
theorem FnV.mono {P : Program} {w : World} {K : PySem.W.Frag} {mg : Str → Option Value} {base : Heap} {j k : Nat} {f : Addr} {fd : FuncData} {ps : List Str} {fm : FM} (F : FnV P w K mg base j f fd ps fm) (h : j ≤ k) : FnV P w K mg base k f fd ps fm :=
  ⟨fun A outer s H args us vs Q E c as hr => F.run A outer s H args us vs Q E c as (hr.mono h)⟩

/-! ### a call -/
/-- the caller's slots behind a call -/
def putBack (ρ : List Sl) : List Res → List Sl → Option (List Sl)
  | [], _ => some ρ
  | .slt i :: rs, o :: os => match o with
    | .par u => match ρ[i]? with
      | some (.own _) => putBack (ρ.set i (.own u)) rs os
      | some (.par _) => putBack (ρ.set i (.par u)) rs os
      | _ => none
    | _ => none
  | .slt _ :: _, [] => none
  | _ :: rs, _ :: os => putBack ρ rs os
  | _ :: rs, [] => putBack ρ rs []
def lose (ρ : List Sl) : List Res → List Sl
  | [] => ρ
  | .slt i :: rs => lose (ρ.set i .non) rs
  | _ :: rs => lose ρ rs
def notSlt : Res → Bool
  | .slt _ => false
  | _ => true
def mCall (fm : FM) (am : AM) : EM := fun ρ => (am ρ).bind fun rs ρ1 => ofO (toSlots ρ1 rs) fun as => if (slts rs).Nodup then
    match fm as with
    | .stuck => .stuck
    | .ok r outs => if notSlt r = true then ofO (putBack ρ1 rs outs) fun ρ2 => .ok r ρ2 else .stuck
    | .exc x _ => .exc x (lose ρ1 rs)
  else .stuck
/-- what putBack has done -/
structure Put (ρ ρ' : List Sl) (rs : List Res) (outs : List Sl) : Prop where
  len : ρ'.length = ρ.length
  oth : ∀ i : Nat, (∀ j : Nat, rs[j]? ≠ some (Res.slt i)) → ρ'[i]? = ρ[i]?
  hit : ∀ j i : Nat, rs[j]? = some (Res.slt i) → ∃ o o1, outs[j]? = some (Sl.par o) ∧ ((ρ[i]? = some (Sl.own o1) ∧ ρ'[i]? = some (Sl.own o)) ∨ (ρ[i]? = some (Sl.par o1) ∧ ρ'[i]? = some (Sl.par o)))
theorem put_skip {ρ ρ' : List Sl} {r : Res} {rs : List Res} {o : Option Sl} {os : List Sl} (hr : notSlt r = true) (P : Put ρ ρ' rs os) (outs : List Sl) (ho : ∀ j : Nat, outs[j + 1]? = os[j]?) : Put ρ ρ' (r :: rs) outs := by
  refine ⟨P.len, fun i n => P.oth i fun j h => n (j + 1) (by simpa using h), fun j i h => ?_⟩
  cases j with
  | zero => simp at h; subst h; simp [notSlt] at hr
  | succ j =>
    obtain ⟨o, o1, h1, h2⟩ := P.hit j i (by simpa using h)
    exact ⟨o, o1, (ho j).trans h1, h2⟩
theorem put_step {ρ ρ' : List Sl} {i : Nat} {u o1 : Own} {rs : List Res} {os : List Sl} {s : Sl} (nd : (slts (.slt i :: rs)).Nodup) (hs : (ρ[i]? = some (Sl.own o1) ∧ s = Sl.own u) ∨ (ρ[i]? = some (Sl.par o1) ∧ s = Sl.par u)) (P : Put (ρ.set i s) ρ' rs os) : Put ρ ρ' (.slt i :: rs) (.par u :: os) := by
  have hi : i < ρ.length := by rcases hs with ⟨h, _⟩ | ⟨h, _⟩ <;> exact (List.getElem?_eq_some_iff.mp h).1
  have nm : i ∉ slts rs := (List.nodup_cons.mp nd).1
  have at_i : ρ'[i]? = some s := by
    rw [P.oth i fun j h => nm (slts_mem h), List.getElem?_set_self hi]
  refine ⟨P.len.trans (List.length_set ..), fun k n => ?_, fun j k h => ?_⟩
  · have hk : i ≠ k := fun e => n 0 (by rw [e]; rfl)
    rw [P.oth k fun j h => n (j + 1) (by simpa using h), List.getElem?_set_ne hk]
  · cases j with
    | zero =>
      have e : i = k := by simpa using h
      subst e
      rcases hs with ⟨h1, rfl⟩ | ⟨h1, rfl⟩
      · exact ⟨u, o1, rfl, .inl ⟨h1, at_i⟩⟩
      · exact ⟨u, o1, rfl, .inr ⟨h1, at_i⟩⟩
    | succ j =>
      have h' : rs[j]? = some (Res.slt k) := by simpa using h
      obtain ⟨o, o2, g1, g2⟩ := P.hit j k h'
      have hk : i ≠ k := fun e => nm (e ▸ slts_mem h')
      rw [List.getElem?_set_ne hk] at g2
      exact ⟨o, o2, by simpa using g1, g2⟩
theorem putBack_ok : ∀ {rs : List Res} {ρ ρ' outs : List Sl}, (slts rs).Nodup → putBack ρ rs outs = some ρ' → Put ρ ρ' rs outs
  | [], ρ, ρ', outs, _, e => by
    simp [putBack] at e; subst e
    exact ⟨rfl, fun _ _ => rfl, fun j i h => by simp at h⟩
  | .slt i :: rs, ρ, ρ', [], nd, e => by simp [putBack] at e
  | .slt i :: rs, ρ, ρ', o :: os, nd, e => by
    cases o with
    | par u =>
      simp only [putBack] at e
      split at e
      · exact put_step nd (.inl ⟨by assumption, rfl⟩) (putBack_ok (List.nodup_cons.mp nd).2 e)
      · exact put_step nd (.inr ⟨by assumption, rfl⟩) (putBack_ok (List.nodup_cons.mp nd).2 e)
      · cases e
    | non => simp [putBack] at e
    | dat d => simp [putBack] at e
    | own d => simp [putBack] at e
  | .dat d :: rs, ρ, ρ', [], nd, e => put_skip (o := none) rfl (putBack_ok (rs := rs) (outs := []) nd e) _ fun _ => by simp
  | .dat d :: rs, ρ, ρ', o :: os, nd, e => put_skip (o := none) rfl (putBack_ok (rs := rs) (outs := os) nd e) _ fun _ => by simp
  | .frs d :: rs, ρ, ρ', [], nd, e => put_skip (o := none) rfl (putBack_ok (rs := rs) (outs := []) nd e) _ fun _ => by simp
  | .frs d :: rs, ρ, ρ', o :: os, nd, e => put_skip (o := none) rfl (putBack_ok (rs := rs) (outs := os) nd e) _ fun _ => by simp
theorem lose_get : ∀ {rs : List Res} {ρ : List Sl}, (lose ρ rs).length = ρ.length ∧ ∀ i : Nat, ((∀ j : Nat, rs[j]? ≠ some (Res.slt i)) → (lose ρ rs)[i]? = ρ[i]?) ∧ ((∃ j : Nat, rs[j]? = some (Res.slt i)) → i < ρ.length → (lose ρ rs)[i]? = some .non)
  | [], ρ => ⟨rfl, fun i => ⟨fun _ => rfl, fun ⟨j, h⟩ => by simp at h⟩⟩
  | r :: rs, ρ => by
    have skip : notSlt r = true → (lose ρ (r :: rs)) = lose ρ rs := fun h => by cases r <;> simp [notSlt] at h <;> rfl
    by_cases hr : notSlt r = true
    · rw [skip hr]
      obtain ⟨h1, h2⟩ := lose_get (rs := rs) (ρ := ρ)
      refine ⟨h1, fun i => ⟨fun n => (h2 i).1 fun j h => n (j + 1) (by simpa using h), fun ⟨j, h⟩ => ?_⟩⟩
      cases j with
      | zero => simp at h; subst h; simp [notSlt] at hr
      | succ j => exact (h2 i).2 ⟨j, by simpa using h⟩
    · cases r with
      | dat d => simp [notSlt] at hr
      | frs d => simp [notSlt] at hr
      | slt k =>
        obtain ⟨h1, h2⟩ := lose_get (rs := rs) (ρ := ρ.set k .non)
        refine ⟨h1.trans (List.length_set ..), fun i => ⟨fun n => ?_, fun h hi => ?_⟩⟩
        · have hk : k ≠ i := fun e => n 0 (by rw [e]; rfl)
          show (lose (ρ.set k .non) rs)[i]? = _
          rw [(h2 i).1 fun j h => n (j + 1) (by simpa using h), List.getElem?_set_ne hk]
        · show (lose (ρ.set k .non) rs)[i]? = _
          by_cases hx : ∃ j : Nat, rs[j]? = some (Res.slt i)
          · exact (h2 i).2 hx (by rw [List.length_set]; exact hi)
          · rw [(h2 i).1 fun j g => hx ⟨j, g⟩]
            have e : k = i := by
              obtain ⟨j, h⟩ := h
              cases j with
              | zero => simpa using h
              | succ j => exact absurd ⟨j, by simpa using h⟩ hx
            subst e
            rw [List.getElem?_set_self hi]
end Vl

set_option Elab.async false
set_option linter.all false
set_option maxRecDepth 100000
namespace Vl
open PySem PySem.Spec PyProof.Rows L2

theorem Put.conds {ρ ρ' : List Sl} {rs : List Res} {outs : List Sl} (P : Put ρ ρ' rs outs) :
    (∀ (i : Nat) (d : D), ρ'[i]? = some (Sl.dat d) → ρ[i]? = some (Sl.dat d)) ∧
    (∀ (i : Nat) (o : Own), ρ'[i]? = some (Sl.own o) → (∃ o1, ρ[i]? = some (Sl.own o1)) ∧ ((∃ j : Nat, rs[j]? = some (Res.slt i) ∧ outs[j]? = some (Sl.par o)) ∨ ((∀ j : Nat, rs[j]? ≠ some (Res.slt i)) ∧ ρ[i]? = some (Sl.own o)))) ∧
    (∀ (i : Nat) (o : Own), ρ'[i]? = some (Sl.par o) → (∃ o1, ρ[i]? = some (Sl.par o1)) ∧ ((∃ j : Nat, rs[j]? = some (Res.slt i) ∧ outs[j]? = some (Sl.par o)) ∨ ((∀ j : Nat, rs[j]? ≠ some (Res.slt i)) ∧ ρ[i]? = some (Sl.par o)))) := by
  refine ⟨fun i d h => ?_, fun i o h => ?_, fun i o h => ?_⟩
  · by_cases n : ∃ j : Nat, rs[j]? = some (Res.slt i)
    · obtain ⟨j, g⟩ := n
      obtain ⟨o, o1, _, ⟨_, k⟩ | ⟨_, k⟩⟩ := P.hit j i g <;> rw [h] at k <;> cases k
    · rw [← P.oth i fun j g => n ⟨j, g⟩]; exact h
  · by_cases n : ∃ j : Nat, rs[j]? = some (Res.slt i)
    · obtain ⟨j, g⟩ := n
      obtain ⟨o', o1, m, ⟨k1, k⟩ | ⟨k1, k⟩⟩ := P.hit j i g
      · rw [h] at k; cases k
        exact ⟨⟨o1, k1⟩, .inl ⟨j, g, m⟩⟩
      · rw [h] at k; cases k
    · have n' : ∀ j : Nat, rs[j]? ≠ some (Res.slt i) := fun j g => n ⟨j, g⟩
      rw [P.oth i n'] at h
      exact ⟨⟨o, h⟩, .inr ⟨n', h⟩⟩
  · by_cases n : ∃ j : Nat, rs[j]? = some (Res.slt i)
    · obtain ⟨j, g⟩ := n
      obtain ⟨o', o1, m, ⟨k1, k⟩ | ⟨k1, k⟩⟩ := P.hit j i g
      · rw [h] at k; cases k
      · rw [h] at k; cases k
        exact ⟨⟨o1, k1⟩, .inl ⟨j, g, m⟩⟩
    · have n' : ∀ j : Nat, rs[j]? ≠ some (Res.slt i) := fun j g => n ⟨j, g⟩
      rw [P.oth i n'] at h
      exact ⟨⟨o, h⟩, .inr ⟨n', h⟩⟩
theorem lose_conds {ρ outs : List Sl} {rs : List Res} :
    (∀ (i : Nat) (d : D), (lose ρ rs)[i]? = some (Sl.dat d) → ρ[i]? = some (Sl.dat d)) ∧
    (∀ (i : Nat) (o : Own), (lose ρ rs)[i]? = some (Sl.own o) → (∃ o1, ρ[i]? = some (Sl.own o1)) ∧ ((∃ j : Nat, rs[j]? = some (Res.slt i) ∧ outs[j]? = some (Sl.par o)) ∨ ((∀ j : Nat, rs[j]? ≠ some (Res.slt i)) ∧ ρ[i]? = some (Sl.own o)))) ∧
    (∀ (i : Nat) (o : Own), (lose ρ rs)[i]? = some (Sl.par o) → (∃ o1, ρ[i]? = some (Sl.par o1)) ∧ ((∃ j : Nat, rs[j]? = some (Res.slt i) ∧ outs[j]? = some (Sl.par o)) ∨ ((∀ j : Nat, rs[j]? ≠ some (Res.slt i)) ∧ ρ[i]? = some (Sl.par o)))) := by
  obtain ⟨hl, hg⟩ := lose_get (rs := rs) (ρ := ρ)
  have two : ∀ (i : Nat) (s : Sl), s ≠ .non → (lose ρ rs)[i]? = some s → (∀ j : Nat, rs[j]? ≠ some (Res.slt i)) ∧ ρ[i]? = some s := fun i s ns h => by
    by_cases n : ∃ j : Nat, rs[j]? = some (Res.slt i)
    · have hi : i < ρ.length := by rw [← hl]; exact (List.getElem?_eq_some_iff.mp h).1
      have k := (hg i).2 n hi
      rw [h] at k
      exact absurd (Option.some.inj k) ns
    · have n' : ∀ j : Nat, rs[j]? ≠ some (Res.slt i) := fun j g => n ⟨j, g⟩
      rw [(hg i).1 n'] at h
      exact ⟨n', h⟩
  refine ⟨fun i d h => (two i (Sl.dat d) (fun z => nomatch z) h).2, fun i o h => ?_, fun i o h => ?_⟩
  · obtain ⟨a, b⟩ := two i (Sl.own o) (fun z => nomatch z) h
    exact ⟨⟨o, b⟩, .inr ⟨a, b⟩⟩
  · obtain ⟨a, b⟩ := two i (Sl.par o) (fun z => nomatch z) h
    exact ⟨⟨o, b⟩, .inr ⟨a, b⟩⟩
theorem plusS_p {c : Fx} {p : Addr} : (c.plusS fun a => a = p) = c.plus p := rfl
/-- the answer of a call, for the caller -/
theorem back_ok {K : PySem.W.Frag} {c : Fx} {ad ad' : Nat → Addr} {σ σ' : Sg} {H H' : Hp} {ρ ρ' outs : List Sl} {rs : List Res} {vs : List V} {as : List Sl} {r : Res} {v : V} (I : EnvOk K c ad σ H ρ) (hh : HeldAll K c ad ρ H rs vs) (ht : toSlots ρ rs = some as)
    (P : Put ρ ρ' rs outs) (hr : notSlt r = true) (J : Post K (c.callee ad ρ rs H) ad' σ' r outs v H') : Post K c ad σ r ρ' v H' := by
  obtain ⟨hd, ho, hp⟩ := P.conds
  cases r with
  | slt i => simp [notSlt] at hr
  | dat d =>
    obtain ⟨J1, J2⟩ := J
    obtain ⟨I', wsub⟩ := call_back (S := fun _ => False) I hh ht (plusS_none.mpr J1) (fun _ w => w.elim) P.len hd ho hp
    refine ⟨plusS_none.mp I', Dv.ext (hid_mono fun a o n q => ⟨fun w => n ?_, q⟩) _ _ J2⟩
    have w' := wsub a (w.imp .inl id)
    exact w'.imp (fun z => z.elim id False.elim) id
  | frs o =>
    obtain ⟨p, e, J1, h0, hx, J2⟩ := J
    obtain ⟨I', wsub⟩ := call_back (S := fun a => a = p) I hh ht J1 (fun _ w => by rw [w]; exact h0) P.len hd ho hp
    refine ⟨p, e, I', ?_, ?_, OwnAt.ext (hid_mono fun a o n q => ⟨fun w => n (wsub a w), q⟩) rfl J2⟩
    · have h0' : H p = none := h0
      cases q : c.H0 p with
      | none => rfl
      | some o =>
        by_cases hP : c.P p
        · obtain ⟨u, e'⟩ := I.pex p hP
          rw [h0'] at e'; cases e'
        · rw [I.fr p o q hP] at h0'; cases h0'
    · intro w
      obtain ⟨o, q⟩ := I.ext p w
      rw [show H p = none from h0] at q; cases q
theorem backX_ok {K : PySem.W.Frag} {c : Fx} {ad ad' : Nat → Addr} {σ σ' : Sg} {H H' : Hp} {ρ outs : List Sl} {rs : List Res} {vs : List V} {as : List Sl} {x : Exn} {cls : Value} {d : Option Addr} (I : EnvOk K c ad σ H ρ) (hh : HeldAll K c ad ρ H rs vs) (ht : toSlots ρ rs = some as)
    (J : XPost K (c.callee ad ρ rs H) ad' σ' x outs cls d H') : XPost K c ad σ x (lose ρ rs) cls d H' := by
  obtain ⟨hd, ho, hp⟩ := lose_conds (ρ := ρ) (rs := rs) (outs := outs)
  obtain ⟨J1, J2, J3⟩ := J
  obtain ⟨I', wsub⟩ := call_back (S := fun _ => False) I hh ht (plusS_none.mpr J1) (fun _ w => w.elim) lose_get.1 hd ho hp
  refine ⟨plusS_none.mp I', J2, J3.imp id fun ⟨dd, fs, h1, h2, h3⟩ => ⟨dd, fs, h1, h2, FsAll.ext (hid_mono fun a o n q => ⟨fun w => n ?_, q⟩) _ _ h3⟩⟩
  have w' := wsub a (w.imp .inl id)
  exact w'.imp (fun z => z.elim id False.elim) id
def callRes (fm : FM) (ρ1 : List Sl) (rs : List Res) : Rg Res := ofO (toSlots ρ1 rs) fun as => if (slts rs).Nodup then
    match fm as with
    | .stuck => .stuck
    | .ok r outs => if notSlt r = true then ofO (putBack ρ1 rs outs) fun ρ2 => .ok r ρ2 else .stuck
    | .exc x _ => .exc x (lose ρ1 rs)
  else .stuck
theorem mCall_eq (fm : FM) (am : AM) (ρ : List Sl) : mCall fm am ρ = (am ρ).bind fun rs ρ1 => callRes fm ρ1 rs := rfl
section
variable {X : Cx} {W : WX} {k : Nat} {f : Addr} {fd : FuncData} {ps : List Str} {fm : FM} {pins : List (Addr × Obj)} {σ : Sg} {H : Hp} {s : Shared} {Q : VK}
theorem run_v {args : Args} {us : List Value} {vs : List V} {c : Fx} {ad : Nat → Addr} {ρ : List Sl} {rs : List Res} (F : FnV X.prog X.w X.K X.mg X.base k f fd ps fm) (hr : Room k X.A) (hG : X.A.guards = some []) (tk : Takes X W)
    (hb : BindsTo s fd args (ps.zip us)) (I : Inv X pins σ H s) (r : Vals vs us) (hl : vs.length = ps.length) (E : EnvOk X.K c ad σ H ρ) (hh : HeldAll X.K c ad ρ H rs vs) (h : Wants (callRes fm ρ rs) (OkQ X.K c ad σ Q) (ExQ X.K c ad σ W)) :
    codeAny (model X.prog X.w) X.A (.call (.ref f) args) (fun r s' => match r with | .ok (.ret u) => EP X pins σ Q u s' | .ok _ => False | .error e => X.xe e s') s := by
  obtain ⟨as, ht, h⟩ := h.of_ofO
  split at h
  · rename_i nd
    have J0 := call_in E hh ht nd
    refine codeAny_mono (F.run X.A X.stack s H args us vs Q (fun cls d H' => W cls d σ H') (c.callee ad ρ rs H) as hr hG I.env0 hb r hl rfl J0 ?_) fun r s' hq => ?_
    · cases e : fm as with
      | stuck => rw [e] at h; exact h.elim
      | ok r outs =>
        rw [e] at h
        dsimp only at h
        split at h
        · rename_i hns
          obtain ⟨ρ2, hp, h⟩ := h.of_ofO
          exact fun ad' σ' v H' J => h v H' (back_ok E hh ht (putBack_ok nd hp) hns J)
        · exact h.elim
      | exc x outs =>
        rw [e] at h
        exact fun ad' σ' cls d H' J => h cls d H' (backX_ok E hh ht J)
    · cases r with
      | error e => exact tk _ _ (XE.of_call I (fun _ _ _ z => z) hq)
      | ok fl =>
        cases fl with
        | ret u => exact I.after hq
        | next => exact False.elim hq
        | brk => exact False.elim hq
        | cont => exact False.elim hq
  · exact h.elim
end
/-- what a call's fixed conditions are -/
structure Cnd (X : Cx) (W : WX) : Prop where
  tk : Takes X W
  gd : X.A.guards = some []
  calm : X.calm = true
theorem call_of_code {M : Model} {A : Around} {v : Value} {us : List Value} {kw : List (Str × Value)} {Q : Value → Shared → Prop} {E : Value → Shared → Prop} {s : Shared}
    (h : codeAny M A (.call v ⟨us, kw⟩) (fun r s' => match r with | .ok (.ret u) => Q u s' | .ok _ => False | .error e => E e s') s) : wpAny M A (call v us kw) Q E s :=
  wpAny_call (codeAny_mono h fun r s' hq => by
    cases r with
    | error e => exact hq
    | ok fl => cases fl <;> exact hq)
section
variable {X : Cx} {W : WX} {k : Nat} {f : Addr} {fd : FuncData} {ps : List Str} {fm : FM} {x : Str} {p pos : Pos} {e : Expr} {es : List Expr} {am : AM}
/-- x(e, ..) -/
theorem ve_call (F : FnV X.prog X.w X.K X.mg X.base k f fd ps fm) (hr : Room k X.A) (C : Cnd X W) (hg : Gl X x) (hm : X.mg x = some (.ref f)) (hk : PySem.W.keepIn X.K (.ref f) = true) (hb : Binds X.K fd ps []) (hn : (e :: es).length = ps.length)
    (ha : VA X W (e :: es) am) (hal : ∀ ρ rs ρ', am ρ = .ok rs ρ' → rs.length = ps.length) (hdb : (x == ("__debug__" : Str)) = false := by decide) (he : starEach (e :: es) X.env = (false, eval e X.env) :: starEach es X.env := by rfl) (hpl : (backTo pos (starEach es X.env)).any (·.1) = false := by rfl) :
    VE X W (.Call (.Name x p) (e :: es) [] pos) (mCall fm am) := by
  refine ⟨fun pins s σ H Q I ⟨c, ad, ρ, E, h⟩ => ?_⟩
  rw [mCall_eq] at h
  have h := h.of_bind
  refine wpAny_Call_Name_kw (ld_glob I hg hm ?_ hdb)
  refine PySem.W.callWith_K (h₀ := X.base) I.ok.mod.kin hk (thn (ha.run pos pins s σ H (fun vs H1 => ∃ rs ρ1, EnvOk X.K c ad σ H1 ρ1 ∧ HeldAll X.K c ad ρ1 H1 rs vs ∧ rs.length = ps.length ∧ Wants (callRes fm ρ1 rs) (OkQ X.K c ad σ Q) (ExQ X.K c ad σ W)) I ⟨c, ad, ρ, E, ?_⟩) fun us s1 ⟨vs, H1, I1, r, rs, ρ1, E1, hh, hl, q⟩ => ⟨I1.kIn, ?_⟩) he hpl
  · cases q : am ρ with
    | stuck => rw [q] at h; exact h
    | exc x ρ' => rw [q] at h; exact h
    | ok rs ρ' => rw [q] at h; exact fun vs H1 E1 hh => ⟨rs, ρ', E1, hh, hal ρ rs ρ' q, h⟩
  · have hl' : vs.length = ps.length := hh.len.trans hl
    have hus : (us ++ []).length = ps.length := by rw [List.append_nil, ← r.length]; exact hl'
    refine call_of_code (run_v F hr C.gd C.tk (by have := hb s1 us I1.kIn hus; rwa [List.append_nil] at this) I1 r hl' E1 hh q)
theorem ve_call0 (F : FnV X.prog X.w X.K X.mg X.base k f fd [] fm) (hr : Room k X.A) (C : Cnd X W) (hg : Gl X x) (hm : X.mg x = some (.ref f)) (hk : PySem.W.keepIn X.K (.ref f) = true) (hb : Binds X.K fd [] []) (hdb : (x == ("__debug__" : Str)) = false := by decide) :
    VE X W (.Call (.Name x p) [] [] pos) (mCall fm aNil) := by
  refine ⟨fun pins s σ H Q I ⟨c, ad, ρ, E, h⟩ => ?_⟩
  rw [mCall_eq] at h
  have h := h.of_bind
  refine wpAny_Call_Name_kw (ld_glob I hg hm ?_ hdb)
  refine PySem.W.callWith_K0 I.kIn hk (call_of_code (run_v (us := []) (vs := []) (rs := []) F hr C.gd C.tk (by have := hb s [] I.kIn rfl; rwa [List.append_nil] at this) I .nil rfl E rfl h))
end
end Vl

set_option Elab.async false
set_option linter.all false
set_option maxRecDepth 100000
namespace Vl
open PySem PySem.Spec PyProof.Rows L2

/-! ### slots stored -/
section
variable {K : PySem.W.Frag} {c : Fx} {ad : Nat → Addr} {σ : Sg} {H H' : Hp} {ρ : List Sl}
theorem own_set {i j : Nat} {s : Sl} (hs : ∀ o, s ≠ .own o ∧ s ≠ .par o) (h : IsOwn (ρ.set i s) j) : IsOwn ρ j ∧ i ≠ j := by
  obtain ⟨o, h⟩ := h
  by_cases e : i = j
  · subst e
    by_cases hi : i < ρ.length
    · rw [List.getElem?_set_self hi] at h
      rcases h with h | h
      · exact absurd (Option.some.inj h) (hs o).1
      · exact absurd (Option.some.inj h) (hs o).2
    · rw [List.getElem?_eq_none (by rw [List.length_set]; omega)] at h
      rcases h with h | h <;> cases h
  · rw [List.getElem?_set_ne e] at h
    exact ⟨⟨o, h⟩, e⟩
/-- slot i is known to hold d | is forgotten -/
theorem EnvOk.setDat {i : Nat} {v : V} {d : D} (I : EnvOk K c ad σ H ρ) (h : Dv K (hid (Wr c ad ρ) H) d v) : EnvOk K c ad (σ.set i (some v)) H (ρ.set i (.dat d)) := by
  have ns : ∀ o, Sl.dat d ≠ .own o ∧ Sl.dat d ≠ .par o := fun o => ⟨fun z => (by cases z), fun z => (by cases z)⟩
  have wsub : ∀ a, Wr c ad (ρ.set i (.dat d)) a → Wr c ad ρ a := fun a w => w.imp id fun ⟨j, hj, e⟩ => ⟨j, (own_set ns hj).1, e⟩
  have em : Ext (hid (Wr c ad ρ) H) (hid (Wr c ad (ρ.set i (.dat d))) H) := hid_mono fun a o n q => ⟨fun w => n (wsub a w), q⟩
  refine ⟨by rw [List.length_set, List.length_set]; exact I.len, fun j d' g => ?_, fun j o g => ?_, fun j o g => ?_, fun j o g => ?_, fun j k hj hk => I.inj j k (own_set ns hj).1 (own_set ns hk).1, I.ext, I.fr, fun p hp => (I.gh p hp).ext em, I.pex, I.kpe⟩
  · by_cases e : i = j
    · subst e
      have hi : i < ρ.length := by
        have := (List.getElem?_eq_some_iff.mp g).1
        rwa [List.length_set] at this
      rw [List.getElem?_set_self hi] at g
      cases g
      exact ⟨v, List.getElem?_set_self (by rw [← I.len]; exact hi), h.ext em⟩
    · rw [List.getElem?_set_ne e] at g ⊢
      obtain ⟨u, h1, h2⟩ := I.dat j d' g
      exact ⟨u, h1, h2.ext em⟩
  · have e := (own_set ns ⟨o, .inl g⟩).2
    rw [List.getElem?_set_ne e] at g
    exact I.own j o g
  · have e := (own_set ns ⟨o, .inr g⟩).2
    rw [List.getElem?_set_ne e] at g
    exact I.par j o g
  · have e := (own_set ns ⟨o, g⟩).2
    rw [List.getElem?_set_ne e] at g ⊢
    obtain ⟨h1, h2, h3⟩ := I.at_ j o g
    exact ⟨h1, h2.ext em rfl, h3⟩
theorem EnvOk.setNon {i : Nat} {v : Option V} (I : EnvOk K c ad σ H ρ) : EnvOk K c ad (σ.set i v) H (ρ.set i .non) := by
  have ns : ∀ o, Sl.non ≠ .own o ∧ Sl.non ≠ .par o := fun o => ⟨fun z => (by cases z), fun z => (by cases z)⟩
  have wsub : ∀ a, Wr c ad (ρ.set i .non) a → Wr c ad ρ a := fun a w => w.imp id fun ⟨j, hj, e⟩ => ⟨j, (own_set ns hj).1, e⟩
  have em : Ext (hid (Wr c ad ρ) H) (hid (Wr c ad (ρ.set i .non)) H) := hid_mono fun a o n q => ⟨fun w => n (wsub a w), q⟩
  refine ⟨by rw [List.length_set, List.length_set]; exact I.len, fun j d' g => ?_, fun j o g => ?_, fun j o g => ?_, fun j o g => ?_, fun j k hj hk => I.inj j k (own_set ns hj).1 (own_set ns hk).1, I.ext, I.fr, fun p hp => (I.gh p hp).ext em, I.pex, I.kpe⟩
  · have e : i ≠ j := fun e => by
      subst e
      have hi : i < ρ.length := by
        have := (List.getElem?_eq_some_iff.mp g).1
        rwa [List.length_set] at this
      rw [List.getElem?_set_self hi] at g
      cases g
    rw [List.getElem?_set_ne e] at g ⊢
    obtain ⟨u, h1, h2⟩ := I.dat j d' g
    exact ⟨u, h1, h2.ext em⟩
  · have e := (own_set ns ⟨o, .inl g⟩).2
    rw [List.getElem?_set_ne e] at g
    exact I.own j o g
  · have e := (own_set ns ⟨o, .inr g⟩).2
    rw [List.getElem?_set_ne e] at g
    exact I.par j o g
  · have e := (own_set ns ⟨o, g⟩).2
    rw [List.getElem?_set_ne e] at g ⊢
    obtain ⟨h1, h2, h3⟩ := I.at_ j o g
    exact ⟨h1, h2.ext em rfl, h3⟩
/-- a new object becomes slot i's own -/
theorem EnvOk.setOwn {i : Nat} {p : Addr} {o : Own} (hi : i < ρ.length) (I : EnvOk K (c.plus p) ad σ H ρ) (h0 : c.H0 p = none) (hx : ¬ c.ex p) (ho : OwnAt K (hid (Wr (c.plus p) ad ρ) H) H p o) :
    EnvOk K c (fun j => if j = i then p else ad j) (σ.set i (some (.ref p))) H (ρ.set i (.own o)) := by
  have at_ne : ∀ {j : Nat} {s : Sl}, i ≠ j → (ρ.set i (.own o))[j]? = some s → ρ[j]? = some s := fun {j s} e g => by rwa [List.getElem?_set_ne e] at g
  have at_i : (ρ.set i (.own o))[i]? = some (.own o) := List.getElem?_set_self hi
  have isown : ∀ {j : Nat}, IsOwn (ρ.set i (.own o)) j → j = i ∨ IsOwn ρ j := fun {j} ⟨u, g⟩ => by
    by_cases e : i = j
    · exact .inl e.symm
    · exact .inr ⟨u, g.imp (at_ne e) (at_ne e)⟩
  have pne : ∀ {j : Nat}, IsOwn ρ j → ad j ≠ p := fun {j} ⟨u, g⟩ e => (I.at_ j u g).2.2 (.inr e)
  have wsub : ∀ a, Wr c (fun j => if j = i then p else ad j) (ρ.set i (.own o)) a → Wr (c.plus p) ad ρ a := fun a w => by
    rcases w with w | ⟨j, hj, e⟩
    · exact .inl (.inl w)
    · by_cases ej : j = i
      · try dsimp only at e
        rw [if_pos ej] at e
        exact .inl (.inr e.symm)
      · try dsimp only at e
        rw [if_neg ej] at e
        exact .inr ⟨j, (isown hj).resolve_left ej, e⟩
  have em : Ext (hid (Wr (c.plus p) ad ρ) H) (hid (Wr c (fun j => if j = i then p else ad j) (ρ.set i (.own o))) H) := hid_mono fun a o n q => ⟨fun w => n (wsub a w), q⟩
  refine ⟨by rw [List.length_set, List.length_set]; exact I.len, fun j d' g => ?_, fun j u g => ?_, fun j u g => ?_, fun j u g => ?_, fun j k hj hk e => ?_, fun a w => I.ext a (.inl w), I.fr, fun p hp => (I.gh p hp).ext em, I.pex, I.kpe⟩
  · have e : i ≠ j := fun e => by subst e; rw [at_i] at g; cases g
    obtain ⟨v, h1, h2⟩ := I.dat j d' (at_ne e g)
    exact ⟨v, by rw [List.getElem?_set_ne e]; exact h1, h2.ext em⟩
  · try dsimp only
    by_cases e : j = i
    · rw [if_pos e]; exact h0
    · rw [if_neg e]; exact I.own j u (at_ne (Ne.symm e) g)
  · have e : i ≠ j := fun e => by subst e; rw [at_i] at g; cases g
    try dsimp only
    rw [if_neg (Ne.symm e)]
    exact I.par j u (at_ne e g)
  · try dsimp only
    by_cases e : j = i
    · subst e
      rw [if_pos rfl]
      have hu : u = o := by
        rcases g with g | g <;> rw [at_i] at g <;> cases g
        rfl
      subst hu
      exact ⟨List.getElem?_set_self (by rw [← I.len]; exact hi), ho.ext em rfl, hx⟩
    · rw [if_neg e]
      obtain ⟨h1, h2, h3⟩ := I.at_ j u (g.imp (at_ne (Ne.symm e)) (at_ne (Ne.symm e)))
      exact ⟨by rw [List.getElem?_set_ne (Ne.symm e)]; exact h1, h2.ext em rfl, fun w => h3 (.inl w)⟩
  · try dsimp only at e
    by_cases ej : j = i
    · by_cases ek : k = i
      · rw [ej, ek]
      · rw [if_pos ej, if_neg ek] at e
        exact absurd e.symm (pne ((isown hk).resolve_left ek))
    · by_cases ek : k = i
      · rw [if_neg ej, if_pos ek] at e
        exact absurd e (pne ((isown hj).resolve_left ej))
      · rw [if_neg ej, if_neg ek] at e
        exact I.inj j k ((isown hj).resolve_left ej) ((isown hk).resolve_left ek) e
/-- a slot's object is changed -/
theorem EnvOk.write {i : Nat} {u o : Own} {ho : HO} {s : Sl} (I : EnvOk K c ad σ H ρ) (hs : (ρ[i]? = some (.own u) ∧ s = .own o) ∨ (ρ[i]? = some (.par u) ∧ s = .par o)) (hn : OwnAt K (hid (Wr c ad ρ) H) (upd H (ad i) ho) (ad i) o) :
    EnvOk K c ad σ (upd H (ad i) ho) (ρ.set i s) := by
  have hu : ρ[i]? = some (.own u) ∨ ρ[i]? = some (.par u) := hs.imp (·.1) (·.1)
  have hi : i < ρ.length := IsOwn.lt ⟨u, hu⟩
  have at_ne : ∀ {j : Nat} {t : Sl}, i ≠ j → (ρ.set i s)[j]? = some t → ρ[j]? = some t := fun {j t} e g => by rwa [List.getElem?_set_ne e] at g
  have at_i : (ρ.set i s)[i]? = some s := List.getElem?_set_self hi
  have isown : ∀ {j : Nat}, IsOwn (ρ.set i s) j → IsOwn ρ j := fun {j} ⟨w, g⟩ => by
    by_cases e : i = j
    · subst e; exact ⟨u, hu⟩
    · exact ⟨w, g.imp (at_ne e) (at_ne e)⟩
  have own_i : Wr c ad ρ (ad i) := .inr ⟨i, ⟨u, hu⟩, rfl⟩
  have wsub : ∀ a, Wr c ad (ρ.set i s) a → Wr c ad ρ a := fun a w => w.imp id fun ⟨j, hj, e⟩ => ⟨j, isown hj, e⟩
  have em : Ext (hid (Wr c ad ρ) H) (hid (Wr c ad (ρ.set i s)) (upd H (ad i) ho)) := hid_mono fun a o n q => ⟨fun w => n (wsub a w), by rw [upd_ne (fun e => n (by rw [e]; exact own_i))]; exact q⟩
  have xne : ∀ a, c.ex a → a ≠ ad i := fun a w e => (I.at_ i u hu).2.2 (e ▸ w)
  refine ⟨by rw [List.length_set]; exact I.len, fun j d' g => ?_, fun j w g => ?_, fun j w g => ?_, fun j w g => ?_, fun j k hj hk e => I.inj j k (isown hj) (isown hk) e, fun a w => ?_, fun a w h n => ?_, fun p hp => (I.gh p hp).ext em, fun a w => ?_, fun q hq => ?_⟩
  · have e : i ≠ j := fun e => by
      subst e; rw [at_i] at g
      rcases hs with ⟨_, rfl⟩ | ⟨_, rfl⟩ <;> cases g
    obtain ⟨v, h1, h2⟩ := I.dat j d' (at_ne e g)
    exact ⟨v, h1, h2.ext em⟩
  · by_cases e : i = j
    · subst e
      rcases hs with ⟨h1, rfl⟩ | ⟨h1, rfl⟩
      · exact I.own i u h1
      · rw [at_i] at g; cases g
    · exact I.own j w (at_ne e g)
  · by_cases e : i = j
    · subst e
      rcases hs with ⟨h1, rfl⟩ | ⟨h1, rfl⟩
      · rw [at_i] at g; cases g
      · exact I.par i u h1
    · exact I.par j w (at_ne e g)
  · by_cases e : i = j
    · subst e
      obtain ⟨h1, _, h3⟩ := I.at_ i u hu
      have ew : w = o := by
        rcases hs with ⟨_, rfl⟩ | ⟨_, rfl⟩ <;> rcases g with g | g <;> rw [at_i] at g <;> cases g <;> rfl
      subst ew
      refine ⟨h1, hn.ext em rfl, h3⟩
    · obtain ⟨h1, h2, h3⟩ := I.at_ j w (g.imp (at_ne e) (at_ne e))
      have ne : ad j ≠ ad i := fun q => e (I.inj j i ⟨w, g.imp (at_ne e) (at_ne e)⟩ ⟨u, hu⟩ q).symm
      exact ⟨h1, h2.ext em (upd_ne ne), h3⟩
  · obtain ⟨x, hx⟩ := I.ext a w
    exact ⟨x, by rw [upd_ne (xne a w)]; exact hx⟩
  · have ne : a ≠ ad i := fun e => by
      rcases hs with ⟨h1, _⟩ | ⟨h1, _⟩
      · have := I.own i u h1
        rw [← e, h] at this; cases this
      · exact n (e ▸ (I.par i u h1).2)
    rw [upd_ne ne]
    exact I.fr a w h n
  · obtain ⟨x, hx⟩ := I.pex a w
    by_cases e : a = ad i
    · subst e; exact ⟨_, upd_same⟩
    · exact ⟨x, by rw [upd_ne e]; exact hx⟩
  · rw [upd_ne (xne _ (c.kpx q hq))]
    exact I.kpe q hq
/-- a slot's list is given up: data from now on -/
theorem EnvOk.freeze {j : Nat} {ds : List D} (I : EnvOk K c ad σ H ρ) (hj : ρ[j]? = some (.own (.lst ds))) : EnvOk K c ad σ H (ρ.set j (.dat (.list ds))) ∧ Dv K (hid (Wr c ad (ρ.set j (.dat (.list ds)))) H) (.list ds) (.ref (ad j)) := by
  obtain ⟨h1, ⟨xs, h2, h3⟩, h4⟩ := I.at_ j _ (.inl hj)
  have I' : EnvOk K c ad (σ.set j (some (.ref (ad j)))) H (ρ.set j .non) := I.setNon
  have e1 : σ.set j (some (.ref (ad j))) = σ := by
    have hl := (List.getElem?_eq_some_iff.mp h1).1
    apply List.ext_getElem?
    intro k
    by_cases e : j = k
    · subst e; rw [List.getElem?_set_self hl, h1]
    · rw [List.getElem?_set_ne e]
  rw [e1] at I'
  have ns : ∀ o, Sl.non ≠ .own o ∧ Sl.non ≠ .par o := fun o => ⟨fun z => (by cases z), fun z => (by cases z)⟩
  have nw : ¬ Wr c ad (ρ.set j .non) (ad j) := fun w => by
    rcases w with w | ⟨k, hk, e⟩
    · exact h4 w
    · obtain ⟨k1, k2⟩ := own_set ns hk
      exact k2 (I.inj j k ⟨_, .inl hj⟩ k1 e.symm)
  have wsub : ∀ a, Wr c ad (ρ.set j .non) a → Wr c ad ρ a := fun a w => w.imp id fun ⟨k, hk, e⟩ => ⟨k, (own_set ns hk).1, e⟩
  have dv : Dv K (hid (Wr c ad (ρ.set j .non)) H) (.list ds) (.ref (ad j)) := by
    simp only [Dv]
    exact ⟨ad j, xs, rfl, by rw [hid_of nw]; exact h2, h3.ext (hid_mono fun a o n q => ⟨fun w => n (wsub a w), q⟩)⟩
  have I2 := I'.setDat (i := j) dv
  rw [e1, List.set_set] at I2
  have ns2 : ∀ o, Sl.dat (.list ds) ≠ .own o ∧ Sl.dat (.list ds) ≠ .par o := fun o => ⟨fun z => (by cases z), fun z => (by cases z)⟩
  refine ⟨I2, dv.ext (hid_mono fun a o n q => ⟨fun w => n (w.imp id fun ⟨k, hk, e⟩ => ?_), q⟩)⟩
  obtain ⟨⟨u, k1⟩, k2⟩ := own_set ns2 hk
  exact ⟨k, ⟨u, by rw [List.getElem?_set_ne k2]; exact k1⟩, e⟩
end
/-- name i is bound to a result -/
def setR (i : Nat) (r : Res) (ρ : List Sl) : Option (List Sl) :=
  if i < ρ.length then match r with
    | .dat d => some (ρ.set i (.dat d))
    | .frs o => some (ρ.set i (.own o))
    | .slt j => match ρ[j]? with
      | some (.own (.lst ds)) => some ((ρ.set j (.dat (.list ds))).set i (.dat (.list ds)))
      | _ => none
  else none
theorem setR_ok {K : PySem.W.Frag} {c : Fx} {ad : Nat → Addr} {σ : Sg} {H : Hp} {ρ ρ' : List Sl} {i : Nat} {r : Res} {v : V} (e : setR i r ρ = some ρ') (h : Post K c ad σ r ρ v H) : ∃ ad', EnvOk K c ad' (σ.set i (some v)) H ρ' := by
  unfold setR at e
  split at e
  · rename_i hi
    cases r with
    | dat d => cases e; exact ⟨ad, h.1.setDat h.2⟩
    | frs o =>
      cases e
      obtain ⟨p, rfl, I, h0, hx, ho⟩ := h
      exact ⟨_, I.setOwn hi h0 hx ho⟩
    | slt j =>
      dsimp only at e
      split at e
      · rename_i ds hj
        cases e
        obtain ⟨I, _, rfl⟩ := h
        obtain ⟨I', d⟩ := I.freeze hj
        exact ⟨ad, I'.setDat d⟩
      · cases e
  · cases e

/-! ### statements -/
inductive So where
  | stuck
  | nx (ρ : List Sl)
  | rt (r : Res) (ρ : List Sl)
  | bk (ρ : List Sl)
  | ct (ρ : List Sl)
  | exc (x : Exn) (ρ : List Sl)
abbrev SM := List Sl → So
def OkN (K : PySem.W.Frag) (c : Fx) (P : Sg → Hp → Prop) (ρ : List Sl) : Prop := ∀ ad σ H, EnvOk K c ad σ H ρ → P σ H
def WantS (K : PySem.W.Frag) (c : Fx) (W : WX) (D : Ends) : So → Prop
  | .stuck => False
  | .nx ρ => OkN K c D.nx ρ
  | .bk ρ => OkN K c D.bk ρ
  | .ct ρ => OkN K c D.ct ρ
  | .rt r ρ => ∀ ad σ v H, Post K c ad σ r ρ v H → D.rt v H
  | .exc x ρ => ∀ ad σ cls d H, XPost K c ad σ x ρ cls d H → W cls d σ H
def tSm (K : PySem.W.Frag) (W : WX) (m : SM) : TS := fun D σ H => ∃ c ad ρ, EnvOk K c ad σ H ρ ∧ WantS K c W D (m ρ)
abbrev VS (X : Cx) (W : WX) (st : Stmt) (m : SM) : Prop := PS X st (tSm X.K W m)
abbrev VB (X : Cx) (W : WX) (st : List Stmt) (m : SM) : Prop := PSs X st (tSm X.K W m)
theorem ps_imp {X : Cx} {st : Stmt} {t t' : TS} (h : PS X st t) (g : ∀ D σ H, t' D σ H → t D σ H) : PS X st t' := ⟨fun pins s σ H D I q => h.run pins s σ H D I (g D σ H q)⟩
theorem pss_imp {X : Cx} {st : List Stmt} {t t' : TS} (h : PSs X st t) (g : ∀ D σ H, t' D σ H → t D σ H) : PSs X st t' := ⟨fun pins s σ H D I q => h.run pins s σ H D I (g D σ H q)⟩
def sSeq (a b : SM) : SM := fun ρ => match a ρ with
  | .nx ρ' => b ρ'
  | o => o
def sNil : SM := fun ρ => .nx ρ
/-- an expression ahead of a statement's end -/
def ofE {α : Type} (r : Rg α) (f : α → List Sl → So) : So := match r with
  | .stuck => .stuck
  | .ok a ρ => f a ρ
  | .exc x ρ => .exc x ρ
theorem WantS.ofE {K : PySem.W.Frag} {c : Fx} {W : WX} {D : Ends} {α : Type} {r : Rg α} {f : α → List Sl → So} {ad : Nat → Addr} {σ : Sg} (h : WantS K c W D (ofE r f)) : Wants r (fun a ρ => WantS K c W D (f a ρ)) (ExQ K c ad σ W) := by
  cases r with
  | stuck => exact h
  | ok a ρ => exact h
  | exc x ρ => exact fun cls d H q => h ad σ cls d H q
def oS {α : Type} (o : Option α) (f : α → So) : So := match o with
  | none => .stuck
  | some a => f a
theorem WantS.oS {K : PySem.W.Frag} {c : Fx} {W : WX} {D : Ends} {α : Type} {o : Option α} {f : α → So} (h : WantS K c W D (oS o f)) : ∃ a, o = some a ∧ WantS K c W D (f a) := by
  cases o with
  | none => exact h.elim
  | some a => exact ⟨a, rfl, h⟩
section
variable {X : Cx} {W : WX} {st : Stmt} {rest b1 b2 : List Stmt} {ms mr : SM} {pos : Pos} {e c : Expr} {me : EM} {mt : TM}
theorem vb_nil : VB X W [] sNil := pss_imp pss_nil fun D σ H ⟨c, ad, ρ, I, h⟩ => h ad σ H I
theorem vb_cons (h1 : VS X W st ms) (h2 : VB X W rest mr) : VB X W (st :: rest) (sSeq ms mr) :=
  pss_imp (pss_cons h1 h2) fun D σ H ⟨c, ad, ρ, I, h⟩ => ⟨c, ad, ρ, I, by
    unfold sSeq at h
    cases e : ms ρ with
    | stuck => rw [e] at h; exact h
    | nx ρ' => rw [e] at h; exact fun ad' σ' H' I' => ⟨c, ad', ρ', I', h⟩
    | rt r ρ' => rw [e] at h; exact h
    | bk ρ' => rw [e] at h; exact h
    | ct ρ' => rw [e] at h; exact h
    | exc x ρ' => rw [e] at h; exact h⟩
theorem vb_one (h1 : VS X W st ms) : VB X W [st] ms := pss_one h1
theorem vs_pass : VS X W (.Pass pos) sNil := ps_imp ps_pass fun D σ H ⟨c, ad, ρ, I, h⟩ => h ad σ H I
def sBk : SM := fun ρ => .bk ρ
def sCt : SM := fun ρ => .ct ρ
theorem vs_bk : VS X W (.Break pos) sBk := ps_imp ps_break fun D σ H ⟨c, ad, ρ, I, h⟩ => h ad σ H I
theorem vs_ct : VS X W (.Continue pos) sCt := ps_imp ps_continue fun D σ H ⟨c, ad, ρ, I, h⟩ => h ad σ H I
/-- an expression for its effect -/
def sEx (m : EM) : SM := fun ρ => ofE (m ρ) fun _ ρ' => .nx ρ'
theorem vs_ex (he : VE X W e me) (hs : swapsWith e none pos.line X.env = pure false := by rfl) : VS X W (.Expr e pos) (sEx me) :=
  ps_imp (ps_expr he hs) fun D σ H ⟨c, ad, ρ, I, h⟩ => ⟨c, ad, ρ, I, h.ofE.mono (fun r ρ' q v H' p => q ad σ H' p.env) fun _ _ k => k⟩
/-- return e: an own list goes to the caller -/
def retR (r : Res) (ρ : List Sl) : So := match r with
  | .dat d => .rt (.dat d) ρ
  | .frs o => .rt (.frs o) ρ
  | .slt i => match ρ[i]? with
    | some (.own o) => .rt (.frs o) (ρ.set i .non)
    | _ => .stuck
def sRet (m : EM) : SM := fun ρ => ofE (m ρ) retR
theorem ret_own {K : PySem.W.Frag} {c : Fx} {ad : Nat → Addr} {σ : Sg} {H : Hp} {ρ : List Sl} {i : Nat} {o : Own} (I : EnvOk K c ad σ H ρ) (hi : ρ[i]? = some (.own o)) : Post K c ad (σ.set i none) (.frs o) (ρ.set i .non) (.ref (ad i)) H := by
  obtain ⟨h1, h2, h3⟩ := I.at_ i o (.inl hi)
  have I' : EnvOk K c ad (σ.set i none) H (ρ.set i .non) := I.setNon
  have ns : ∀ o, Sl.non ≠ .own o ∧ Sl.non ≠ .par o := fun o => ⟨fun z => (by cases z), fun z => (by cases z)⟩
  have wsub : ∀ a, Wr (c.plus (ad i)) ad (ρ.set i .non) a → Wr c ad ρ a := fun a w => by
    rcases w with (w | w) | ⟨k, hk, e⟩
    · exact .inl w
    · exact .inr ⟨i, ⟨o, .inl hi⟩, w.symm⟩
    · exact .inr ⟨k, (own_set ns hk).1, e⟩
  have em : Ext (hid (Wr c ad ρ) H) (hid (Wr (c.plus (ad i)) ad (ρ.set i .non)) H) := hid_mono fun a o n q => ⟨fun w => n (wsub a w), q⟩
  have dat_of : ∀ {j : Nat} {s : Sl}, s ≠ .non → (ρ.set i .non)[j]? = some s → i ≠ j ∧ ρ[j]? = some s := fun {j s} n g => by
    by_cases e : i = j
    · subst e
      rw [List.getElem?_set_self (IsOwn.lt ⟨o, .inl hi⟩)] at g
      exact absurd (Option.some.inj g).symm n
    · exact ⟨e, by rwa [List.getElem?_set_ne e] at g⟩
  refine ⟨ad i, rfl, ⟨I'.len, fun j d g => ?_, I'.own, I'.par, fun j u g => ?_, I'.inj, fun a w => ?_, I.fr, fun p hp => (I.gh p hp).ext em, I.pex, I.kpe⟩, I.own i o hi, h3, h2.ext em rfl⟩
  · obtain ⟨e, g⟩ := dat_of (fun z => by cases z) g
    obtain ⟨v, k1, k2⟩ := I.dat j d g
    exact ⟨v, by rw [List.getElem?_set_ne e]; exact k1, k2.ext em⟩
  · have g' : i ≠ j ∧ (ρ[j]? = some (.own u) ∨ ρ[j]? = some (.par u)) := by
      rcases g with g | g
      · obtain ⟨e, g⟩ := dat_of (fun z => by cases z) g; exact ⟨e, .inl g⟩
      · obtain ⟨e, g⟩ := dat_of (fun z => by cases z) g; exact ⟨e, .inr g⟩
    obtain ⟨e, g⟩ := g'
    obtain ⟨k1, k2, k3⟩ := I.at_ j u g
    refine ⟨by rw [List.getElem?_set_ne e]; exact k1, k2.ext em rfl, fun w => ?_⟩
    rcases w with w | w
    · exact k3 w
    · exact e (I.inj j i ⟨u, g⟩ ⟨o, .inl hi⟩ w).symm
  · rcases w with w | w
    · exact I.ext a w
    · subst w; exact h2.some
theorem vs_ret (he : VE X W e me) : VS X W (.Return (some e) pos) (sRet me) :=
  ps_imp (ps_ret he) fun D σ H ⟨c, ad, ρ, I, h⟩ => ⟨c, ad, ρ, I, h.ofE.mono (fun r ρ' q v H' p => by
    cases r with
    | dat d => exact q ad σ v H' p
    | frs o => exact q ad σ v H' p
    | slt i =>
      unfold retR at q
      dsimp only at q
      split at q
      · rename_i o hi
        obtain ⟨I', _, rfl⟩ := p
        exact q ad _ _ H' (ret_own I' hi)
      · exact q.elim) fun _ _ k => k⟩
def sRetN : SM := fun ρ => .rt (.dat .none) ρ
theorem vs_retN : VS X W (.Return none pos) sRetN := ps_imp ps_retN fun D σ H ⟨c, ad, ρ, I, h⟩ => h ad σ .non H ⟨I, dv_non⟩
def sIf (t : TM) (a b : SM) : SM := fun ρ => ofE (t ρ) fun k ρ' => if k = true then a ρ' else b ρ'
theorem vs_if (hc : VT X W c mt) (ha : VB X W b1 ms) (hb : VB X W b2 mr) : VS X W (.If c b1 b2 pos) (sIf mt ms mr) :=
  ps_imp (ps_if hc ha hb) fun D σ H ⟨c, ad, ρ, I, h⟩ => ⟨c, ad, ρ, I, h.ofE.mono (fun k ρ' q H' I' => by
    cases k with
    | true => exact ⟨c, ad, ρ', I', q⟩
    | false => exact ⟨c, ad, ρ', I', q⟩) fun _ _ k => k⟩
/-- a ghost step: the list of slot i is given up -/
def sFz (i : Nat) (m : SM) : SM := fun ρ => match ρ[i]? with
  | some (.own (.lst ds)) => m (ρ.set i (.dat (.list ds)))
  | some (.dat _) => m ρ
  | _ => .stuck
theorem vs_fz (i : Nat) (h : VS X W st ms) : VS X W st (sFz i ms) := ps_imp h fun D σ H ⟨c, ad, ρ, I, h⟩ => by
  unfold sFz at h
  split at h
  · rename_i ds hi
    exact ⟨c, ad, _, (I.freeze hi).1, h⟩
  · exact ⟨c, ad, ρ, I, h⟩
  · exact h.elim
/-- x = e -/
def sSet (i : Nat) (m : EM) : SM := fun ρ => ofE (m ρ) fun r ρ' => oS (setR i r ρ') .nx
theorem set_red {K : PySem.W.Frag} {i : Nat} {D : Ends} {σ : Sg} {H : Hp} (h : tSm K W (sSet i me) D σ H) : tAsg (tV K W me) (gName i) D σ H := by
  obtain ⟨c, ad, ρ, I, h⟩ := h
  refine ⟨c, ad, ρ, I, h.ofE.mono (fun r ρ' q v H' p => ?_) fun _ _ k => k⟩
  obtain ⟨ρ2, e, q⟩ := q.oS
  obtain ⟨ad', I'⟩ := setR_ok e p
  exact q ad' _ H' I'
theorem vs_set {i : Nat} {x : Str} {pos' : Pos} (hN : X.N.Nodup) (hi : X.N[i]? = some x) (hx : Loc X.env.scope x) (he : VE X W e me) (hs : swapsWith e (some (.Name x pos')) pos.line X.env = pure false := by rfl) (hf : X.fn x = true ∨ X.env.scope.names.lookup x = some .local := by first | exact .inl rfl | exact .inr rfl | assumption) :
    VS X W (.Assign [.Name x pos'] e pos) (sSet i me) := ps_imp (ps_set hN hi hx he hs hf) fun D σ H => set_red
end
end Vl

set_option Elab.async false
set_option linter.all false
set_option maxRecDepth 100000
namespace Vl
open PySem PySem.Spec PyProof.Rows L2

/-! ### targets of names -/
abbrev GM := D → List Sl → Option (List Sl)
def TgOk (K : PySem.W.Frag) (vs : List Nat) (g : TG) (gm : GM) : Prop :=
  ∀ (c : Fx) (ad : Nat → Addr) (σ : Sg) (H : Hp) (ρ : List Sl) (v : V) (d : D) (ρ' : List Sl) (Q : Sg → Hp → Prop), EnvOk K c ad σ H ρ → Dv K (hid (Wr c ad ρ) H) d v → gm d ρ = some ρ' →
    (∀ σ', wipe σ' vs = wipe σ vs → EnvOk K c ad σ' H ρ' → Q σ' H) → g v σ H Q
def TgsOk (K : PySem.W.Frag) (vs : List Nat) (g : TGs) (gm : List D → List Sl → Option (List Sl)) : Prop :=
  ∀ (c : Fx) (ad : Nat → Addr) (σ : Sg) (H : Hp) (ρ : List Sl) (us : List V) (ds : List D) (ρ' : List Sl) (Q : Sg → Hp → Prop), EnvOk K c ad σ H ρ → DvAll K (hid (Wr c ad ρ) H) ds us → gm ds ρ = some ρ' →
    (∀ σ', wipe σ' vs = wipe σ vs → EnvOk K c ad σ' H ρ' → Q σ' H) → g us σ H Q
def gmN (i : Nat) : GM := fun d ρ => some (ρ.set i (.dat d))
def gmNil : List D → List Sl → Option (List Sl) := fun ds ρ => match ds with
  | [] => some ρ
  | _ => none
def gmCons (g : GM) (r : List D → List Sl → Option (List Sl)) : List D → List Sl → Option (List Sl) := fun ds ρ => match ds with
  | d :: es => match g d ρ with
    | some ρ' => r es ρ'
    | none => none
  | [] => none
def gmT (n : Nat) (r : List D → List Sl → Option (List Sl)) : GM := fun d ρ => match d with
  | .tuple ds => if ds.length = n then r ds ρ else none
  | _ => none
theorem wipe_set {σ : Sg} {i : Nat} {v : Option V} : ∀ {vs : List Nat}, i ∈ vs → wipe (σ.set i v) vs = wipe σ vs
  | [], h => nomatch h
  | k :: vs, h => by
    unfold wipe
    by_cases hi : i ∈ vs
    · rw [wipe_set hi]
    · have e : i = k := (List.mem_cons.mp h).resolve_right hi
      subst e
      have out : ∀ {vs : List Nat}, i ∉ vs → wipe (σ.set i v) vs = (wipe σ vs).set i v := by
        intro vs
        induction vs with
        | nil => intro _; rfl
        | cons m vs ih =>
          intro hn
          have h1 : i ≠ m := fun e => hn (e ▸ List.mem_cons_self)
          have h2 : i ∉ vs := fun e => hn (List.mem_cons_of_mem _ e)
          unfold wipe
          rw [ih h2, List.set_comm _ _ h1]
      rw [out hi, List.set_set]
theorem tg_name {K : PySem.W.Frag} {vs : List Nat} {i : Nat} (h : i ∈ vs) : TgOk K vs (gName i) (gmN i) := by
  intro c ad σ H ρ v d ρ' Q I hd e q
  cases e
  exact q _ (wipe_set h) (I.setDat hd)
theorem tgs_nil {K : PySem.W.Frag} {vs : List Nat} : TgsOk K vs gNil gmNil := by
  intro c ad σ H ρ us ds ρ' Q I hd e q
  unfold gmNil at e
  split at e
  · cases e
    simp only [DvAll] at hd
    exact ⟨hd, q σ rfl I⟩
  · cases e
theorem zip_held {K : PySem.W.Frag} {H : Hp} : ∀ {ds : List D} {us : List V}, DvAll K H ds us → ∀ p ∈ ds.zip us, Dv K H p.1 p.2
  | [], us, _ => fun p hp => by simp at hp
  | d :: ds, us, h => by
    simp only [DvAll] at h
    obtain ⟨x, r, rfl, h1, h2⟩ := h
    intro p hp
    rcases List.mem_cons.mp hp with rfl | hp
    · exact h1
    · exact zip_held h2 p hp
theorem held_zip {K : PySem.W.Frag} {H : Hp} : ∀ {ds : List D} {us : List V}, ds.length = us.length → (∀ p ∈ ds.zip us, Dv K H p.1 p.2) → DvAll K H ds us
  | [], [], _, _ => .nil
  | [], _ :: _, h, _ => by simp at h
  | _ :: _, [], h, _ => by simp at h
  | d :: ds, u :: us, h, g => .cons (g (d, u) List.mem_cons_self) (held_zip (by simpa using h) fun p hp => g p (List.mem_cons_of_mem _ hp))
theorem tgs_cons {K : PySem.W.Frag} {vs : List Nat} {t : TG} {u : TGs} {g : GM} {r : List D → List Sl → Option (List Sl)} (h1 : TgOk K vs t g) (h2 : TgsOk K vs u r) : TgsOk K vs (gCons t u) (gmCons g r) := by
  intro c ad σ H ρ us ds ρ' Q I hd e q
  unfold gmCons at e
  split at e
  · rename_i d es
    split at e
    · rename_i ρ1 e1
      simp only [DvAll] at hd
      obtain ⟨x, xs, rfl, k1, k2⟩ := hd
      refine ⟨x, xs, rfl, h1 (c.hold (es.zip xs)) ad σ H ρ x d ρ1 _ (I.hold (zip_held k2)) k1 e1 fun σ1 w1 I1 => ?_⟩
      exact h2 c ad σ1 H ρ1 xs es ρ' Q I1.unhold (held_zip k2.length I1.held) e fun σ2 w2 I2 => q σ2 (w2.trans w1) I2
    · cases e
  · cases e
theorem tg_tup {K : PySem.W.Frag} {vs : List Nat} {u : TGs} {r : List D → List Sl → Option (List Sl)} {n : Nat} (h : TgsOk K vs u r) : TgOk K vs (gTup K n u) (gmT n r) := by
  intro c ad σ H ρ v d ρ' Q I hd e q
  unfold gmT at e
  split at e
  · split at e
    · rename_i ds hl
      simp only [Dv] at hd
      obtain ⟨a, xs, rfl, k1, k2⟩ := hd
      exact ⟨a, xs, rfl, hid_ext.sqT k1, k2.length.symm.trans hl, h c ad σ H ρ xs ds ρ' Q I k2 e q⟩
    · cases e
  · cases e
/-- target = e, a target of names -/
def sTg (gm : GM) (m : EM) : SM := fun ρ => ofE (m ρ) fun r ρ' => oS (fz r) fun r => match r with
  | .dat d => oS (gm d ρ') .nx
  | _ => .stuck
section
variable {X : Cx} {W : WX} {tg e : Expr} {me : EM} {pos : Pos} {vs : List Nat} {g : TG} {gm : GM}
theorem vs_tg (he : VE X W e me) (hg : PG X tg g) (hm : TgOk X.K vs g gm) (hs : swapsWithSole [tg] e pos.line X.env = pure false := by rfl) (hw : swappedStores [tg] e X.env = pure none := by rfl)
    (h1 : (assignEach [tg] X.env).map (·.2) = [assign tg X.env] := by rfl) : VS X W (.Assign [tg] e pos) (sTg gm me) :=
  ps_imp (ps_asg he hg hs hw h1) fun D σ H ⟨c, ad, ρ, I, h⟩ => ⟨c, ad, ρ, I, h.ofE.mono (fun r ρ' q v H' p => by
    obtain ⟨r', e, q⟩ := q.oS
    have p' := fz_ok e p
    cases r' with
    | dat d =>
      obtain ⟨ρ2, e2, q⟩ := q.oS
      exact hm c ad σ H' ρ' v d ρ2 _ p'.1 p'.2 e2 fun σ' _ I' => q ad σ' H' I'
    | frs o => exact q.elim
    | slt i => exact q.elim) fun _ _ k => k⟩
end

/-! ### while -/
theorem WantS.toHold {K : PySem.W.Frag} {c : Fx} {W : WX} {E : Ends} {o : So} {g : List (D × V)} (h : WantS K c W E o) : WantS K (c.hold g) W E o := by
  cases o with
  | stuck => exact h
  | nx ρ => exact fun ad σ H I => h ad σ H I.unhold
  | bk ρ => exact fun ad σ H I => h ad σ H I.unhold
  | ct ρ => exact fun ad σ H I => h ad σ H I.unhold
  | rt r ρ => exact fun ad σ v H p => h ad σ v H p.unhold
  | exc x ρ => exact fun ad σ cls d H ⟨I, p⟩ => h ad σ cls d H ⟨I.unhold, p⟩
def whL : Nat → TM → SM → SM
  | 0, _, _ => fun _ => .stuck
  | n + 1, t, b => fun ρ => ofE (t ρ) fun k ρ1 => if k = true then match b ρ1 with
      | .nx ρ2 => whL n t b ρ2
      | .ct ρ2 => whL n t b ρ2
      | .bk ρ2 => .nx ρ2
      | o => o
    else .nx ρ1
section
variable {X : Cx} {W : WX} {c : Expr} {body : List Stmt} {mt : TM} {mb : SM} {pos : Pos}
theorem vs_while (n : Nat) (hp : PassesOwn (model X.prog X.w) X.A X.env X.xe) (hc : VT X W c mt) (hb : VB X W body mb) : VS X W (.While c body [] pos) (whL n mt mb) :=
  ps_imp (ps_while hp hc hb) fun D σ H ⟨c, ad, ρ, I, h⟩ => by
    refine ⟨fun m σ H => ∃ ad ρ, EnvOk X.K c ad σ H ρ ∧ WantS X.K c W D (whL m mt mb ρ), ⟨n, ad, ρ, I, h⟩, ?_⟩
    rintro m σ H ⟨ad, ρ, I, h⟩
    cases m with
    | zero => exact h.elim
    | succ m =>
      refine ⟨c, ad, ρ, I, h.ofE.mono (fun k ρ1 q H1 I1 => ?_) fun _ _ k => k⟩
      cases k with
      | false =>
        rw [if_neg Bool.false_ne_true] at q
        exact q ad σ H1 I1
      | true =>
        rw [if_pos rfl] at q
        refine ⟨fun σ' H' => ∃ ad ρ, EnvOk X.K c ad σ' H' ρ ∧ WantS X.K c W D (whL m mt mb ρ), fun σ' H' w => ⟨m, Nat.lt_succ_self m, w⟩, c, ad, ρ1, I1, ?_⟩
        cases e : mb ρ1 with
        | stuck => rw [e] at q; exact q
        | nx ρ2 => rw [e] at q; exact fun ad' σ' H' I' => ⟨ad', ρ2, I', q⟩
        | ct ρ2 => rw [e] at q; exact fun ad' σ' H' I' => ⟨ad', ρ2, I', q⟩
        | bk ρ2 => rw [e] at q; exact q
        | rt r ρ2 => rw [e] at q; exact q
        | exc x ρ2 => rw [e] at q; exact q
end

/-! ### what is walked -/
abbrev IM := List Sl → Rg (List D)
/-- J yields these data, as long as what c holds is held -/
def ItOk (K : PySem.W.Frag) (g : List (D × V)) (J : It) (items : List D) : Prop :=
  ∀ (c : Fx) (i : Nat) (ad : Nat → Addr) (σ : Sg) (H : Hp) (ρ : List Sl), (∀ p ∈ g, p ∈ c.gh) → EnvOk K c ad σ H ρ → (i = items.length → J.stop i H) ∧
    ∀ d, items[i]? = some d → J.go i H ∧ ∀ x H', J.yld i H x H' → Ext H H' ∧ Dv K (hid (Wr c ad ρ) H') d x
def tIm (K : PySem.W.Frag) (W : WX) (m : IM) : TI := fun σ H R => ∃ c ad ρ, EnvOk K c ad σ H ρ ∧
  Wants (m ρ) (fun items ρ' => ∀ J H' g, EnvOk K (c.hold g) ad σ H' ρ' → ItOk K g J items → R J H') (ExQ K c ad σ W)
abbrev VI (X : Cx) (W : WX) (tg it : Expr) (m : IM) : Prop := PI X tg it (tIm X.K W m)
theorem pi_imp {X : Cx} {tg e : Expr} {t t' : TI} (h : PI X tg e t) (g : ∀ σ H R, t' σ H R → t σ H R) : PI X tg e t' := ⟨fun pins s σ H R I q => h.run pins s σ H R I (g σ H R q)⟩
theorem pi_or {X : Cx} {tg e : Expr} {t t' : TI} (h : PI X tg e t) (h' : PI X tg e t') : PI X tg e fun σ H R => t σ H R ∨ t' σ H R := ⟨fun pins s σ H R I q => q.elim (h.run pins s σ H R I) (h'.run pins s σ H R I)⟩
def chars (x : Str) : List D := x.cps.toList.map fun c => .str ⟨#[c]⟩
def itemsOf : D → Option (List D)
  | .list ds => some ds
  | .tuple ds => some ds
  | .str x => some (chars x)
  | _ => none
def mSeq (m : EM) : IM := fun ρ => (m ρ).bind fun r ρ' => ofO (fz r) fun r => match r with
  | .dat d => ofO (itemsOf d) fun ds => .ok ds ρ'
  | _ => .stuck

theorem chars_get {x : Str} {i : Nat} {d : D} (h : (chars x)[i]? = some d) : ∃ c, x.cps[i]? = some c ∧ d = .str ⟨#[c]⟩ := by
  unfold chars at h
  rw [List.getElem?_map, Option.map_eq_some_iff] at h
  obtain ⟨c, h1, h2⟩ := h
  exact ⟨c, by rw [← Array.getElem?_toList]; exact h1, h2.symm⟩
theorem it_list {K : PySem.W.Frag} {ds : List D} {v : V} {a : Addr} (hv : v = .ref a) : ItOk K [(PyData.list ds, v)] (Itl K a) ds := by
  subst hv
  intro c i ad σ H ρ hg I
  have k := I.gh _ (hg _ (List.mem_singleton.mpr rfl))
  simp only [Dv] at k
  obtain ⟨a', xs, e, h1, h2⟩ := k
  cases e
  have hs : SqL K H a xs := SqL.of (hid_some h1).2
  refine ⟨fun hi => ⟨xs, hs, by rw [← h2.length, hi]; exact Nat.le_refl _⟩, fun d hd => ?_⟩
  obtain ⟨x, k1, k2⟩ := h2.get hd
  refine ⟨⟨xs, x, hs, k1⟩, fun y H' ⟨e, q⟩ => ?_⟩
  subst e
  rw [q xs hs] at k1; cases k1
  exact ⟨Ext.refl _, k2⟩

theorem it_tup {K : PySem.W.Frag} {ds : List D} {v : V} {a : Addr} (hv : v = .ref a) : ItOk K [(PyData.tuple ds, v)] (Itt K a) ds := by
  subst hv
  intro c i ad σ H ρ hg I
  have k := I.gh _ (hg _ (List.mem_singleton.mpr rfl))
  simp only [Dv] at k
  obtain ⟨a', xs, e, h1, h2⟩ := k
  cases e
  have hs : SqT K H a xs := hid_ext.sqT h1
  refine ⟨fun hi => ⟨xs, hs, by rw [← h2.length, hi]; exact Nat.le_refl _⟩, fun d hd => ?_⟩
  obtain ⟨x, k1, k2⟩ := h2.get hd
  refine ⟨⟨xs, x, hs, k1⟩, fun y H' ⟨e, q⟩ => ?_⟩
  subst e
  rw [q xs hs] at k1; cases k1
  exact ⟨Ext.refl _, k2⟩
theorem it_str {K : PySem.W.Frag} {g : List (D × V)} {x : Str} : ItOk K g (Its x) (chars x) := by
  intro c i ad σ H ρ hg I
  have hl : (chars x).length = x.cps.size := by unfold chars; rw [List.length_map, Array.length_toList]
  refine ⟨fun hi => by rw [hl] at hi; exact Nat.le_of_eq hi.symm, fun d hd => ⟨?_, fun y H' ⟨e, cc, h1, h2⟩ => ?_⟩⟩
  · have := (List.getElem?_eq_some_iff.mp hd).1
    rwa [hl] at this
  · subst e
    obtain ⟨c', h3, rfl⟩ := chars_get hd
    rw [h3] at h1; cases h1
    subst h2
    exact ⟨Ext.refl _, dv_str⟩
/-- lo, lo + 1, .. -/
def intsD (lo : Int) (n : Nat) : List D := (List.range n).map fun (i : Nat) => .int (lo + i)
theorem it_range {K : PySem.W.Frag} {g : List (D × V)} {lo : Int} {n : Nat} : ItOk K g (Itr lo n) (intsD lo n) := by
  intro c i ad σ H ρ hg I
  have hl : (intsD lo n).length = n := by unfold intsD; rw [List.length_map, List.length_range]
  refine ⟨fun hi => by rw [hl] at hi; exact Nat.le_of_eq hi.symm, fun d hd => ⟨?_, fun y H' ⟨e, h1⟩ => ?_⟩⟩
  · have := (List.getElem?_eq_some_iff.mp hd).1
    rwa [hl] at this
  · subst e
    have hi : i < n := by
      have := (List.getElem?_eq_some_iff.mp hd).1
      rwa [hl] at this
    unfold intsD at hd
    rw [List.getElem?_map, List.getElem?_range hi] at hd
    cases hd
    subst h1
    exact ⟨Ext.refl _, dv_int⟩
section
variable {X : Cx} {W : WX} {tg e a b : Expr} {me ma mb : EM} {pos p : Pos}
theorem vi_seq (he : VE X W e me) : VI X W tg e (mSeq me) :=
  pi_imp (pi_or (pi_list he) (pi_or (pi_tup he) (pi_str he))) fun σ H R ⟨c, ad, ρ, I, h⟩ => by
    have h' := h.of_bind
    cases hm : me ρ with
    | stuck => rw [hm] at h'; exact h'.elim
    | exc x ρ' => rw [hm] at h'; exact .inl ⟨c, ad, ρ, I, by rw [hm]; exact h'⟩
    | ok r ρ' =>
      rw [hm] at h'
      obtain ⟨r', ef, h'⟩ := Wants.of_ofO h'
      cases r' with
      | frs o => exact h'.elim
      | slt i => exact h'.elim
      | dat d =>
        obtain ⟨ds, ei, h'⟩ := Wants.of_ofO h'
        have go : ∀ v H', Post X.K c ad σ r ρ' v H' → EnvOk X.K (c.hold [(d, v)]) ad σ H' ρ' ∧ Dv X.K H' d v := fun v H' q => by
          have q' := fz_ok ef q
          exact ⟨q'.1.hold (fun p hp => by rw [List.mem_singleton.mp hp]; exact q'.2), q'.2.ext hid_ext⟩
        cases d with
        | none => simp [itemsOf] at ei
        | bool _ => simp [itemsOf] at ei
        | int _ => simp [itemsOf] at ei
        | dict _ => simp [itemsOf] at ei
        | list es =>
          simp only [itemsOf] at ei; cases ei
          refine .inl ⟨c, ad, ρ, I, ?_⟩
          rw [hm]
          intro v H' q
          obtain ⟨I', dv⟩ := go v H' q
          simp only [Dv] at dv
          obtain ⟨a, xs, rfl, h1, _⟩ := dv
          exact ⟨a, rfl, ⟨xs, SqL.of h1⟩, h' _ _ [_] I' (it_list rfl)⟩
        | tuple es =>
          simp only [itemsOf] at ei; cases ei
          refine .inr (.inl ⟨c, ad, ρ, I, ?_⟩)
          rw [hm]
          intro v H' q
          obtain ⟨I', dv⟩ := go v H' q
          simp only [Dv] at dv
          obtain ⟨a, xs, rfl, h1, _⟩ := dv
          exact ⟨a, rfl, ⟨xs, h1⟩, h' _ _ [_] I' (it_tup rfl)⟩
        | str x =>
          simp only [itemsOf] at ei; cases ei
          refine .inr (.inr ⟨c, ad, ρ, I, ?_⟩)
          rw [hm]
          intro v H' q
          obtain ⟨I', dv⟩ := go v H' q
          simp only [Dv] at dv
          exact ⟨x, dv, h' _ _ [_] I' it_str⟩
/-- range(a), range(a, b) -/
def mRng1 (m : AM) : IM := fun ρ => (m ρ).bind fun rs ρ' => match rs with
  | [.dat (.int j)] => if -(2 ^ 62) ≤ j ∧ j < 2 ^ 62 then .ok (intsD 0 j.toNat) ρ' else .stuck
  | _ => .stuck
def mRng2 (m : AM) : IM := fun ρ => (m ρ).bind fun rs ρ' => match rs with
  | [.dat (.int i), .dat (.int j)] => if -(2 ^ 62) ≤ i ∧ i < 2 ^ 62 ∧ -(2 ^ 62) ≤ j ∧ j < 2 ^ 62 then .ok (intsD i (j - i).toNat) ρ' else .stuck
  | _ => .stuck
theorem hold_nil {K : PySem.W.Frag} {c : Fx} {ad : Nat → Addr} {σ : Sg} {H : Hp} {ρ : List Sl} (I : EnvOk K c ad σ H ρ) : EnvOk K (c.hold []) ad σ H ρ := I
theorem vi_range1 {am : AM} (hg : Gl X "range") (hm : X.mg "range" = none) (ha : VA X W [a] am) (hs : starEach [a] X.env = [(false, eval a X.env)] := by rfl) : VI X W tg (.Call (.Name "range" p) [a] [] pos) (mRng1 am) :=
  pi_imp (pi_range1 hg hm ha hs) fun σ H R ⟨c, ad, ρ, I, h⟩ => ⟨c, ad, ρ, I, h.of_bind.mono (fun rs ρ' q vs H' I' hv => by
    split at q
    · rename_i j
      split at q
      · rename_i hj
        obtain ⟨v, us, rfl, h1, h2⟩ := hv
        cases h2
        refine ⟨j, by rw [show v = V.int j from by have h1 : Dv _ _ _ _ := h1; simpa only [Dv] using h1], hj.1, hj.2, q _ _ [] I' it_range⟩
      · exact q.elim
    · exact q.elim) fun _ _ k => k⟩
theorem vi_range2 {am : AM} (hg : Gl X "range") (hm : X.mg "range" = none) (ha : VA X W [a, b] am) (hs : starEach [a, b] X.env = [(false, eval a X.env), (false, eval b X.env)] := by rfl) (hs2 : starEach [b] X.env = [(false, eval b X.env)] := by rfl) : VI X W tg (.Call (.Name "range" p) [a, b] [] pos) (mRng2 am) :=
  pi_imp (pi_range2 hg hm ha hs hs2) fun σ H R ⟨c, ad, ρ, I, h⟩ => ⟨c, ad, ρ, I, h.of_bind.mono (fun rs ρ' q vs H' I' hv => by
    split at q
    · rename_i i j
      split at q
      · rename_i hj
        obtain ⟨v, us, rfl, h1, u, us', rfl, h2, h3⟩ := hv
        cases h3
        refine ⟨i, j, by rw [show v = V.int i from by have h1 : Dv _ _ _ _ := h1; simpa only [Dv] using h1, show u = V.int j from by have h2 : Dv _ _ _ _ := h2; simpa only [Dv] using h2], hj, q _ _ [] I' it_range⟩
      · exact q.elim
    · exact q.elim) fun _ _ k => k⟩
end

/-! ### for -/
def forL (gm : GM) (b : SM) : List D → List Sl → So
  | [], ρ => .nx ρ
  | d :: ds, ρ => oS (gm d ρ) fun ρ1 => match b ρ1 with
    | .nx ρ2 => forL gm b ds ρ2
    | .ct ρ2 => forL gm b ds ρ2
    | .bk ρ2 => .nx ρ2
    | o => o
def sFor (im : IM) (gm : GM) (b : SM) : SM := fun ρ => ofE (im ρ) (forL gm b)
section
variable {X : Cx} {W : WX} {tg it : Expr} {body : List Stmt} {mi : IM} {mb : SM} {pos : Pos} {vs : List Nat} {g : TG} {gm : GM}
theorem vs_for (hp : PassesOwn (model X.prog X.w) X.A X.env X.xe) (hc : X.calm = true) (hi : VI X W tg it mi) (hg : PG X tg g) (hm : TgOk X.K vs g gm) (hb : VB X W body mb) (hs : ∀ x, foldedSetIterable it X.env x = pure x := by intro _; rfl) :
    VS X W (.For tg it body [] pos) (sFor mi gm mb) :=
  ps_imp (ps_for hp hc hi hg hb hs) fun D σ H ⟨c, ad, ρ, I, h⟩ => ⟨c, ad, ρ, I, h.ofE.mono (fun items ρ' q J H' gh I' hJ => by
    refine ⟨fun i m σ H => m = items.length - i ∧ i ≤ items.length ∧ ∃ ad ρ, EnvOk X.K (c.hold gh) ad σ H ρ ∧ WantS X.K c W D (forL gm mb (items.drop i) ρ), ⟨items.length, rfl, Nat.zero_le _, ad, ρ', I', q⟩, ?_⟩
    rintro i m σ H ⟨rfl, hi, ad, ρ, I, h⟩
    by_cases hlt : i < items.length
    · have hd : items[i]? = some items[i] := List.getElem?_eq_getElem hlt
      obtain ⟨go, yl⟩ := (hJ (c.hold gh) i ad σ H ρ (fun p hp => List.mem_append_left _ hp) I).2 _ hd
      rw [List.drop_eq_getElem_cons hlt] at h
      obtain ⟨ρ1, e1, h⟩ := WantS.oS h
      refine .inr ⟨go, fun σ' H' => ∃ ad ρ, EnvOk X.K (c.hold gh) ad σ' H' ρ ∧ WantS X.K c W D (forL gm mb (items.drop (i + 1)) ρ), fun σ' H' w => ⟨items.length - (i + 1), by omega, rfl, hlt, w⟩, fun x H1 y => ?_⟩
      obtain ⟨ex, dv⟩ := yl x H1 y
      refine hm (c.hold gh) ad σ H1 ρ x _ ρ1 _ (I.grow ex) dv e1 fun σ2 _ I2 => ⟨c.hold gh, ad, ρ1, I2, ?_⟩
      cases e : mb ρ1 with
      | stuck => rw [e] at h; exact h
      | nx ρ2 => rw [e] at h; exact fun ad' σ' H' I' => ⟨ad', ρ2, I', h⟩
      | ct ρ2 => rw [e] at h; exact fun ad' σ' H' I' => ⟨ad', ρ2, I', h⟩
      | bk ρ2 => rw [e] at h; exact fun ad' σ' H' I' => h ad' σ' H' I'.unhold
      | rt r ρ2 => rw [e] at h; exact fun ad' σ' v H' p => h ad' σ' v H' p.unhold
      | exc x ρ2 => rw [e] at h; exact fun ad' σ' cls d H' ⟨I, p⟩ => h ad' σ' cls d H' ⟨I.unhold, p⟩
    · have e : i = items.length := by omega
      subst e
      rw [List.drop_length] at h
      exact .inl ⟨(hJ (c.hold gh) _ ad σ H ρ (fun p hp => List.mem_append_left _ hp) I).1 rfl, h ad σ H I.unhold⟩) fun _ _ k => k⟩
end
end Vl

set_option Elab.async false
set_option linter.all false
set_option maxRecDepth 100000
namespace Vl
open PySem PySem.Spec PyProof.Rows L2

/-! ### comprehensions -/
def wipeS (ρ : List Sl) : List Nat → List Sl
  | [] => ρ
  | v :: vs => (wipeS ρ vs).set v .non
theorem EnvOk.wipe {K : PySem.W.Frag} {c : Fx} {ad : Nat → Addr} {σ : Sg} {H : Hp} {ρ : List Sl} (I : EnvOk K c ad σ H ρ) : ∀ vs : List Nat, EnvOk K c ad (L2.wipe σ vs) H (wipeS ρ vs)
  | [] => I
  | v :: vs => (I.wipe vs).setNon
theorem EnvOk.weak {K : PySem.W.Frag} {c : Fx} {ad : Nat → Addr} {σ σ' : Sg} {H : Hp} {ρ : List Sl} (I : EnvOk K c ad σ' H ρ) (hl : σ.length = σ'.length) (h : ∀ (i : Nat) v, σ'[i]? = some (some v) → σ[i]? = some (some v)) : EnvOk K c ad σ H ρ :=
  ⟨I.len.trans hl.symm, fun i d g => let ⟨v, h1, h2⟩ := I.dat i d g; ⟨v, h i v h1, h2⟩, I.own, I.par, fun i o g => let ⟨h1, h2, h3⟩ := I.at_ i o g; ⟨h i _ h1, h2, h3⟩, I.inj, I.ext, I.fr, I.gh, I.pex, I.kpe⟩
def Fx.keep (c : Fx) (p : Addr) (o : HO) : Fx := { c with ex := fun a => c.ex a ∨ a = p, kp := (p, o) :: c.kp, kpx := fun q h => (List.mem_cons.mp h).elim (fun e => .inr (by rw [e])) fun h => .inl (c.kpx q h) }
def lcL (gm : GM) (tm : TM) (em : EM) (vs : List Nat) : List D → List Sl → List D → Rg Res
  | [], ρ, acc => .ok (.frs (.lst acc)) ρ
  | d :: ds, ρ, acc => ofO (gm d ρ) fun ρ1 => (tm ρ1).bind fun k ρ2 => if k = true then
      (em ρ2).bind fun r ρ3 => ofO (fz r) fun r => match r with
        | .dat y => if acc.length < sizeLine then lcL gm tm em vs ds (wipeS ρ3 vs) (acc ++ [y]) else .stuck
        | _ => .stuck
    else lcL gm tm em vs ds (wipeS ρ2 vs) acc
def mLc (im : IM) (gm : GM) (tm : TM) (em : EM) (vs : List Nat) : EM := fun ρ => (im ρ).bind fun items ρ1 => lcL gm tm em vs items (wipeS ρ1 vs) []
def WF : WX := fun _ _ _ _ => False
/-- of a comprehension's parts nothing is let out: ways out are stuck -/
theorem noex {K : PySem.W.Frag} {c : Fx} {ad : Nat → Addr} {σ : Sg} {α : Type} {r : Rg α} {P : α → List Sl → Prop} {E : Exn → List Sl → Prop} (h : Wants r P E) (n : ∀ x ρ, r ≠ .exc x ρ) : Wants r P (ExQ K c ad σ WF) := by
  cases r with
  | stuck => exact h
  | ok a ρ => exact h
  | exc x ρ => exact absurd rfl (n x ρ)
/-- an exception is stuck -/
def noX {α : Type} (r : Rg α) : Rg α := match r with
  | .exc _ _ => .stuck
  | r => r
theorem noX_wants {K : PySem.W.Frag} {c : Fx} {ad : Nat → Addr} {σ : Sg} {α : Type} {r : Rg α} {P : α → List Sl → Prop} {E : Exn → List Sl → Prop} (h : Wants (noX r) P E) : Wants r P (ExQ K c ad σ WF) := by
  cases r with
  | stuck => exact h
  | ok a ρ => exact h
  | exc x ρ => exact h.elim
def lcN (gm : GM) (tm : TM) (em : EM) (vs : List Nat) : List D → List Sl → List D → Rg Res := lcL gm (fun ρ => noX (tm ρ)) (fun ρ => noX (em ρ)) vs
theorem EnvOk.rekeep {K : PySem.W.Frag} {c : Fx} {p : Addr} {o o' : HO} {g g' : List (D × V)} {ad : Nat → Addr} {σ : Sg} {H : Hp} {ρ : List Sl} (I : EnvOk K ((c.keep p o).hold g) ad σ H ρ) (hx : ¬ c.ex p) (h0 : c.H0 p = none) (hg : ∀ q ∈ g', Dv K (hid (Wr (c.keep p o) ad ρ) H) q.1 q.2) :
    EnvOk K ((c.keep p o').hold g') ad σ (upd H p o') ρ := by
  have wp : Wr (c.keep p o) ad ρ p := .inl (.inr rfl)
  have em : Ext (hid (Wr (c.keep p o) ad ρ) H) (hid (Wr (c.keep p o') ad ρ) (upd H p o')) := hid_mono fun a u n q => ⟨n, by rw [upd_ne (fun e => n (by rw [e]; exact wp))]; exact q⟩
  have one : ∀ {a : Addr}, (∃ u, H a = some u) → ∃ u, upd H p o' a = some u := fun {a} ⟨u, h⟩ => by
    by_cases e : a = p
    · subst e; exact ⟨_, upd_same⟩
    · exact ⟨u, by rw [upd_ne e]; exact h⟩
  refine ⟨I.len, fun i d h => ?_, I.own, I.par, fun i u h => ?_, I.inj, fun a w => one (I.ext a w), fun a u h n => ?_, fun q hq => ?_, fun a w => one (I.pex a w), fun q hq => ?_⟩
  · obtain ⟨v, h1, h2⟩ := I.dat i d h
    exact ⟨v, h1, h2.ext em⟩
  · obtain ⟨h1, h2, h3⟩ := I.at_ i u h
    exact ⟨h1, h2.ext em (upd_ne fun e => h3 (.inr e)), h3⟩
  · have ne : a ≠ p := fun e => by
      rw [e] at h
      rw [show c.H0 p = some u from h] at h0; cases h0
    rw [upd_ne ne]
    exact I.fr a u h n
  · rcases List.mem_append.mp hq with hq | hq
    · exact Dv.ext em _ _ (hg q hq)
    · exact Dv.ext em _ _ (I.gh q (List.mem_append_right _ hq))
  · rcases List.mem_cons.mp hq with rfl | hq
    · exact upd_same
    · rw [upd_ne (fun e => hx (by rw [← e]; exact c.kpx q hq))]
      exact I.kpe q (List.mem_cons_of_mem _ hq)
theorem EnvOk.unkeep {K : PySem.W.Frag} {c : Fx} {p : Addr} {o : HO} {g : List (D × V)} {ad : Nat → Addr} {σ : Sg} {H : Hp} {ρ : List Sl} (I : EnvOk K ((c.keep p o).hold g) ad σ H ρ) : EnvOk K (c.plus p) ad σ H ρ :=
  I.less rfl rfl rfl (fun _ w => w) (fun q hq => List.mem_append_right _ hq) fun q hq => List.mem_cons_of_mem _ hq
theorem wipe_len (σ : Sg) (vs : List Nat) : (L2.wipe σ vs).length = σ.length := L2.wipe_length σ vs
theorem wipe_wipe {σ σ' : Sg} {vs : List Nat} (h : L2.wipe σ' vs = L2.wipe (L2.wipe σ vs) vs) : L2.wipe σ' vs = L2.wipe σ vs := by
  rw [h]
  have : ∀ (vs ws : List Nat), (∀ v ∈ vs, v ∈ ws) → L2.wipe (L2.wipe σ ws) vs = L2.wipe σ ws := by
    intro vs
    induction vs with
    | nil => intro ws _; rfl
    | cons v vs ih =>
      intro ws hs
      show (L2.wipe (L2.wipe σ ws) vs).set v none = _
      rw [ih ws fun u hu => hs u (List.mem_cons_of_mem _ hu)]
      have hv : v ∈ ws := hs v List.mem_cons_self
      apply List.ext_getElem?
      intro k
      by_cases e : v = k
      · subst e
        by_cases hl : v < (L2.wipe σ ws).length
        · rw [List.getElem?_set_self hl]
          have q : (L2.wipe σ ws)[v]? = some (L2.wipe σ ws)[v] := List.getElem?_eq_getElem hl
          rw [q]
          cases z : (L2.wipe σ ws)[v] with
          | none => rfl
          | some x =>
            rw [z] at q
            exact absurd hv (L2.wipe_some q).2
        · rw [List.getElem?_eq_none (by rw [List.length_set]; omega), List.getElem?_eq_none (by omega)]
      · rw [List.getElem?_set_ne e]
  exact this vs vs fun _ h => h
section
variable {K : PySem.W.Frag} {W : WX} {gm : GM} {tm : TM} {em : EM} {vs : List Nat} {g : TG}
theorem lc_red {mi : IM} (hm : TgOk K vs g gm) {σ : Sg} {H : Hp} {Q : VK} (h : tV K W (mLc mi gm (fun ρ => noX (tm ρ)) (fun ρ => noX (em ρ)) vs) σ H Q) : tLc (tIm K W mi) g (tTm K WF tm) (tV K WF em) vs σ H Q := by
  obtain ⟨c, ad, ρ, I, h⟩ := h
  refine ⟨c, ad, ρ, I, h.of_bind.mono (fun items ρ1 q J H1 gh I1 hJ Da hD => ?_) fun _ _ k => k⟩
  have hx : ¬ (c.hold gh).ex Da := fun w => by obtain ⟨o, e⟩ := I1.ext Da w; rw [hD] at e; cases e
  have h0 : (c.hold gh).H0 Da = none := by
    cases q : c.H0 Da with
    | none => exact q
    | some o =>
      by_cases hP : c.P Da
      · obtain ⟨u, e'⟩ := I1.pex Da hP
        rw [hD] at e'; cases e'
      · have := I1.fr Da o q hP
        rw [hD] at this; cases this
  let St0 : Nat → List Sl → List D → List V → Hp → Prop := fun i ρ acc us H => EnvOk K (((c.hold gh).keep Da (.lst us)).hold (acc.zip us)) ad (L2.wipe σ vs) H ρ ∧ acc.length = us.length ∧
    Wants (lcL gm (fun ρ => noX (tm ρ)) (fun ρ => noX (em ρ)) vs (items.drop i) ρ acc) (OkQ K c ad σ Q) (ExQ K c ad σ W)
  have fin : ∀ (ρ : List Sl) (acc : List D) (us : List V) (H : Hp), EnvOk K (((c.hold gh).keep Da (.lst us)).hold (acc.zip us)) ad (L2.wipe σ vs) H ρ → acc.length = us.length → Post K c ad σ (.frs (.lst acc)) ρ (.ref Da) H := fun ρ acc us H I hl => by
    have I2 : EnvOk K (c.plus Da) ad σ H ρ := ((I.unkeep).less (c' := c.plus Da) rfl rfl rfl (fun _ w => w) fun q hq => List.mem_append_right _ hq).weak (wipe_len σ vs).symm fun i v e => (L2.wipe_some e).1
    refine ⟨Da, rfl, I2, h0, hx, us, I.kpe (Da, .lst us) List.mem_cons_self, held_zip hl fun p hp => I.gh p (List.mem_append_left _ hp)⟩
  refine ⟨fun i m H => m = items.length - i ∧ i ≤ items.length ∧ ∃ ρ acc us, St0 i ρ acc us H, ⟨items.length, rfl, Nat.zero_le _, wipeS ρ1 vs, [], [], ?_, rfl, q⟩, ?_⟩
  · have I0 : EnvOk K (c.hold gh) ad (L2.wipe σ vs) H1 (wipeS ρ1 vs) := I1.wipe vs
    have post : Post K (c.hold gh) ad (L2.wipe σ vs) (.frs (.lst [])) (wipeS ρ1 vs) (.ref Da) (upd H1 Da (.lst [])) := (NewP.lst (W := Wr (c.hold gh) ad (wipeS ρ1 vs)) (H := H1) hD .nil).post I0
    obtain ⟨p, e, Ip, _, _, _⟩ := post
    cases e
    refine ⟨Ip.len, Ip.dat, Ip.own, Ip.par, Ip.at_, Ip.inj, Ip.ext, Ip.fr, Ip.gh, Ip.pex, fun q hq => ?_⟩
    rcases List.mem_cons.mp hq with rfl | hq
    · exact upd_same
    · exact Ip.kpe q hq
  · rintro i m H ⟨rfl, hi, ρ, acc, us, I, hl, h⟩
    have sub : ∀ p ∈ gh, p ∈ (((c.hold gh).keep Da (.lst us)).hold (acc.zip us)).gh := fun p hp => List.mem_append_right _ (List.mem_append_left _ hp)
    by_cases hlt : i < items.length
    · have hd : items[i]? = some items[i] := List.getElem?_eq_getElem hlt
      obtain ⟨go, yl⟩ := (hJ _ i ad _ H ρ sub I).2 _ hd
      rw [List.drop_eq_getElem_cons hlt] at h
      obtain ⟨ρ1, e1, h⟩ := Wants.of_ofO h
      refine .inr ⟨go, fun H' => ∃ ρ acc us, St0 (i + 1) ρ acc us H', fun H' w => ⟨items.length - (i + 1), by omega, rfl, hlt, w⟩, fun x H1 y => ?_⟩
      obtain ⟨ex, dv⟩ := yl x H1 y
      refine hm _ ad _ H1 ρ x _ ρ1 _ (I.grow ex) dv e1 fun σ2 w2 I2 => ⟨wipe_wipe w2, _, ad, ρ1, I2, noX_wants (h.of_bind.mono (fun k ρ2 q H3 I3 => ?_) fun _ _ k => k)⟩
      have w2' := wipe_wipe w2
      cases k with
      | false =>
        rw [if_neg Bool.false_ne_true] at q
        dsimp only
        rw [if_neg Bool.false_ne_true]
        exact ⟨wipeS ρ2 vs, acc, us, w2' ▸ I3.wipe vs, hl, q⟩
      | true =>
        rw [if_pos rfl] at q
        dsimp only
        rw [if_pos rfl]
        refine ⟨_, ad, ρ2, I3, noX_wants (q.of_bind.mono (fun r ρ3 q y H4 p => ?_) fun _ _ k => k)⟩
        obtain ⟨r', ef, q⟩ := q.of_ofO
        have p' := fz_ok ef p
        cases r' with
        | frs o => exact q.elim
        | slt i => exact q.elim
        | dat dy =>
          dsimp only at q
          split at q
          · rename_i hlen
            obtain ⟨I4, d4⟩ := p'
            refine ⟨us, I4.kpe (Da, .lst us) List.mem_cons_self, by rw [← hl]; exact hlen, wipeS ρ3 vs, acc ++ [dy], us ++ [y], ?_, by rw [List.length_append, List.length_append, hl]; rfl, q⟩
            have I5 := ((I4.hold (g := [(dy, y)]) fun p hp => by rw [List.mem_singleton.mp hp]; exact d4).wipe vs)
            rw [w2'] at I5
            have I6 := I5.unhold
            refine I6.rekeep hx h0 fun q hq => ?_
            rw [List.zip_append hl] at hq
            rcases List.mem_append.mp hq with hq | hq
            · exact I6.gh q (List.mem_append_left _ hq)
            · have e : q = (dy, y) := by simpa using hq
              rw [e]
              exact I5.held (dy, y) (List.mem_singleton.mpr rfl)
          · exact q.elim
    · have e : i = items.length := by omega
      subst e
      rw [List.drop_length] at h
      exact .inl ⟨(hJ _ _ ad _ H ρ sub I).1 rfl, h _ H (fin ρ acc us H I hl)⟩
end
end Vl

set_option Elab.async false
set_option linter.all false
set_option maxRecDepth 100000
namespace Vl
open PySem PySem.Spec PyProof.Rows L2

/-! ### a comprehension, as a value; given to a name -/
def mYes : TM := fun ρ => .ok true ρ
section
variable {X : Cx} {W : WX}
theorem vts_nil : PTs X [] (tTm X.K WF mYes) := ⟨fun pins s σ H Q I ⟨c, ad, ρ, E, h⟩ => pts_nil.run pins s σ H Q I (h H E)⟩
theorem vts_one {c : Expr} {mt : TM} (h : VT X WF c mt) : PTs X [c] (tTm X.K WF mt) := pts_one h
def mLcV (im : IM) (gm : GM) (tm : TM) (em : EM) (vs : List Nat) : EM := mLc im gm (fun ρ => noX (tm ρ)) (fun ρ => noX (em ρ)) vs
variable {elt tg iter : Expr} {ifs : List Expr} {scope : Scope} {own : List (Str × Nat)} {pos : Pos} {mi : IM} {g : TG} {gm : GM} {tm : TM} {em : EM}
theorem ve_lc (hc : X.calm = true) (hN : X.N.Nodup) (hi : VI X W tg iter mi) (ok : BlkOk X.N X.env.scope scope own)
    (hg : ∀ (s : Shared) (H : Hp) (C : Addr) (cl : List (Str × Addr)) (fp : List Addr), PG (X.blk s H scope (compEnvC scope cl C X.env) fp) tg g) (hm : TgOk X.K (own.map (·.2)) g gm)
    (ht : ∀ (s : Shared) (H : Hp) (C : Addr) (cl : List (Str × Addr)) (fp : List Addr), PTs (X.blk s H scope (compEnvC scope cl C X.env) fp) ifs (tTm X.K WF tm))
    (he : ∀ (s : Shared) (H : Hp) (C : Addr) (cl : List (Str × Addr)) (fp : List Addr), PE (X.blk s H scope (compEnvC scope cl C X.env) fp) elt (tV X.K WF em)) (hs : ∀ x, foldedSetIterable iter X.env x = pure x := by intro _; rfl) :
    VE X W (.ListComp elt [⟨tg, iter, ifs, 0⟩] scope pos) (mLcV mi gm tm em (own.map (·.2))) :=
  pe_imp (pe_lc hc hN hi ok hg ht he hs) fun _ _ _ => lc_red hm
theorem vs_setLc {i : Nat} {y : Str} {py spos : Pos} (hc : X.calm = true) (hN : X.N.Nodup) (hy : X.N[i]? = some y) (hyl : X.env.scope.names.lookup y = some .local)
    (hsw : swapsWith (.ListComp elt [⟨tg, iter, ifs, 0⟩] scope pos) (some (.Name y py)) spos.line X.env = pure true) (hi : VI X W tg iter mi) (ok : BlkOk X.N X.env.scope scope own)
    (hg : ∀ (s : Shared) (H : Hp) (C : Addr) (cl : List (Str × Addr)) (fp : List Addr), PG (X.blk s H scope (compEnvC scope cl C X.env) fp) tg g) (hm : TgOk X.K (own.map (·.2)) g gm)
    (ht : ∀ (s : Shared) (H : Hp) (C : Addr) (cl : List (Str × Addr)) (fp : List Addr), PTs (X.blk s H scope (compEnvC scope cl C X.env) fp) ifs (tTm X.K WF tm))
    (he : ∀ (s : Shared) (H : Hp) (C : Addr) (cl : List (Str × Addr)) (fp : List Addr), PE (X.blk s H scope (compEnvC scope cl C X.env) fp) elt (tV X.K WF em)) (hs : ∀ x, foldedSetIterable iter X.env x = pure x := by intro _; rfl) :
    VS X W (.Assign [.Name y py] (.ListComp elt [⟨tg, iter, ifs, 0⟩] scope pos) spos) (sSet i (mLcV mi gm tm em (own.map (·.2)))) :=
  ps_imp (ps_setLc hc hN hy hyl hsw hi ok hg ht he hs) fun D σ H h => lc_red hm (σ := σ) (H := H) (by
    obtain ⟨c, ad, ρ, I, h⟩ := h
    refine ⟨c, ad, ρ, I, h.ofE.mono (fun r ρ' q v H' p => ?_) fun _ _ k => k⟩
    obtain ⟨ρ2, e, q⟩ := q.oS
    obtain ⟨ad', I'⟩ := setR_ok e p
    exact q ad' _ H' I')
end

/-! ### built-in functions -/
def CallB (K : PySem.W.Frag) (r : List V → Hp → VK → Prop) (f : List D → Option Res) : Prop :=
  ∀ (W : Addr → Prop) (H : Hp) (vs : List V) (ds : List D) (res : Res) (Q : VK), (∀ a, W a → ∃ o, H a = some o) → DtAll K W H ds vs → f ds = some res → (∀ v H', NewP K W H res v H' → Q v H') → r vs H Q
def mB (f : List D → Option Res) (am : AM) : EM := fun ρ => (am ρ).bind fun rs ρ' => ofO (drefs ρ' rs) fun ds => ofO (f ds) fun r => .ok r ρ'
theorem b_red {K : PySem.W.Frag} {W : WX} {r : List V → Hp → VK → Prop} {f : List D → Option Res} {am : AM} (hf : CallB K r f) {σ : Sg} {H : Hp} {Q : VK} (h : tV K W (mB f am) σ H Q) : tCB r (tAm K W am) σ H Q := by
  obtain ⟨c, ad, ρ, I, h⟩ := h
  refine ⟨c, ad, ρ, I, h.of_bind.mono (fun rs ρ' q vs H' I' hv => ?_) fun _ _ k => k⟩
  obtain ⟨ds, e1, q⟩ := q.of_ofO
  obtain ⟨res, e2, q⟩ := q.of_ofO
  exact hf _ _ _ _ _ _ (fun a w => I'.wr w) (hv.dt I' e1) e2 fun v H2 n => q v H2 (n.post I')
section
variable {X : Cx} {W : WX} {x : Str} {p pos : Pos} {e : Expr} {es : List Expr} {am : AM} {id T : String} {r : List V → Hp → VK → Prop} {f : List D → Option Res}
theorem ve_callB (hc : CallR X (.builtin id) r) (hf : CallB X.K r f) (hg : Gl X x) (hm : X.mg x = none) (hv : bootBuiltins x = some (.builtin id)) (ha : VA X W (e :: es) am) (hn : x ≠ "__name__" := by decide) (hd : (x == ("__debug__" : Str)) = false := by decide)
    (hs : starEach (e :: es) X.env = (false, eval e X.env) :: starEach es X.env := by rfl) (hpl : (backTo pos (starEach es X.env)).any (·.1) = false := by rfl) : VE X W (.Call (.Name x p) (e :: es) [] pos) (mB f am) :=
  pe_imp (pe_callB hc hg hm hv ha hn hd hs hpl) fun _ _ _ => b_red hf
theorem ve_callTy (hc : CallR X (.type T) r) (hf : CallB X.K r f) (hg : Gl X x) (hm : X.mg x = none) (hv : bootBuiltins x = some (.type T)) (ha : VA X W (e :: es) am) (hn : x ≠ "__name__" := by decide) (hd : (x == ("__debug__" : Str)) = false := by decide)
    (hs : starEach (e :: es) X.env = (false, eval e X.env) :: starEach es X.env := by rfl) (hpl : (backTo pos (starEach es X.env)).any (·.1) = false := by rfl) : VE X W (.Call (.Name x p) (e :: es) [] pos) (mB f am) :=
  pe_imp (pe_callTy hc hg hm hv ha hn hd hs hpl) fun _ _ _ => b_red hf
end

section
variable {K : PySem.W.Frag}
theorem DtAll.one {W : Addr → Prop} {H : Hp} {d : D} {vs : List V} (h : DtAll K W H [d] vs) : ∃ v, vs = [v] ∧ Dt K W H d v := by
  obtain ⟨v, us, rfl, h1, h2⟩ := h
  cases h2
  exact ⟨v, rfl, h1⟩
theorem DtAll.two {W : Addr → Prop} {H : Hp} {d e : D} {vs : List V} (h : DtAll K W H [d, e] vs) : ∃ v u, vs = [v, u] ∧ Dt K W H d v ∧ Dt K W H e u := by
  obtain ⟨v, us, rfl, h1, u, us', rfl, h2, h3⟩ := h
  cases h3
  exact ⟨v, u, rfl, h1, h2⟩
/-! len -/
def lenD : D → Option Nat
  | .list ds => some ds.length
  | .tuple ds => some ds.length
  | .str x => if x.length ≤ sizeLine then some x.length else none
  | .dict es => some es.length
  | _ => none
def fLen : List D → Option Res
  | [d] => (lenD d).map fun (n : Nat) => .dat (.int n)
  | _ => none
abbrev rLen (K : PySem.W.Frag) : List V → Hp → VK → Prop := fun xs H Q => ∃ x n, xs = [x] ∧ LenV K x H n ∧ Q (.int n) H
theorem callB_len : CallB K (rLen K) fLen := by
  intro W H vs ds res Q hW hv e q
  unfold fLen at e
  split at e
  · rename_i d
    obtain ⟨v, rfl, t⟩ := hv.one
    rw [Option.map_eq_some_iff] at e
    obtain ⟨n, e, rfl⟩ := e
    refine ⟨v, n, rfl, ?_, q _ _ .int⟩
    cases d with
    | list ds =>
      simp only [lenD] at e; cases e
      obtain ⟨a, xs, rfl, h1, h2⟩ := t.list
      exact .inl ⟨xs, SqL.of h1, h2.length⟩
    | tuple ds =>
      simp only [lenD] at e; cases e
      obtain ⟨a, xs, rfl, _, h1, h2⟩ := t.tuple
      exact .inr ⟨xs, h1, h2.length⟩
    | str x =>
      simp only [lenD] at e
      split at e
      · cases e
        rw [t.str]
        exact ⟨by assumption, rfl⟩
      · cases e
    | none => simp [lenD] at e
    | bool _ => simp [lenD] at e
    | int _ => simp [lenD] at e
    | dict es =>
      simp only [lenD] at e; cases e
      obtain ⟨a, ns, rfl, h1, rfl⟩ := t.script
      exact .inl ⟨_, h1, by unfold scr; rw [List.length_map, List.length_map]⟩
  · cases e
/-! abs, int, tuple, list -/
def fAbs : List D → Option Res
  | [.int i] => some (.dat (.int (if i < 0 then -i else i)))
  | _ => none
abbrev rAbs : List V → Hp → VK → Prop := fun xs H Q => ∃ i, xs = [.int i] ∧ Q (.int (if i < 0 then -i else i)) H
theorem callB_abs : CallB K rAbs fAbs := by
  intro W H vs ds res Q hW hv e q
  unfold fAbs at e
  split at e
  · cases e
    obtain ⟨v, rfl, t⟩ := hv.one
    exact ⟨_, by rw [t.int], q _ _ .int⟩
  · cases e
def fInt : List D → Option Res
  | [.int i] => some (.dat (.int i))
  | [.bool k] => some (.dat (.int (if k then 1 else 0)))
  | [.str a] => match PySem.intText? a with
    | some n => if a.length ≤ 640 then some (.dat (.int n)) else none
    | none => none
  | _ => none
abbrev rIntR : List V → Hp → VK → Prop := fun xs H Q => ((∃ i, xs = [.int i] ∧ Q (.int i) H) ∨ ∃ k, xs = [.bl k] ∧ Q (.int (if k then 1 else 0)) H) ∨ (∃ a n, xs = [.str a] ∧ PySem.intText? a = some n ∧ a.length ≤ 640 ∧ Q (.int n) H)
theorem call_intR {X : Cx} : CallR X (.type "int") rIntR := call_int1.or call_int_str
theorem callB_int : CallB K rIntR fInt := by
  intro W H vs ds res Q hW hv e q
  unfold fInt at e
  split at e
  · cases e
    obtain ⟨v, rfl, t⟩ := hv.one
    exact .inl (.inl ⟨_, by rw [t.int], q _ _ .int⟩)
  · cases e
    obtain ⟨v, rfl, t⟩ := hv.one
    exact .inl (.inr ⟨_, by rw [t.bl], q _ _ .int⟩)
  · split at e
    · split at e
      · cases e
        obtain ⟨v, rfl, t⟩ := hv.one
        exact .inr ⟨_, _, by rw [t.str], by assumption, by assumption, q _ _ .int⟩
      · cases e
    · cases e
  · cases e
def fTuple : List D → Option Res
  | [.list ds] => some (.dat (.tuple ds))
  | [.tuple ds] => some (.dat (.tuple ds))
  | _ => none
abbrev rTupleOf (K : PySem.W.Frag) : List V → Hp → VK → Prop := fun xs H Q => ∃ p ys, xs = [.ref p] ∧ ((SqL K H p ys ∧ ∀ l, H l = none → Q (.ref l) (upd H l (.tup ys))) ∨ (SqT K H p ys ∧ Q (.ref p) H))
theorem callB_tuple : CallB K (rTupleOf K) fTuple := by
  intro W H vs ds res Q hW hv e q
  unfold fTuple at e
  split at e
  · cases e
    obtain ⟨v, rfl, t⟩ := hv.one
    obtain ⟨a, xs, rfl, h1, h2⟩ := t.list
    exact ⟨a, xs, rfl, .inl ⟨SqL.of h1, fun p hp => q _ _ (.tup hW hp h2)⟩⟩
  · cases e
    obtain ⟨v, rfl, t⟩ := hv.one
    obtain ⟨a, xs, rfl, h0, h1, h2⟩ := t.tuple
    exact ⟨a, xs, rfl, .inr ⟨h1, q _ _ (.same (Dv.tupOf h0 h2))⟩⟩
  · cases e
def fList : List D → Option Res
  | [.list ds] => some (.frs (.lst ds))
  | [.tuple ds] => some (.frs (.lst ds))
  | _ => none
abbrev rListOf (K : PySem.W.Frag) : List V → Hp → VK → Prop := fun xs H Q => ∃ p ys, xs = [.ref p] ∧ (SqL K H p ys ∨ SqT K H p ys) ∧ ∀ l, H l = none → Q (.ref l) (upd H l (.lst ys))
theorem callB_list : CallB K (rListOf K) fList := by
  intro W H vs ds res Q hW hv e q
  unfold fList at e
  split at e
  · cases e
    obtain ⟨v, rfl, t⟩ := hv.one
    obtain ⟨a, xs, rfl, h1, h2⟩ := t.list
    exact ⟨a, xs, rfl, .inl (SqL.of h1), fun p hp => q _ _ (.lst hp h2)⟩
  · cases e
    obtain ⟨v, rfl, t⟩ := hv.one
    obtain ⟨a, xs, rfl, h0, h1, h2⟩ := t.tuple
    exact ⟨a, xs, rfl, .inr h1, fun p hp => q _ _ (.lst hp h2)⟩
  · cases e
/-! str(int), max, min of two -/
def fStr : List D → Option Res
  | [.int i] => if i.natAbs.log2 < 1920 then some (.dat (.str (toString i))) else none
  | _ => none
abbrev rStrI : List V → Hp → VK → Prop := fun xs H Q => ∃ i, xs = [.int i] ∧ i.natAbs.log2 < 1920 ∧ Q (.str (toString i)) H
theorem callB_str : CallB K rStrI fStr := by
  intro W H vs ds res Q hW hv e q
  unfold fStr at e
  split at e
  · split at e
    · cases e
      obtain ⟨v, rfl, t⟩ := hv.one
      exact ⟨_, by rw [t.int], by assumption, q _ _ .str⟩
    · cases e
  · cases e
/-! max, min of two ints; of a list of ints -/
def maxI : List Int → Int
  | [] => 0
  | [a] => a
  | a :: r => if maxI r > a then maxI r else a
def minI : List Int → Int
  | [] => 0
  | [a] => a
  | a :: r => if minI r < a then minI r else a
theorem maxI_ok : ∀ {ns : List Int}, 0 < ns.length → maxI ns ∈ ns ∧ ∀ y ∈ ns, y ≤ maxI ns
  | [], h => by simp at h
  | [a], _ => by simp [maxI]
  | a :: b :: r, _ => by
    obtain ⟨h1, h2⟩ := maxI_ok (ns := b :: r) (by simp)
    unfold maxI
    split
    · rename_i hc
      refine ⟨List.mem_cons_of_mem _ h1, fun y hy => ?_⟩
      rcases List.mem_cons.mp hy with rfl | hy
      · omega
      · exact h2 y hy
    · rename_i hc
      refine ⟨List.mem_cons_self, fun y hy => ?_⟩
      rcases List.mem_cons.mp hy with rfl | hy
      · exact Int.le_refl _
      · have := h2 y hy; omega
theorem minI_ok : ∀ {ns : List Int}, 0 < ns.length → minI ns ∈ ns ∧ ∀ y ∈ ns, minI ns ≤ y
  | [], h => by simp at h
  | [a], _ => by simp [minI]
  | a :: b :: r, _ => by
    obtain ⟨h1, h2⟩ := minI_ok (ns := b :: r) (by simp)
    unfold minI
    split
    · rename_i hc
      refine ⟨List.mem_cons_of_mem _ h1, fun y hy => ?_⟩
      rcases List.mem_cons.mp hy with rfl | hy
      · omega
      · exact h2 y hy
    · rename_i hc
      refine ⟨List.mem_cons_self, fun y hy => ?_⟩
      rcases List.mem_cons.mp hy with rfl | hy
      · exact Int.le_refl _
      · have := h2 y hy; omega
def fMax : List D → Option Res
  | [.int i, .int j] => some (.dat (.int (if j > i then j else i)))
  | [.list ds] => match intsOf ds with
    | some ns => if 0 < ns.length then some (.dat (.int (maxI ns))) else none
    | none => none
  | _ => none
def fMin : List D → Option Res
  | [.int i, .int j] => some (.dat (.int (if j < i then j else i)))
  | [.list ds] => match intsOf ds with
    | some ns => if 0 < ns.length then some (.dat (.int (minI ns))) else none
    | none => none
  | _ => none
abbrev rMaxR (K : PySem.W.Frag) : List V → Hp → VK → Prop := fun xs H Q => (∃ i j, xs = [.int i, .int j] ∧ Q (.int (if j > i then j else i)) H) ∨ rMax K xs H Q
abbrev rMinR (K : PySem.W.Frag) : List V → Hp → VK → Prop := fun xs H Q => (∃ i j, xs = [.int i, .int j] ∧ Q (.int (if j < i then j else i)) H) ∨ rMin K xs H Q
theorem call_maxR {X : Cx} (hc : X.calm = true) : CallR X (.builtin "max") (rMaxR X.K) := (call_max2 hc).or (cr_max hc)
theorem call_minR {X : Cx} (hc : X.calm = true) : CallR X (.builtin "min") (rMinR X.K) := (call_min2 hc).or (cr_min hc)
theorem callB_max : CallB K (rMaxR K) fMax := by
  intro W H vs ds res Q hW hv e q
  unfold fMax at e
  split at e
  · cases e
    obtain ⟨v, u, rfl, t, t'⟩ := hv.two
    exact .inl ⟨_, _, by rw [t.int, t'.int], q _ _ .int⟩
  · split at e
    · rename_i ns en
      split at e
      · rename_i hl
        cases e
        obtain ⟨v, rfl, t⟩ := hv.one
        obtain ⟨a, xs, rfl, h1, h2⟩ := t.list
        refine .inr ⟨a, ns, rfl, by rw [← intsOf_dv en h2]; exact SqL.of h1, hl, fun m hm hy => ?_⟩
        obtain ⟨k1, k2⟩ := maxI_ok hl
        have e : m = maxI ns := Int.le_antisymm (k2 m hm) (hy _ k1)
        subst e
        exact q _ _ .int
      · cases e
    · cases e
  · cases e
theorem callB_min : CallB K (rMinR K) fMin := by
  intro W H vs ds res Q hW hv e q
  unfold fMin at e
  split at e
  · cases e
    obtain ⟨v, u, rfl, t, t'⟩ := hv.two
    exact .inl ⟨_, _, by rw [t.int, t'.int], q _ _ .int⟩
  · split at e
    · rename_i ns en
      split at e
      · rename_i hl
        cases e
        obtain ⟨v, rfl, t⟩ := hv.one
        obtain ⟨a, xs, rfl, h1, h2⟩ := t.list
        refine .inr ⟨a, ns, rfl, by rw [← intsOf_dv en h2]; exact SqL.of h1, hl, fun m hm hy => ?_⟩
        obtain ⟨k1, k2⟩ := minI_ok hl
        have e : m = minI ns := Int.le_antisymm (hy _ k1) (k2 m hm)
        subst e
        exact q _ _ .int
      · cases e
    · cases e
  · cases e
/-! all, any of a list of bools; sum -/
def boolsOf : List D → Option (List Bool)
  | [] => some []
  | .bool b :: r => (boolsOf r).map (b :: ·)
  | _ => none
theorem boolsOf_dv {H : Hp} : ∀ {ds : List D} {bs : List Bool} {xs : List V}, boolsOf ds = some bs → DvAll K H ds xs → xs = bs.map V.bl
  | [], bs, xs, e, h => by simp [boolsOf] at e; subst e; simp only [DvAll] at h; subst h; rfl
  | d :: ds, bs, xs, e, h => by
    cases d with
    | bool i =>
      simp only [boolsOf, Option.map_eq_some_iff] at e
      obtain ⟨ms, e1, rfl⟩ := e
      simp only [DvAll, Dv] at h
      obtain ⟨x, r, rfl, rfl, h3⟩ := h
      rw [List.map_cons, boolsOf_dv e1 h3]
    | none => simp [boolsOf] at e
    | int _ => simp [boolsOf] at e
    | str _ => simp [boolsOf] at e
    | list _ => simp [boolsOf] at e
    | tuple _ => simp [boolsOf] at e
    | dict _ => simp [boolsOf] at e
def fAll : List D → Option Res
  | [.list ds] => (boolsOf ds).map fun bs => .dat (.bool (bs.all id))
  | _ => none
def fAny : List D → Option Res
  | [.list ds] => (boolsOf ds).map fun bs => .dat (.bool (bs.any id))
  | _ => none
theorem callB_all : CallB K (rAll K) fAll := by
  intro W H vs ds res Q hW hv e q
  unfold fAll at e
  split at e
  · rw [Option.map_eq_some_iff] at e
    obtain ⟨bs, e, rfl⟩ := e
    obtain ⟨v, rfl, t⟩ := hv.one
    obtain ⟨a, xs, rfl, h1, h2⟩ := t.list
    exact ⟨a, bs, rfl, by rw [← boolsOf_dv e h2]; exact SqL.of h1, q _ _ .bl⟩
  · cases e
theorem callB_any : CallB K (rAny K) fAny := by
  intro W H vs ds res Q hW hv e q
  unfold fAny at e
  split at e
  · rw [Option.map_eq_some_iff] at e
    obtain ⟨bs, e, rfl⟩ := e
    obtain ⟨v, rfl, t⟩ := hv.one
    obtain ⟨a, xs, rfl, h1, h2⟩ := t.list
    exact ⟨a, bs, rfl, by rw [← boolsOf_dv e h2]; exact SqL.of h1, q _ _ .bl⟩
  · cases e
def fSum : List D → Option Res
  | [.list ds] => (intsOf ds).map fun ns => .dat (.int ns.sum)
  | _ => none
theorem callB_sum : CallB K (rSum K) fSum := by
  intro W H vs ds res Q hW hv e q
  unfold fSum at e
  split at e
  · rw [Option.map_eq_some_iff] at e
    obtain ⟨bs, e, rfl⟩ := e
    obtain ⟨v, rfl, t⟩ := hv.one
    obtain ⟨a, xs, rfl, h1, h2⟩ := t.list
    exact ⟨a, bs, rfl, by rw [← intsOf_dv e h2]; exact SqL.of h1, q _ _ .int⟩
  · cases e
/-! repr -/
def fRepr : List D → Option Res
  | [d] => if PyData.showable d = true ∧ d.hasDict = false ∧ d.depth ≤ 100 ∧ d.shown.length ≤ sizeLine then some (.dat (.str d.shown)) else none
  | _ => none
def rRepr (K : PySem.W.Frag) : List V → Hp → VK → Prop := fun xs H Q => ∃ x d, xs = [x] ∧ Dp K H x d ∧ PyData.showable d = true ∧ d.hasDict = false ∧ d.depth ≤ 100 ∧ d.shown.length ≤ sizeLine ∧ Q (.str d.shown) H
theorem callB_repr : CallB K (rRepr K) fRepr := by
  intro W H vs ds res Q hW hv e q
  unfold fRepr at e
  split at e
  · split at e
    · rename_i d hc
      cases e
      obtain ⟨v, rfl, t⟩ := hv.one
      exact ⟨v, d, rfl, t.dv.todp hc.2.1, hc.1, hc.2.1, hc.2.2.1, hc.2.2.2, q _ _ .str⟩
    · cases e
  · cases e
end
theorem call_repr {X : Cx} (hG : X.A.guards = some []) (hu : X.A.units + 101 < cLine) : CallR X (.builtin "repr") (rRepr X.K) := by
  intro pins s σ H xs us Q I r h
  obtain ⟨x, d, rfl, hd, h1, h2, h3, h4, q⟩ := h
  obtain ⟨u, rfl, ru⟩ := Vals.one r
  obtain ⟨as, rd⟩ := Dp.reads I d x u hd ru
  cases hd with
  | non =>
    cases (show u = Value.none from ru)
    simp only [PyData.shown] at q
    exact P.repr_of_none ⟨V.str _, H, I.tok _, ⟨_, rfl⟩, q⟩
  | bl b =>
    cases (show u = Value.bool b from ru)
    simp only [PyData.shown] at q
    exact P.repr_of_bool ⟨V.str _, H, I.tok _, ⟨_, rfl⟩, q⟩
  | int i =>
    obtain ⟨t, rfl⟩ := ru
    simp only [PyData.shown] at q
    exact P.repr_of_int (by simpa only [PyData.showable, decide_eq_true_eq] using h1) ⟨V.str _, H, I.tok _, ⟨_, rfl⟩, q⟩
  | str x =>
    obtain ⟨t, rfl⟩ := ru
    simp only [PyData.shown] at q h4
    exact P.repr_of_str ⟨V.str _, H, I.tok _, ⟨_, rfl⟩, q⟩ h4
  | lst h g =>
    cases ru
    exact repr_of_reads' rd h1 (PyData.noDict_hsm h2) hG (by omega) (fun _ _ e => e) (fun h' u tk hk => ⟨V.str _, H, I.kept hk, ⟨_, rfl⟩, q⟩) h4
  | tup h g =>
    cases ru
    exact repr_of_reads' rd h1 (PyData.noDict_hsm h2) hG (by omega) (fun _ _ e => e) (fun h' u tk hk => ⟨V.str _, H, I.kept hk, ⟨_, rfl⟩, q⟩) h4
end Vl

set_option Elab.async false
set_option linter.all false
set_option maxRecDepth 100000
namespace Vl
open PySem PySem.Spec PyProof.Rows L2

/-! ### a[b] -/
def fIx : OpF
  | .list ds, .int i => (atI ds i).map .dat
  | .tuple ds, .int i => (atI ds i).map .dat
  | .str z, .int i => if z.length ≤ sizeLine then (atI z.cps.toList i).map fun c => .dat (.str ⟨#[c]⟩) else none
  | .dict es, .int i => (atI (scrOf es) i).map fun n => .dat (.int n)
  | _, _ => none
theorem DvAll.atI {K : PySem.W.Frag} {H : Hp} {ds : List D} {xs : List V} {i : Int} {d : D} (h : DvAll K H ds xs) (e : L2.atI ds i = some d) : ∃ x, L2.atI xs i = some x ∧ Dv K H d x := by
  unfold L2.atI at e ⊢
  rw [← h.length]
  cases q : ixN ds.length i with
  | none => rw [q] at e; cases e
  | some j =>
    rw [q] at e
    exact h.get e
theorem opB_ix {K : PySem.W.Frag} : OpB K (rIx K) fIx := by
  intro W H x y dx dy res Q hW hx hy e q
  unfold fIx at e
  split at e
  · rw [Option.map_eq_some_iff] at e
    obtain ⟨d, e, rfl⟩ := e
    rw [hy.int]
    obtain ⟨a, xs, rfl, h1, h2⟩ := hx.list
    obtain ⟨u, k1, k2⟩ := h2.atI e
    exact .inl ⟨a, xs, _, u, rfl, rfl, SqL.of h1, k1, q _ _ (.same k2)⟩
  · rw [Option.map_eq_some_iff] at e
    obtain ⟨d, e, rfl⟩ := e
    rw [hy.int]
    obtain ⟨a, xs, rfl, _, h1, h2⟩ := hx.tuple
    obtain ⟨u, k1, k2⟩ := h2.atI e
    exact .inr (.inl ⟨a, xs, _, u, rfl, rfl, h1, k1, q _ _ (.same k2)⟩)
  · split at e
    · rw [Option.map_eq_some_iff] at e
      obtain ⟨d, e, rfl⟩ := e
      rw [hy.int, hx.str]
      exact .inr (.inr ⟨_, _, d, rfl, rfl, by assumption, e, q _ _ .str⟩)
    · cases e
  · rw [Option.map_eq_some_iff] at e
    obtain ⟨n, e, rfl⟩ := e
    rw [hy.int]
    obtain ⟨a, ns, rfl, h1, rfl⟩ := hx.script
    rw [scrOf_scr] at e
    refine .inl ⟨a, _, _, .int n, rfl, rfl, h1, ?_, q _ _ .int⟩
    unfold L2.atI at e ⊢
    rw [List.length_map]
    cases w : ixN ns.length _ with
    | none => rw [w] at e; cases e
    | some k =>
      rw [w] at e
      show (ns.map V.int)[k]? = _
      rw [List.getElem?_map, show ns[k]? = some n from e]
      rfl
  · cases e
section
variable {X : Cx} {W : WX} {a b : Expr} {ma mb : EM} {pos : Pos}
theorem ve_ix (ha : VE X W a ma) (hb : VE X W b mb) (hs : PlainIx b := by exact fun _ _ => rfl) : VE X W (.Subscript a b pos) (mBin fIx ma mb) := pe_imp (pe_ix ix_seq ha hb hs) fun _ _ _ => bin_red opB_ix
end
/-! ### a[lo:hi] -/
def cutD {α : Type} (xs : List α) (lo hi : Option Int) : List α := (xs.drop (HT.sIx xs.length 0 lo)).take (HT.sIx xs.length xs.length hi - HT.sIx xs.length 0 lo)
def fSl (d : D) (lo hi : Option Int) : Option Res := match d with
  | .list ds => some (.frs (.lst (cutD ds lo hi)))
  | .tuple ds => some (.dat (.tuple (cutD ds lo hi)))
  | .str z => if z.length ≤ sizeLine then some (.dat (.str (cutS z lo hi))) else none
  | .dict es => some (.frs (.lst ((cutD (scrOf es) lo hi).map PyData.int)))
  | _ => none
theorem DvAll.cut {K : PySem.W.Frag} {H : Hp} {ds : List D} {xs : List V} (h : DvAll K H ds xs) (lo hi : Option Int) : DvAll K H (cutD ds lo hi) (cutV xs lo hi) := by
  unfold cutD cutV
  rw [h.length]
  exact (h.drop _).take _
theorem cut_whole {xs : List V} {lo hi : Option Int} (h : HT.sIx xs.length 0 lo = 0 ∧ HT.sIx xs.length xs.length hi = xs.length) : cutV xs lo hi = xs := by
  unfold cutV
  rw [h.1, h.2, List.drop_zero, Nat.sub_zero, List.take_length]
abbrev rSlR (K : PySem.W.Frag) : V → Option Int → Option Int → Hp → VK → Prop := fun x lo hi H Q => rSlL K x lo hi H Q ∨ (rSlA K x lo hi H Q ∨ rSlS x lo hi H Q)
theorem sl_R {X : Cx} : SlR X (rSlR X.K) := sl_list.or (sl_tupA.or sl_str)
theorem slB {K : PySem.W.Frag} {W : Addr → Prop} {H : Hp} {x : V} {d : D} {lo hi : Option Int} {res : Res} {Q : VK} (hW : ∀ a, W a → ∃ o, H a = some o) (hx : Dt K W H d x) (e : fSl d lo hi = some res) (q : ∀ v H', NewP K W H res v H' → Q v H') : rSlR K x lo hi H Q := by
  unfold fSl at e
  split at e
  · cases e
    obtain ⟨a, xs, rfl, h1, h2⟩ := hx.list
    exact .inl ⟨a, xs, rfl, SqL.of h1, fun p hp => q _ _ (.lst hp (h2.cut lo hi))⟩
  · cases e
    obtain ⟨a, xs, rfl, h0, h1, h2⟩ := hx.tuple
    refine .inr (.inl ⟨a, xs, rfl, h1, fun w => q _ _ (.same (Dv.tupOf h0 ?_)), fun _ p hp => q _ _ (.tup hW hp (h2.cut lo hi))⟩)
    have := h2.cut lo hi
    rwa [cut_whole w] at this
  · split at e
    · cases e
      rw [hx.str]
      exact .inr (.inr ⟨_, rfl, by assumption, q _ _ .str⟩)
    · cases e
  · cases e
    obtain ⟨a, ns, rfl, h1, rfl⟩ := hx.script
    refine .inl ⟨a, _, rfl, h1, fun p hp => q _ _ (.lst hp ?_)⟩
    rw [scrOf_scr]
    have hd : DvAll K (hid W H) (ns.map PyData.int) (ns.map V.int) := by
      have : ∀ ms : List Int, DvAll K (hid W H) (ms.map PyData.int) (ms.map V.int) := fun ms => by
        induction ms with
        | nil => exact .nil
        | cons m ms ih => exact .cons (by simp only [Dv]) ih
      exact this ns
    have hc := hd.cut lo hi
    have em : ∀ (α β : Type) (f : α → β) (l : List α), cutD (l.map f) lo hi = (cutD l lo hi).map f := fun α β f l => by
      unfold cutD
      rw [List.length_map, List.map_take, List.map_drop]
    rwa [em] at hc
  · cases e
/-- a slice's part -/
abbrev OM := List Sl → Rg (Option Int)
def oNo : OM := fun ρ => .ok none ρ
def oSome (m : EM) : OM := fun ρ => (m ρ).bind fun r ρ' => match r with
  | .dat (.int i) => .ok (some i) ρ'
  | _ => .stuck
def OkO (K : PySem.W.Frag) (c : Fx) (ad : Nat → Addr) (σ : Sg) (Q : Option Int → Hp → Prop) (b : Option Int) (ρ : List Sl) : Prop := ∀ H, EnvOk K c ad σ H ρ → Q b H
def tOm (K : PySem.W.Frag) (W : WX) (m : OM) : TO := fun σ H Q => ∃ c ad ρ, EnvOk K c ad σ H ρ ∧ Wants (m ρ) (OkO K c ad σ Q) (ExQ K c ad σ W)
abbrev VO (X : Cx) (W : WX) (e : Option Expr) (m : OM) : Prop := PO X e (tOm X.K W m)
theorem po_imp {X : Cx} {e : Option Expr} {t t' : TO} (h : PO X e t) (g : ∀ σ H Q, t' σ H Q → t σ H Q) : PO X e t' := ⟨fun pins s σ H Q I q => h.run pins s σ H Q I (g σ H Q q)⟩
def mSl (a : EM) (lo hi : OM) : EM := fun ρ => (a ρ).bind fun ra ρ1 => ofO (fz ra) fun ra => (lo ρ1).bind fun l ρ2 => (hi ρ2).bind fun h ρ3 => ofO (dref ρ3 ra) fun d => ofO (fSl d l h) fun r => .ok r ρ3
section
variable {X : Cx} {W : WX} {a e : Expr} {ma me : EM} {pos p2 : Pos} {lo hi : Option Expr} {ml mh : OM}
theorem vo_no : VO X W none oNo := po_imp po_none fun σ H Q ⟨c, ad, ρ, I, h⟩ => h H I
theorem vo_some (he : VE X W e me) : VO X W (some e) (oSome me) := po_imp (po_some he) fun σ H Q ⟨c, ad, ρ, I, h⟩ => ⟨c, ad, ρ, I, h.of_bind.mono (fun r ρ' q v H' p => by
  cases r with
  | dat d =>
    cases d with
    | int i =>
      obtain ⟨I', e⟩ := p
      simp only [Dv] at e
      exact ⟨i, e, q H' I'⟩
    | none => exact q.elim
    | bool _ => exact q.elim
    | str _ => exact q.elim
    | list _ => exact q.elim
    | tuple _ => exact q.elim
    | dict _ => exact q.elim
  | frs o => exact q.elim
  | slt i => exact q.elim) fun _ _ k => k⟩
theorem ve_sl (ha : VE X W a ma) (hl : VO X W lo ml) (hh : VO X W hi mh) : VE X W (.Subscript a (.Slice lo hi none p2) pos) (mSl ma ml mh) :=
  pe_imp (pe_slice sl_R ha hl hh) fun σ H Q ⟨c, ad, ρ, I, h⟩ => ⟨c, ad, ρ, I, h.of_bind.mono (fun ra ρ1 q x H1 hp => by
    obtain ⟨ra', ef, q⟩ := q.of_ofO
    have hx := hp.held ef
    have I1 := hp.env
    have go : ∀ (c' : Fx), EnvOk X.K c' ad σ H1 ρ1 → (∀ ρ3 H3, EnvOk X.K c' ad σ H3 ρ3 → EnvOk X.K c ad σ H3 ρ3 ∧ Held X.K c ad ρ3 H3 x ra') → (∀ y ρ3, ExQ X.K c ad σ W y ρ3 → ExQ X.K c' ad σ W y ρ3) →
        tOm X.K W ml σ H1 fun l H2 => tOm X.K W mh σ H2 fun u H3 => rSlR X.K x l u H3 Q := by
      intro c' I' hk hex
      refine ⟨c', ad, ρ1, I', q.of_bind.mono (fun l ρ2 q2 H2 I2 => ⟨c', ad, ρ2, I2, q2.of_bind.mono (fun u ρ3 q3 H3 I3 => ?_) fun y ρ3 k => hex y ρ3 k⟩) fun y ρ3 k => hex y ρ3 k⟩
      obtain ⟨d, e1, q3⟩ := q3.of_ofO
      obtain ⟨r, e2, q3⟩ := q3.of_ofO
      obtain ⟨I4, hx4⟩ := hk ρ3 H3 I3
      exact slB (fun a w => I4.wr w) (Held.dt I4 hx4 e1) e2 fun v H5 n => q3 v H5 (n.post I4)
    cases ra' with
    | frs o => exact hx.elim
    | slt i => exact go c I1 (fun ρ3 H3 I3 => ⟨I3, hx⟩) fun y ρ3 k => k
    | dat d => exact go (c.hold [(d, x)]) (I1.hold fun p hp => by rw [List.mem_singleton.mp hp]; exact hx) (fun ρ3 H3 I3 => ⟨I3.unhold, I3.held (d, x) (List.mem_singleton.mpr rfl)⟩) fun y ρ3 k => k.unhold) fun _ _ k => k⟩
end
/-! ### a method of a slot's list: append, extend, pop -/
/-- the slot's list -/
def lstAt (ρ : List Sl) (i : Nat) : Option (List D) := match ρ[i]? with
  | some (.own (.lst ds)) => some ds
  | some (.par (.lst ds)) => some ds
  | _ => none
def putLst (ρ : List Sl) (i : Nat) (ds : List D) : List Sl := match ρ[i]? with
  | some (.own _) => ρ.set i (.own (.lst ds))
  | some (.par _) => ρ.set i (.par (.lst ds))
  | _ => ρ
theorem lstAt_ok {ρ : List Sl} {i : Nat} {ds : List D} (h : lstAt ρ i = some ds) : ρ[i]? = some (.own (.lst ds)) ∨ ρ[i]? = some (.par (.lst ds)) := by
  unfold lstAt at h
  split at h
  · cases h; exact .inl (by assumption)
  · cases h; exact .inr (by assumption)
  · cases h
theorem EnvOk.putLst {K : PySem.W.Frag} {c : Fx} {ad : Nat → Addr} {σ : Sg} {H : Hp} {ρ : List Sl} {i : Nat} {ds es : List D} {ys : List V} (I : EnvOk K c ad σ H ρ) (h : lstAt ρ i = some ds) (hd : DvAll K (hid (Wr c ad ρ) H) es ys) : EnvOk K c ad σ (upd H (ad i) (.lst ys)) (Vl.putLst ρ i es) := by
  have two := lstAt_ok h
  unfold Vl.putLst
  rcases two with e | e
  · rw [e]
    exact I.write (.inl ⟨e, rfl⟩) ⟨ys, upd_same, hd⟩
  · rw [e]
    exact I.write (.inr ⟨e, rfl⟩) ⟨ys, upd_same, hd⟩
theorem EnvOk.lst {K : PySem.W.Frag} {c : Fx} {ad : Nat → Addr} {σ : Sg} {H : Hp} {ρ : List Sl} {i : Nat} {ds : List D} (I : EnvOk K c ad σ H ρ) (h : lstAt ρ i = some ds) : σ[i]? = some (some (.ref (ad i))) ∧ ∃ xs, H (ad i) = some (.lst xs) ∧ DvAll K (hid (Wr c ad ρ) H) ds xs := by
  obtain ⟨h1, h2, _⟩ := I.at_ i _ (lstAt_ok h)
  exact ⟨h1, h2⟩
def mApp (i : Nat) (m : EM) : EM := fun ρ => ofO (lstAt ρ i) fun _ => (m ρ).bind fun r ρ' => ofO (fz r) fun r => match r with
  | .dat d => ofO (lstAt ρ' i) fun ds => if ds.length < sizeLine then .ok (.dat .none) (putLst ρ' i (ds ++ [d])) else .stuck
  | _ => .stuck
def mExt (i : Nat) (m : EM) : EM := fun ρ => ofO (lstAt ρ i) fun _ => (m ρ).bind fun r ρ' => ofO (fz r) fun r => match r with
  | .dat (.list es) => ofO (lstAt ρ' i) fun ds => if ds.length + es.length ≤ sizeLine then .ok (.dat .none) (putLst ρ' i (ds ++ es)) else .stuck
  | _ => .stuck
def mPop (i : Nat) : EM := fun ρ => ofO (lstAt ρ i) fun ds => ofO (ds[ds.length - 1]?) fun d => .ok (.dat d) (putLst ρ i ds.dropLast)
section
variable {X : Cx} {W : WX} {e : Expr} {me : EM} {x : Str} {p apos pos : Pos} {i : Nat}
theorem tyL {K : PySem.W.Frag} {H : Hp} {a : Addr} {xs : List V} (h : H a = some (.lst xs)) : tyV K "list" (.ref a) H := .inl ⟨rfl, xs, SqL.of h⟩
theorem ve_app (hx : PE X (.Name x p) (tVar i)) (he : VE X W e me) (hbase : attributeBase (.Name x p) "append" X.env (eval (.Name x p) X.env) = eval (.Name x p) X.env := by rfl)
    (hfew : ((backTo pos (starEach [e] X.env)).all (fun x => !x.1) && (backToKw pos (keywordEach [] X.env)).all (fun x => x.1.isSome) && decide ([e].length + ([] : List Keyword).length + (if ([] : List Keyword).isEmpty then 0 else 1) < 30)) = true := by rfl)
    (hline : (apos.endLine == pos.line) = true := by rfl) (hs : starEach [e] X.env = (false, eval e X.env) :: starEach [] X.env := by rfl) (hpl : (backTo pos (starEach [] X.env)).any (·.1) = false := by rfl) :
    VE X W (.Call (.Attribute (.Name x p) "append" apos) [e] [] pos) (mApp i me) :=
  pe_imp (pe_bm PySem.F.plainAttrs_list PySem.F.slot_list_append PySem.F.type_list_append mt_append hx (pa_cons he pa_nil hs) hbase hfew hline hs hpl) fun σ H Q ⟨c, ad, ρ, I, h⟩ => by
    obtain ⟨ds0, e0, h⟩ := h.of_ofO
    obtain ⟨h1, xs0, h2, _⟩ := I.lst e0
    refine ⟨_, h1, tyL h2, c, ad, ρ, I, h.of_bind.mono (fun r ρ' q v H' p => ?_) fun _ _ k => k⟩
    obtain ⟨r', ef, q⟩ := q.of_ofO
    have p' := fz_ok ef p
    cases r' with
    | frs o => exact q.elim
    | slt i => exact q.elim
    | dat d =>
      obtain ⟨ds, e1, q⟩ := q.of_ofO
      split at q
      · rename_i hl
        obtain ⟨I', dv⟩ := p'
        obtain ⟨_, xs, k1, k2⟩ := I'.lst e1
        exact ⟨ad i, xs, v, rfl, rfl, k1, by rw [← k2.length]; exact hl, q _ _ ⟨I'.putLst e1 (k2.append (.one dv)), dv_non⟩⟩
      · exact q.elim
theorem ve_ext (hx : PE X (.Name x p) (tVar i)) (he : VE X W e me) (hbase : attributeBase (.Name x p) "extend" X.env (eval (.Name x p) X.env) = eval (.Name x p) X.env := by rfl)
    (hfew : ((backTo pos (starEach [e] X.env)).all (fun x => !x.1) && (backToKw pos (keywordEach [] X.env)).all (fun x => x.1.isSome) && decide ([e].length + ([] : List Keyword).length + (if ([] : List Keyword).isEmpty then 0 else 1) < 30)) = true := by rfl)
    (hline : (apos.endLine == pos.line) = true := by rfl) (hs : starEach [e] X.env = (false, eval e X.env) :: starEach [] X.env := by rfl) (hpl : (backTo pos (starEach [] X.env)).any (·.1) = false := by rfl) :
    VE X W (.Call (.Attribute (.Name x p) "extend" apos) [e] [] pos) (mExt i me) :=
  pe_imp (pe_bm PySem.F.plainAttrs_list PySem.F.slot_list_extend PySem.F.type_list_extend mt_extend hx (pa_cons he pa_nil hs) hbase hfew hline hs hpl) fun σ H Q ⟨c, ad, ρ, I, h⟩ => by
    obtain ⟨ds0, e0, h⟩ := h.of_ofO
    obtain ⟨h1, xs0, h2, _⟩ := I.lst e0
    refine ⟨_, h1, tyL h2, c, ad, ρ, I, h.of_bind.mono (fun r ρ' q v H' p => ?_) fun _ _ k => k⟩
    obtain ⟨r', ef, q⟩ := q.of_ofO
    have p' := fz_ok ef p
    split at q
    · rename_i es
      obtain ⟨ds, e1, q⟩ := q.of_ofO
      split at q
      · rename_i hl
        obtain ⟨I', dv⟩ := p'
        obtain ⟨_, xs, k1, k2⟩ := I'.lst e1
        simp only [Dv] at dv
        obtain ⟨b, ys, rfl, m1, m2⟩ := dv
        exact ⟨ad i, b, xs, ys, rfl, rfl, k1, (hid_some m1).2, by rw [← k2.length, ← m2.length]; exact hl, q _ _ ⟨I'.putLst e1 (k2.append m2), dv_non⟩⟩
      · exact q.elim
    · exact q.elim
theorem ve_pop (hx : PE X (.Name x p) (tVar i)) (hbase : attributeBase (.Name x p) "pop" X.env (eval (.Name x p) X.env) = eval (.Name x p) X.env := by rfl) (hline : (apos.endLine == pos.line) = true := by rfl) :
    VE X W (.Call (.Attribute (.Name x p) "pop" apos) [] [] pos) (mPop i) :=
  pe_imp (pe_bm0 PySem.F.plainAttrs_list PySem.F.slot_list_pop PySem.F.type_list_pop mt_pop hx hbase hline) fun σ H Q ⟨c, ad, ρ, I, h⟩ => by
    obtain ⟨ds, e0, h⟩ := h.of_ofO
    obtain ⟨d, e1, h⟩ := h.of_ofO
    obtain ⟨h1, xs, h2, h3⟩ := I.lst e0
    obtain ⟨v, k1, k2⟩ := h3.get e1
    have I' := I.putLst e0 h3.dropLast
    refine ⟨_, h1, tyL h2, ad i, xs, v, rfl, rfl, h2, by rw [← h3.length]; exact k1, h _ _ ⟨I', ?_⟩⟩
    have hi : Wr c ad ρ (ad i) := .inr ⟨i, ⟨_, lstAt_ok e0⟩, rfl⟩
    have isown : ∀ j, IsOwn (putLst ρ i ds.dropLast) j → IsOwn ρ j := fun j hj => by
      unfold putLst at hj
      split at hj
      · rename_i o eo
        by_cases ej : i = j
        · subst ej; exact ⟨o, .inl eo⟩
        · obtain ⟨u, g⟩ := hj
          rw [List.getElem?_set_ne ej] at g
          exact ⟨u, g⟩
      · rename_i o eo
        by_cases ej : i = j
        · subst ej; exact ⟨o, .inr eo⟩
        · obtain ⟨u, g⟩ := hj
          rw [List.getElem?_set_ne ej] at g
          exact ⟨u, g⟩
      · exact hj
    exact k2.ext (hid_mono fun a o n q => ⟨fun w => n (w.imp id fun ⟨j, hj, e⟩ => ⟨j, isown j hj, e⟩), by rw [upd_ne (fun z => n (by rw [z]; exact hi))]; exact q⟩)
end
end Vl

set_option Elab.async false
set_option linter.all false
set_option maxRecDepth 100000
namespace Vl
open PySem PySem.Spec PyProof.Rows L2

/-! ### a def, by its body -/
theorem outs_get {n : Nat} {ρ : List Sl} {i : Nat} {s : Sl} (h : (outsOf n ρ)[i]? = some s) : i < n ∧ ∃ t, ρ[i]? = some t ∧ s = parOnly t := by
  unfold outsOf at h
  rw [List.getElem?_map, Option.map_eq_some_iff] at h
  obtain ⟨t, h1, h2⟩ := h
  by_cases hi : i < n
  · rw [List.getElem?_take_of_lt hi] at h1
    exact ⟨hi, t, h1, h2.symm⟩
  · rw [List.getElem?_eq_none (by rw [List.length_take]; omega)] at h1
    cases h1
theorem outs_par {n : Nat} {ρ : List Sl} {i : Nat} {o : Own} (h : (outsOf n ρ)[i]? = some (.par o)) : i < n ∧ ρ[i]? = some (.par o) := by
  obtain ⟨h1, t, h2, h3⟩ := outs_get h
  cases t with
  | par u => simp only [parOnly] at h3; cases h3; exact ⟨h1, h2⟩
  | non => simp [parOnly] at h3
  | dat d => simp [parOnly] at h3
  | own u => simp [parOnly] at h3
theorem outs_dat {n : Nat} {ρ : List Sl} {i : Nat} {d : D} (h : (outsOf n ρ)[i]? = some (.dat d)) : False := by
  obtain ⟨h1, t, h2, h3⟩ := outs_get h
  cases t <;> simp [parOnly] at h3
theorem outs_own {n : Nat} {ρ : List Sl} {i : Nat} {d : Own} (h : (outsOf n ρ)[i]? = some (.own d)) : False := by
  obtain ⟨h1, t, h2, h3⟩ := outs_get h
  cases t <;> simp [parOnly] at h3
section
variable {K : PySem.W.Frag} {c : Fx} {ad : Nat → Addr} {σ : Sg} {H H' : Hp} {ρ : List Sl}
theorem outs_wr {n : Nat} {a : Addr} (w : Wr c ad (outsOf n ρ) a) : Wr c ad ρ a := w.imp id fun ⟨i, ⟨o, h⟩, e⟩ => ⟨i, ⟨o, h.elim (fun h => (outs_own h).elim) fun h => .inr (outs_par h).2⟩, e⟩
theorem EnvOk.outs (n : Nat) (I : EnvOk K c ad σ H ρ) : EnvOk K c ad (σ.take n) H (outsOf n ρ) := by
  have em : Ext (hid (Wr c ad ρ) H) (hid (Wr c ad (outsOf n ρ)) H) := hid_mono fun a o n q => ⟨fun w => n (outs_wr w), q⟩
  have ow : ∀ {i : Nat}, IsOwn (outsOf n ρ) i → IsOwn ρ i := fun {i} ⟨o, h⟩ => ⟨o, h.elim (fun h => (outs_own h).elim) fun h => .inr (outs_par h).2⟩
  refine ⟨?_, fun i d h => (outs_dat h).elim, fun i o h => (outs_own h).elim, fun i o h => I.par i o (outs_par h).2, fun i o h => ?_, fun i j hi hj => I.inj i j (ow hi) (ow hj), I.ext, I.fr, fun p hp => (I.gh p hp).ext em, I.pex, I.kpe⟩
  · unfold outsOf
    rw [List.length_map, List.length_take, List.length_take, I.len]
  · rcases h with h | h
    · exact (outs_own h).elim
    · obtain ⟨hi, h⟩ := outs_par h
      obtain ⟨h1, h2, h3⟩ := I.at_ i o (.inr h)
      exact ⟨by rw [List.getElem?_take_of_lt hi]; exact h1, h2.ext em rfl, h3⟩
theorem Post.outs {r : Res} {v : V} (n : Nat) (hr : notSlt r = true) (h : Post K c ad σ r ρ v H) : Post K c ad (σ.take n) r (outsOf n ρ) v H := by
  cases r with
  | slt i => simp [notSlt] at hr
  | dat d => exact ⟨h.1.outs n, h.2.ext (hid_mono fun a o n q => ⟨fun w => n (outs_wr w), q⟩)⟩
  | frs o =>
    obtain ⟨p, e, I, h0, hx, ho⟩ := h
    exact ⟨p, e, I.outs n, h0, hx, ho.ext (hid_mono fun a o n q => ⟨fun w => n (outs_wr w), q⟩) rfl⟩
theorem XPost.outs {x : Exn} {cls : Value} {d : Option Addr} (n : Nat) (h : XPost K c ad σ x ρ cls d H) : XPost K c ad (σ.take n) x (outsOf n ρ) cls d H :=
  ⟨h.1.outs n, h.2.1, h.2.2.imp id fun ⟨dd, fs, h1, h2, h3⟩ => ⟨dd, fs, h1, h2, h3.ext (hid_mono fun a o n q => ⟨fun w => n (outs_wr w), q⟩) _ _⟩⟩
/-- the names beside the parameters hold nothing -/
theorem EnvOk.start {N : List Str} {vs : List V} {as : List Sl} (I : EnvOk K c ad (vs.map some) H as) : EnvOk K c ad (L2.start N vs) H (as ++ List.replicate (N.length - vs.length) .non) := by
  have hl : as.length = vs.length := by have := I.len; rwa [List.length_map] at this
  have dn : ∀ {i : Nat} {s : Sl}, s ≠ .non → (as ++ List.replicate (N.length - vs.length) Sl.non)[i]? = some s → as[i]? = some s := fun {i s} n h => by
    by_cases hi : i < as.length
    · rwa [List.getElem?_append_left hi] at h
    · rw [List.getElem?_append_right (by omega), List.getElem?_replicate] at h
      split at h
      · exact absurd (Option.some.inj h).symm n
      · cases h
  have ow : ∀ {i : Nat}, IsOwn (as ++ List.replicate (N.length - vs.length) Sl.non) i → IsOwn as i := fun {i} ⟨o, h⟩ => ⟨o, h.imp (dn fun z => by cases z) (dn fun z => by cases z)⟩
  have ws : ∀ a, Wr c ad (as ++ List.replicate (N.length - vs.length) Sl.non) a → Wr c ad as a := fun a w => w.imp id fun ⟨i, h, e⟩ => ⟨i, ow h, e⟩
  have em : Ext (hid (Wr c ad as) H) (hid (Wr c ad (as ++ List.replicate (N.length - vs.length) Sl.non)) H) := hid_mono fun a o n q => ⟨fun w => n (ws a w), q⟩
  have up : ∀ {i : Nat} {v : V}, (vs.map some)[i]? = some (some v) → (L2.start N vs)[i]? = some (some v) := fun {i v} h => by
    unfold L2.start
    rw [List.getElem?_append_left (List.getElem?_eq_some_iff.mp h).1]; exact h
  refine ⟨?_, fun i d h => ?_, fun i o h => I.own i o (dn (fun z => by cases z) h), fun i o h => I.par i o (dn (fun z => by cases z) h), fun i o h => ?_, fun i j hi hj => I.inj i j (ow hi) (ow hj), I.ext, I.fr, fun p hp => (I.gh p hp).ext em, I.pex, I.kpe⟩
  · unfold L2.start
    rw [List.length_append, List.length_append, List.length_map, List.length_replicate, List.length_replicate, hl]
  · obtain ⟨v, h1, h2⟩ := I.dat i d (dn (fun z => by cases z) h)
    exact ⟨v, up h1, h2.ext em⟩
  · obtain ⟨h1, h2, h3⟩ := I.at_ i o (h.imp (dn fun z => by cases z) (dn fun z => by cases z))
    exact ⟨up h1, h2.ext em rfl, h3⟩
end
/-- what a def promises, of what its body does: n parameters, k names beside -/
def fnM (n k : Nat) (m : SM) : FM := fun as => match m (as ++ List.replicate k .non) with
  | .stuck => .stuck
  | .nx ρ => .ok (.dat .none) (outsOf n ρ)
  | .rt r ρ => if notSlt r = true then .ok r (outsOf n ρ) else .stuck
  | .exc x ρ => .exc x (outsOf n ρ)
  | .bk _ => .stuck
  | .ct _ => .stuck
/-- where a body stands -/
structure Bod (X : Cx) (W : WX) (P : Program) (w : World) (K : PySem.W.Frag) (mg : Str → Option Value) (base : Heap) (k : Nat) : Prop extends Cnd X W where
  prog : X.prog = P
  wd : X.w = w
  K' : X.K = K
  mg' : X.mg = mg
  bs : X.base = base
  room : Room k X.A
  own : PassesOwn (model X.prog X.w) X.A X.env X.xe
theorem fnv_of {P : Program} {w : World} {K : PySem.W.Frag} {mg : Str → Option Value} {base : Heap} {x qual : Str} {st : Stmt} {f : Addr} {fd : FuncData} {N ps : List Str} {k : Nat} {m : SM} (F : L2.Fun K x qual st f fd) (S : FnScope N ps (defScope st))
    (hbody : ∀ (cdv : Value) (A : Around) (outer : List Env) (s : Shared) (H : Hp) (E : XK), Room k (A.deeper (envOfC qual (defScope st) s.heap.objs.size f cdv)) → A.guards = some [] →
      VB (cxOf (L2.CX P w) P w K mg base N qual (defScope st) f cdv A outer s H E) (fun cls d _ H' => E cls d H') (defBody st) m) :
    FnV P w K mg base (k + 1) f fd ps (fnM ps.length (N.length - ps.length) m) := by
  refine ⟨fun A outer s H args us vs Q E c as hr hG e0 hb r hl hH0 J hw => ?_⟩
  obtain ⟨oc, od, kV, doc, pm, an, cdv, ct, osl, rfl, lk, hcd⟩ := F.ex
  have KX : K.In s.heap := e0.mod.kin.keeps fun b o e => (e0.bs b o e).1
  have lim : s.heap.NoLimit := e0.mod.nolimit.keeps fun b o e => (e0.bs b o e).1
  have hkind : ∀ y ∈ ps.zip us, (defScope st).names.lookup y.1 = some .local ∨ ((defScope st).names.lookup y.1 = some .cell ∧ ((cellsFrom (s.heap.objs.size + 1) (defScope st).names []).lookup y.1).isSome = true) := fun ⟨n, v⟩ hy => by
    rcases S.par n (List.of_mem_zip hy).1 with q | q
    · exact .inl q
    · exact .inr ⟨q, PySem.W.cellsFrom_some _ _ _ (.inl q)⟩
  refine codeAny_call_function hr.depth (KX _ _ lk) rfl S.co S.gen rfl (PySem.W.codeRec_of KX hcd) (hb _ _ _ _ ?_)
  refine wpAny_newFunctionEnv_cells S.kind hkind fun env he s1 x => ?_
  subst he
  refine ⟨lim.keeps x.toInCall.keep, codeAny_func ?_⟩
  have I : Inv (cxOf (L2.CX P w) P w K mg base N qual (defScope st) f cdv A outer s H E) [] (L2.start N vs) H s1 := inv_start S hr.hd e0 hl r x
  have fin : ∀ {σ' : Sg} {H' : Hp} {v : V} {u : Value} {s' : Shared}, Inv (cxOf (L2.CX P w) P w K mg base N qual (defScope st) f cdv A outer s H E) [] σ' H' s' → RelV v u → Q v H' → CE outer P w H s Q u s' :=
    fun {σ' H' v u s'} J rv q => ⟨v, H', J.os, J.bare, J.base, J.hok, rv, q⟩
  have hb := hbody cdv A outer s H E (hr.deeper _) hG
  have J' : EnvOk K c c.pa (L2.start N vs) H (as ++ List.replicate (N.length - ps.length) .non) := by
    have := J.start (N := N)
    rwa [hl] at this
  refine wpAny_mono (hb.run [] s1 (L2.start N vs) H { nx := fun _ H' => Q .non H', rt := Q } I ⟨c, c.pa, _, J', ?_⟩) (fun fl s' hs => ?_) fun e s' hs => hs
  · unfold fnM at hw
    cases e : m (as ++ List.replicate (N.length - ps.length) .non) with
    | stuck => rw [e] at hw; exact hw
    | nx ρ => rw [e] at hw; exact fun ad σ H' I' => hw ad (σ.take ps.length) .non H' ⟨I'.outs _, dv_non⟩
    | rt r ρ =>
      rw [e] at hw
      dsimp only at hw
      split at hw
      · exact fun ad σ v H' p => hw ad (σ.take ps.length) v H' (p.outs _ (by assumption))
      · exact hw.elim
    | bk ρ => rw [e] at hw; exact hw.elim
    | ct ρ => rw [e] at hw; exact hw.elim
    | exc x ρ => rw [e] at hw; exact fun ad σ cls d H' p => hw ad (σ.take ps.length) cls d H' (p.outs _)
  · cases fl with
    | ret u =>
      obtain ⟨v, σ', H', J, rv, q⟩ := hs
      exact fin J rv q
    | next =>
      obtain ⟨σ', H', J, q⟩ := hs
      exact fin (v := V.non) (u := Value.none) J rfl q
    | brk =>
      obtain ⟨_, _, _, q⟩ := hs
      exact False.elim q
    | cont =>
      obtain ⟨_, _, _, q⟩ := hs
      exact False.elim q
section
variable {P : Program} {w : World} {K : PySem.W.Frag} {mg : Str → Option Value} {base : Heap} {N : List Str} {qual : Str} {scope : Scope} {f : Addr} {cd : Value} {A : Around} {outer : List Env} {s : Shared} {H : Hp} {E : XK} {k : Nat}
/-- in a def's body -/
theorem bod_of (hr : Room k (A.deeper (envOfC qual scope s.heap.objs.size f cd))) (hG : A.guards = some []) : Bod (cxOf (L2.CX P w) P w K mg base N qual scope f cd A outer s H E) (fun cls d _ H' => E cls d H') P w K mg base k :=
  ⟨⟨takes_of rfl rfl rfl rfl, hG, rfl⟩, rfl, rfl, rfl, rfl, rfl, hr, passes_of rfl⟩
end
end Vl

set_option Elab.async false
set_option linter.all false
set_option maxRecDepth 100000
namespace Vl
open PySem PySem.Spec PyProof.Rows L2

/-! ### isinstance -/
inductive Ty5 where
  | tup
  | lst
  | str
  | int
  | bool
def Ty5.nm : Ty5 → String
  | .tup => "tuple"
  | .lst => "list"
  | .str => "str"
  | .int => "int"
  | .bool => "bool"
def tyD : D → Option String
  | .none => some "NoneType"
  | .bool _ => some "bool"
  | .int _ => some "int"
  | .str _ => some "str"
  | .list _ => some "list"
  | .tuple _ => some "tuple"
  | .dict _ => none
def isT : Ty5 → D → Option Bool
  | _, .dict _ => none
  | .tup, .tuple _ => some true
  | .lst, .list _ => some true
  | .str, .str _ => some true
  | .int, .int _ => some true
  | .int, .bool _ => some true
  | .bool, .bool _ => some true
  | _, _ => some false
theorem isT_kit {t : Ty5} {d : D} {b : Bool} (h : isT t d = some b) : ∃ n, tyD d = some n ∧ kitB n t.nm = some b := by
  cases t <;> cases d <;> simp only [isT] at h <;> cases h <;> refine ⟨_, rfl, ?_⟩ <;> decide +kernel
theorem tyx_of {K : PySem.W.Frag} {W : Addr → Prop} {H : Hp} {d : D} {v : V} {n : String} (h : Dt K W H d v) (e : tyD d = some n) : TyX K H v (.type n) := by
  cases d with
  | none => cases e; rw [h.non]; exact .base .non
  | bool b => cases e; rw [h.bl]; exact .base (.bl b)
  | int b => cases e; rw [h.int]; exact .base (.int b)
  | str b => cases e; rw [h.str]; exact .base (.str b)
  | list ds => cases e; obtain ⟨a, xs, rfl, h1, _⟩ := h.list; exact .base (.lst h1)
  | tuple ds =>
    cases e
    obtain ⟨a, xs, rfl, _, h1, _⟩ := h.tuple
    rcases h1 with (h1 | ⟨o, h1⟩) | ⟨o, its, n, h1, h2, _⟩
    · exact .base (.tup h1)
    · exact .fTuple h1
    · exact .kTuple h1 h2
  | dict es => cases e
def anyT : List Ty5 → D → Option Bool
  | [], _ => some false
  | t :: ts, d => match isT t d with
    | none => none
    | some true => some true
    | some false => anyT ts d
theorem anyT_kit {K : PySem.W.Frag} {d : D} {n : String} (e : tyD d = some n) : ∀ {ts : List Ty5} {b : Bool}, anyT ts d = some b → PySem.W.kitAny K (.type n) (ts.map fun t => Value.type t.nm) = some b
  | [], b, h => by simp only [anyT] at h; cases h; rfl
  | t :: ts, b, h => by
    simp only [anyT] at h
    cases q : isT t d with
    | none => rw [q] at h; cases h
    | some k =>
      rw [q] at h
      obtain ⟨m, e', hk⟩ := isT_kit q
      rw [e] at e'; cases e'
      cases k with
      | true => cases h; exact kitAny_cons (kit_ty hk) (fun z => nomatch z) fun _ => rfl
      | false => exact kitAny_cons (kit_ty hk) (fun _ => anyT_kit e h) fun z => nomatch z
def mIsi (ts : List Ty5) (m : EM) : EM := fun ρ => (m ρ).bind fun r ρ' => ofO (dref ρ' r) fun d => ofO (anyT ts d) fun b => .ok (.dat (.bool b)) ρ'
theorem anyT_ty {ts : List Ty5} {d : D} {b : Bool} (h : anyT ts d = some b) (hn : ts ≠ []) : ∃ n, tyD d = some n := by
  cases ts with
  | nil => exact absurd rfl hn
  | cons t ts =>
    simp only [anyT] at h
    cases q : isT t d with
    | none => rw [q] at h; cases h
    | some k => obtain ⟨n, e, _⟩ := isT_kit q; exact ⟨n, e⟩
section
variable {X : Cx} {W : WX} {e : Expr} {me : EM} {pos p pt : Pos} {x1 : Nat}
/-- the type's name stands for itself -/
structure TyN (X : Cx) (t : Ty5) (x : Str) : Prop where
  gl : Gl X x
  mg : X.mg x = none
  boot : bootBuiltins x = some (.type t.nm)
  nm : x ≠ "__name__"
  dbg : (x == ("__debug__" : Str)) = false
theorem pe_tyn {t : Ty5} {x : Str} {pos : Pos} (h : TyN X t x) : PE X (.Name x pos) (tC (.ty t.nm)) := pe_bltn h.gl h.mg h.boot rfl h.nm h.dbg
theorem ve_isi {t : Ty5} {x : Str} (hg : Gl X "isinstance") (hm : X.mg "isinstance" = none) (ht : TyN X t x) (he : VE X W e me)
    (hs : starEach [e, .Name x pt] X.env = (false, eval e X.env) :: starEach [.Name x pt] X.env := by rfl) (hs2 : starEach [.Name x pt] X.env = (false, eval (.Name x pt) X.env) :: starEach [] X.env := by rfl) (hpl : (backTo pos (starEach [.Name x pt] X.env)).any (·.1) = false := by rfl) :
    VE X W (.Call (.Name "isinstance" p) [e, .Name x pt] [] pos) (mIsi [t] me) :=
  pe_imp (pe_callB call_isi hg hm PyProof.Rows.boot_isinstance (pa_cons he (pa_cons (pe_tyn ht) pa_nil hs2) hs) (by decide) (by decide) hs hpl) fun σ H Q ⟨c, ad, ρ, I, h⟩ => ⟨c, ad, ρ, I, h.of_bind.mono (fun r ρ' q v H' p => by
    obtain ⟨d, e1, q⟩ := q.of_ofO
    obtain ⟨b, e2, q⟩ := q.of_ofO
    obtain ⟨I', td⟩ := post_dt p e1
    obtain ⟨n, en⟩ := anyT_ty e2 (by simp)
    have hb : isT t d = some b := by
      simp only [anyT] at e2
      cases w : isT t d with
      | none => rw [w] at e2; cases e2
      | some k => rw [w] at e2; cases k <;> exact e2
    obtain ⟨n', en', hk⟩ := isT_kit hb
    rw [en] at en'; cases en'
    exact ⟨v, .ty t.nm, _, _, b, rfl, .ty _, tyx_of td en, kit_ty hk, q _ H' ⟨I', dv_bl⟩⟩) fun _ _ k => k⟩
theorem ve_isi2 {t u : Ty5} {x y : Str} {pu ptu : Pos} (hg : Gl X "isinstance") (hm : X.mg "isinstance" = none) (ht : TyN X t x) (hu : TyN X u y) (he : VE X W e me)
    (hs : starEach [e, .Tuple [.Name x pt, .Name y pu] x1 ptu] X.env = (false, eval e X.env) :: starEach [.Tuple [.Name x pt, .Name y pu] x1 ptu] X.env := by rfl)
    (hs2 : starEach [.Tuple [.Name x pt, .Name y pu] x1 ptu] X.env = (false, eval (.Tuple [.Name x pt, .Name y pu] x1 ptu) X.env) :: starEach [] X.env := by rfl)
    (hs3 : starEach [.Name x pt, .Name y pu] X.env = (false, eval (.Name x pt) X.env) :: starEach [.Name y pu] X.env := by rfl) (hs4 : starEach [.Name y pu] X.env = (false, eval (.Name y pu) X.env) :: starEach [] X.env := by rfl)
    (hpl : (backTo pos (starEach [.Tuple [.Name x pt, .Name y pu] x1 ptu] X.env)).any (·.1) = false := by rfl) :
    VE X W (.Call (.Name "isinstance" p) [e, .Tuple [.Name x pt, .Name y pu] x1 ptu] [] pos) (mIsi [t, u] me) :=
  pe_imp (pe_callB call_isiT hg hm PyProof.Rows.boot_isinstance (pa_cons he (pa_cons (pe_tup (pa_cons (pe_tyn ht) (pa_cons (pe_tyn hu) pa_nil hs4) hs3)) pa_nil hs2) hs) (by decide) (by decide) hs hpl) fun σ H Q ⟨c, ad, ρ, I, h⟩ => ⟨c, ad, ρ, I, h.of_bind.mono (fun r ρ' q v H' p => by
    obtain ⟨d, e1, q⟩ := q.of_ofO
    obtain ⟨b, e2, q⟩ := q.of_ofO
    obtain ⟨I', td⟩ := post_dt p e1
    obtain ⟨n, en⟩ := anyT_ty e2 (by simp)
    refine ⟨by show 2 ≤ sizeLine; decide, fun T hT => ?_⟩
    have I2 := I'.grow (Ext.upd (o := .tup [V.ty t.nm, V.ty u.nm]) hT)
    have td2 : Dt X.K (Wr c ad ρ') (upd H' T (.tup [V.ty t.nm, V.ty u.nm])) d v := by
      rcases td with td | ⟨ds, a, xs, e3, e4, h1, h2⟩
      · exact .inl (td.ext (hid_mono fun a o n q => ⟨n, (Ext.upd hT) a o q⟩))
      · exact .inr ⟨ds, a, xs, e3, e4, (Ext.upd hT) _ _ h1, h2.ext (hid_mono fun a o n q => ⟨n, (Ext.upd hT) a o q⟩)⟩
    refine ⟨v, T, _, _, _, b, rfl, upd_same, .cons (.ty _) (.cons (.ty _) .nil), tyx_of td2 en, anyT_kit (ts := [t, u]) en e2, q _ _ ⟨I2, dv_bl⟩⟩) fun _ _ k => k⟩
end
/-! ### x op= e -/
def sAug (f : OpF) (i : Nat) (m : EM) : SM := fun ρ => match ρ[i]? with
  | some (.dat x) => ofE (m ρ) fun r ρ' => oS (dref ρ' r) fun y => oS (f x y) fun z => oS (setR i z ρ') .nx
  | _ => .stuck
section
variable {X : Cx} {W : WX} {e : Expr} {me : EM} {pos : Pos}
theorem vs_aug {i : Nat} {x : Str} {op : Operator} {r : R2} {f : OpF} {pos' : Pos} (hN : X.N.Nodup) (hi : X.N[i]? = some x) (hx : Loc X.env.scope x) (ho : OpR X (inplaceOp op) r) (hf : OpB X.K r f) (he : VE X W e me) (hfn : X.fn x = true ∨ X.env.scope.names.lookup x = some .local := by first | exact .inl rfl | exact .inr rfl | assumption) :
    VS X W (.AugAssign (.Name x pos') op e pos) (sAug f i me) :=
  ps_imp (ps_aug hN hi hx he (fun pins s σ H a b v u Q I ra rb h => ho pins s σ H a b v u Q I ra rb h) hfn) fun D σ H ⟨c, ad, ρ, I, h⟩ => by
    unfold sAug at h
    split at h
    · rename_i d hd
      obtain ⟨v, h1, h2⟩ := I.dat i d hd
      refine ⟨v, h1, c.hold [(d, v)], ad, ρ, I.hold (fun p hp => by rw [List.mem_singleton.mp hp]; exact h2), h.ofE.mono (fun r ρ' q y H' p => ?_) fun _ _ k => k.unhold⟩
      obtain ⟨y', e1, q⟩ := q.oS
      obtain ⟨z, e2, q⟩ := q.oS
      obtain ⟨ρ2, e3, q⟩ := q.oS
      have hv := p.env.held (d, v) (List.mem_singleton.mpr rfl)
      obtain ⟨I', ty⟩ := post_dt p.unhold e1
      refine hf _ _ _ _ _ _ _ _ (fun a w => I'.wr w) (.inl hv) ty e2 fun u H2 n => ?_
      obtain ⟨ad', I2⟩ := setR_ok e3 (n.post I')
      exact q ad' _ H2 I2
    · exact h.elim
end
/-! ### x[k] = v; x[k], y = divmod(a, b) -/
def sSt (i : Nat) (mi mv : EM) : SM := fun ρ => ofE (mv ρ) fun r ρ1 => oS (fz r) fun r => match r with
  | .dat d => oS (lstAt ρ1 i) fun _ => ofE (mi ρ1) fun ri ρ2 => match ri with
    | .dat (.int k) => oS (lstAt ρ2 i) fun ds => oS (ixN ds.length k) fun j => .nx (putLst ρ2 i (ds.set j d))
    | _ => .stuck
  | _ => .stuck
section
variable {X : Cx} {W : WX} {e ei : Expr} {me mi : EM} {pos p ps : Pos} {x : Str} {i : Nat}
theorem vs_st (hx : PE X (.Name x p) (tVar i)) (hi : VE X W ei mi) (he : VE X W e me) (hs : swapsWithSole [.Subscript (.Name x p) ei ps] e pos.line X.env = pure false := by rfl) (hw : swappedStores [.Subscript (.Name x p) ei ps] e X.env = pure none := by rfl)
    (h1 : (assignEach [.Subscript (.Name x p) ei ps] X.env).map (·.2) = [assign (.Subscript (.Name x p) ei ps) X.env] := by rfl)
    (ha : ∀ v, assign (.Subscript (.Name x p) ei ps) X.env v = (do
      let ov ← holding [v] (eval (.Name x p) X.env)
      let iv ← holding [v, ov] (eval ei X.env)
      standAt ps
      holding [v, ov, iv] (setItem ov iv v)
      release [v, ov, iv] []) := by intro _; rfl) :
    VS X W (.Assign [.Subscript (.Name x p) ei ps] e pos) (sSt i mi me) :=
  ps_imp (ps_asg he (pg_sub hx hi set_list ha) hs hw h1) fun D σ H ⟨c, ad, ρ, I, h⟩ => ⟨c, ad, ρ, I, h.ofE.mono (fun r ρ1 q v H1 pp => by
    obtain ⟨r', ef, q⟩ := q.oS
    have p' := fz_ok ef pp
    cases r' with
    | frs o => exact q.elim
    | slt i => exact q.elim
    | dat d =>
      obtain ⟨I1, dv⟩ := p'
      obtain ⟨ds0, e0, q⟩ := q.oS
      obtain ⟨g1, _⟩ := I1.lst e0
      refine ⟨_, g1, c.hold [(d, v)], ad, ρ1, I1.hold (fun p hp => by rw [List.mem_singleton.mp hp]; exact dv), q.ofE.mono (fun ri ρ2 q2 y H2 py => ?_) fun _ _ k => k.unhold⟩
      split at q2
      · rename_i k
        obtain ⟨ds, e1, q2⟩ := q2.oS
        obtain ⟨j, e2, q2⟩ := q2.oS
        obtain ⟨I2, ey⟩ := py
        simp only [Dv] at ey
        have hv := I2.held (d, v) (List.mem_singleton.mpr rfl)
        have I3 := I2.unhold
        obtain ⟨_, xs, h2, h3⟩ := I3.lst e1
        exact ⟨ad i, xs, k, j, rfl, ey, h2, by rw [← h3.length]; exact e2, q2 ad σ _ (I3.putLst e1 (h3.set hv j))⟩
      · exact q2.elim) fun _ _ k => k⟩
/-- x[k], y = divmod(a, b), k a written number -/
def sDvm (i : Nat) (k : Int) (j : Nat) (am : AM) : SM := fun ρ => ofE (am ρ) fun rs ρ1 => match rs with
  | [.dat (.int a), .dat (.int b)] => if 0 < b ∧ b < 1073741824 then oS (lstAt ρ1 i) fun ds => oS (ixN ds.length k) fun n => .nx ((putLst ρ1 i (ds.set n (.int (a / b)))).set j (.dat (.int (a % b)))) else .stuck
  | _ => .stuck
theorem vs_dvm {j : Nat} {k : Int} {y : Str} {pc pd pt py pk : Pos} {kk kt : Nat} {a b : Expr} {am : AM} (hc : X.calm = true) (hg : Gl X "divmod") (hm : X.mg "divmod" = none) (hx : PE X (.Name x p) (tVar i)) (hN : X.N.Nodup) (hj : X.N[j]? = some y) (hy : Loc X.env.scope y) (ha : VA X W [a, b] am) (hij : i ≠ j)
    (hfn : X.fn y = true ∨ X.env.scope.names.lookup y = some .local := by first | exact .inl rfl | exact .inr rfl | assumption)
    (hs : starEach [a, b] X.env = (false, eval a X.env) :: starEach [b] X.env := by rfl) (hpl : (backTo pc (starEach [b] X.env)).any (·.1) = false := by rfl)
    (hss : swapsWithSole [.Tuple [.Subscript (.Name x p) (.Constant (.int k) kk pk) ps, .Name y py] kt pt] (.Call (.Name "divmod" pd) [a, b] [] pc) pos.line X.env = pure false := by rfl)
    (hw : swappedStores [.Tuple [.Subscript (.Name x p) (.Constant (.int k) kk pk) ps, .Name y py] kt pt] (.Call (.Name "divmod" pd) [a, b] [] pc) X.env = pure none := by rfl)
    (h1 : (assignEach [.Tuple [.Subscript (.Name x p) (.Constant (.int k) kk pk) ps, .Name y py] kt pt] X.env).map (·.2) = [assign (.Tuple [.Subscript (.Name x p) (.Constant (.int k) kk pk) ps, .Name y py] kt pt) X.env] := by rfl)
    (hl : (assignEach [.Subscript (.Name x p) (.Constant (.int k) kk pk) ps, .Name y py] X.env).length = 2 := by rfl) (hst : (assignEach [.Subscript (.Name x p) (.Constant (.int k) kk pk) ps, .Name y py] X.env).findIdx? (·.1) = none := by rfl)
    (hasg : ∀ v, assign (.Subscript (.Name x p) (.Constant (.int k) kk pk) ps) X.env v = (do
      let ov ← holding [v] (eval (.Name x p) X.env)
      let iv ← holding [v, ov] (eval (.Constant (.int k) kk pk) X.env)
      standAt ps
      holding [v, ov, iv] (setItem ov iv v)
      release [v, ov, iv] []) := by intro _; rfl)
    : VS X W (.Assign [.Tuple [.Subscript (.Name x p) (.Constant (.int k) kk pk) ps, .Name y py] kt pt] (.Call (.Name "divmod" pd) [a, b] [] pc) pos) (sDvm i k j am) :=
  ps_imp (ps_asg (pe_callB call_divmodW hg hm PyProof.Rows.boot_divmod ha (by decide) (by decide) hs hpl) (pg_tup hc (pgs_cons (pg_sub hx pe_int set_list hasg) (pgs_cons (pg_name hN hj hy hfn) pgs_nil)) hl hst) hss hw h1) fun D σ H ⟨c, ad, ρ, I, h⟩ => ⟨c, ad, ρ, I, h.ofE.mono (fun rs ρ1 q vs H1 I1 hv => by
    split at q
    · rename_i u w
      split at q
      · rename_i hb
        obtain ⟨ds, e1, q⟩ := q.oS
        obtain ⟨n, e2, q⟩ := q.oS
        obtain ⟨v1, us, rfl, k1, v2, us', rfl, k2, k3⟩ := hv
        cases k3
        have k1 : Dv _ _ _ _ := k1
        have k2 : Dv _ _ _ _ := k2
        simp only [Dv] at k1 k2
        subst k1; subst k2
        refine ⟨u, w, rfl, ⟨hb.1, PyProof.noPylong_small (by omega)⟩, fun T hT => ?_⟩
        refine ⟨T, [.int (u / w), .int (u % w)], rfl, .inl (.inl upd_same), rfl, _, _, rfl, ?_⟩
        obtain ⟨g1, xs, g2, g3⟩ := I1.lst e1
        have I2 := I1.grow (Ext.upd (o := .tup [V.int (u / w), V.int (u % w)]) hT)
        obtain ⟨_, xs', g2', g3'⟩ := I2.lst e1
        have ex : xs' = xs := by
          have := (Ext.upd (o := .tup [V.int (u / w), V.int (u % w)]) hT) _ _ g2
          rw [this] at g2'; cases g2'; rfl
        subst ex
        refine ⟨_, g1, ad i, xs', k, n, rfl, rfl, g2', by rw [← g3.length]; exact e2, _, _, rfl, ?_⟩
        have I3 := I2.putLst e1 (g3'.set (d := .int (u / w)) (x := .int (u / w)) dv_int n)
        exact ⟨rfl, q ad _ _ (I3.setDat (i := j) (d := .int (u % w)) (v := .int (u % w)) dv_int)⟩
      · exact q.elim
    · exact q.elim) fun _ _ k => k⟩
end
end Vl

set_option Elab.async false
set_option linter.all false
set_option maxRecDepth 100000
namespace Vl
open PySem PySem.Spec PyProof.Rows L2

/-! ### a[::-1] -/
section
open HT
variable {prog : Program} {w : World} {A : Around} {E : Value → Shared → Prop} {s : Shared}
theorem fm_map {α β : Type} {f : α → Option β} {g : α → β} : ∀ {l : List α}, (∀ k ∈ l, f k = some (g k)) → l.filterMap f = l.map g
  | [], _ => rfl
  | a :: l, h => by
    rw [List.filterMap_cons, h a List.mem_cons_self, List.map_cons, fm_map fun k hk => h k (List.mem_cons_of_mem _ hk)]
theorem rev_pick (xs : Array Value) : ((List.range xs.size).filterMap fun (k : Nat) => xs[(((xs.size : Int) - 1) + (k : Int) * (-1)).toNat]?).toArray = xs.toList.reverse.toArray := by
  congr 1
  apply List.ext_getElem?
  intro i
  have h1 : ((List.range xs.size).filterMap fun (k : Nat) => xs[(((xs.size : Int) - 1) + (k : Int) * (-1)).toNat]?) = (List.range xs.size).map fun (k : Nat) => xs.toList.reverse.getD k .none := by
    refine fm_map fun k hk => ?_
    rw [List.mem_range] at hk
    have e : (((xs.size : Int) - 1) + (k : Int) * (-1)).toNat = xs.size - 1 - k := by omega
    rw [e, List.getD_eq_getElem?_getD, List.getElem?_reverse (by simpa using hk)]
    have hl : xs.toList.length - 1 - k < xs.toList.length := by rw [Array.length_toList]; omega
    rw [List.getElem?_eq_getElem hl]
    simp [Array.getElem?_eq_getElem (show xs.size - 1 - k < xs.size by omega)]
  rw [h1, List.getElem?_map]
  by_cases hi : i < xs.size
  · rw [List.getElem?_range hi, Option.map_some, List.getD_eq_getElem?_getD, List.getElem?_eq_getElem (by simpa using hi)]
    rfl
  · rw [List.getElem?_eq_none (by simpa using hi), List.getElem?_eq_none (by simpa using hi)]
    rfl
theorem back_adjust (n : Nat) : Builtin.Slice.sliceAdjust none none (-1) (n : Int) = ((n : Int) - 1, -1) := by
  unfold Builtin.Slice.sliceAdjust
  simp
theorem back_places (n : Nat) : Builtin.Slice.slicePlaces ((n : Int) - 1) (-1) (-1) = n := by
  unfold Builtin.Slice.slicePlaces
  have h1 : ¬ ((-1 : Int) > 0) := by omega
  simp only [h1, if_false]
  split
  · have : ((n : Int) - 1 - -1 - 1) / (- -1) = (n : Int) - 1 := by simp
    omega
  · omega
theorem getItem_tuple_rev {t sl : Addr} {items : Array Value} {vs : Value} {Q : Value → Shared → Prop} (ht : IsTup s.heap t items) (hs : s.heap.IsSliceOf sl .none .none vs) (ps : IsPart vs (some (-1)))
    (h : Q (.ref s.heap.objs.size) { s with heap := s.heap.push { cls := .type "tuple", data := .seq items.toList.reverse.toArray } })
    (hsz : items.size ≤ sizeLine) : wpAny (model prog w) A (getItem (.ref t) (.ref sl)) Q E s := by
  have hk : sizeOk (.seq items.toList.reverse.toArray) := by
    show items.toList.reverse.toArray.size ≤ sizeLine
    rw [List.size_toArray, List.length_reverse, Array.length_toList]
    exact hsz
  obtain ⟨os, hos, hcs, hds⟩ := id hs
  have hTs : s.TypeIs (.ref sl) "slice" := ⟨os, hos, hcs⟩
  unfold getItem
  try with_reducible refine wpAny_holding ?_
  first | refine wpAny_bind (wpAny_pure ?_) | skip
  refine wpAny_bind (wpAny_sequenceKey ht.typeIs (by decide) ?_)
  refine wpAny_bind (wpAny_callSpecial?_slot (name := Str.ofString "__getitem__") ht.typeIs PyProof.Rows.slot_tuple_getitem (wpAny_call_entry PyProof.Rows.slot_tuple_getitem ht.typeIs entry_tuple_getitem ?_ (args_tuple_getitem _ _)))
  show wpAny _ _ (Builtin.Tuple.tupleItemsOf (.ref t) >>= _) _ _ s
  refine wpAny_bind (tupleItemsOf_ ht ?_)
  refine wpAny_bind (wpAny_typeOf hTs ?_)
  rw [if_pos (by decide)]
  have happ : wpAny (model prog w) A.in1 (Builtin.Slice.sliceApplied (.ref sl) (pure (items.size : Int))) (fun r s' => r = ((items.size : Int) - 1, -1, items.size) ∧ s' = s) E s := by
    unfold Builtin.Slice.sliceApplied Builtin.Slice.sliceFields
    refine wpAny_bind (wpAny_bind (wpAny_field hos hds (x := .none) rfl (wpAny_bind (wpAny_field hos hds (x := .none) rfl (wpAny_bind (wpAny_field hos hds (x := vs) rfl (wpAny_pure ?_)))))))
    refine wpAny_bind (slicePart_ ps ?_)
    show wpAny _ _ (if ((-1 : Int) == 0) = true then _ else _) _ _ s
    rw [if_neg (by decide)]
    refine wpAny_bind (slicePart_none (wpAny_bind (slicePart_none (wpAny_bind (wpAny_pure ?_)))))
    show wpAny _ _ (match Builtin.Slice.sliceAdjust none none (-1) (items.size : Int) with | (lo, hi) => pure (lo, (-1 : Int), Builtin.Slice.slicePlaces lo hi (-1))) _ _ s
    rw [back_adjust]
    show wpAny _ _ (pure ((items.size : Int) - 1, (-1 : Int), Builtin.Slice.slicePlaces ((items.size : Int) - 1) (-1) (-1))) _ _ s
    rw [back_places]
    exact wpAny_pure ⟨rfl, rfl⟩
  refine wpAny_bind (wpAny_mono happ (fun r s' hr => ?_) fun _ _ x => x)
  obtain ⟨rfl, rfl⟩ := hr
  have hno : ¬ ((((items.size : Int) - 1) == 0 && (-1 : Int) == 1 && items.size == items.size) = true) := by
    intro q
    rw [Bool.and_eq_true, Bool.and_eq_true] at q
    exact absurd q.1.2 (by decide)
  show wpAny _ _ (if ((((items.size : Int) - 1) == 0 && (-1 : Int) == 1 && items.size == items.size) = true) then _ else _) _ _ s'
  rw [if_neg hno, rev_pick]
  first
    | exact wpAny_bind (m := Builtin.Tuple.tupleExact _) (wpAny_newObj_type (wpAny_pure ⟨_, rfl, wpAny_pure h⟩) hk)
    | exact wpAny_bind (m := Builtin.Tuple.tupleExact _) (wpAny_newObj_type (wpAny_bind (wpAny_pure (wpAny_pure ⟨_, rfl, wpAny_pure h⟩))) hk)
    | exact wpAny_bind (wpAny_bind (m := Builtin.Tuple.tupleExact _) (wpAny_newObj_type (wpAny_pure (wpAny_pure ⟨_, rfl, wpAny_pure h⟩)) hk))
end

section
variable {X : Cx} {W : WX} {e : Expr} {te : TE} {me : EM} {p1 p2 p3 pos : Pos} {k : Nat}
def tRevT (K : PySem.W.Frag) (te : TE) : TE := fun σ H Q => te σ H fun x H1 => ∃ a xs, x = .ref a ∧ SqT K H1 a xs ∧ ∀ p, H1 p = none → Q (.ref p) (upd H1 p (.tup xs.reverse))
theorem pe_revT (he : PE X e te) : PE X (.Subscript e (.Slice none none (some (.UnaryOp .USub (.Constant (.int 1) k p1) p2)) p3) pos) (tRevT X.K te) := by
  refine ⟨fun pins s σ H Q I h => Subscript_ (thn (he.run pins s σ H _ I h) fun v s1 hv => ?_)⟩
  obtain ⟨x, H1, I1, r1, a, xs, ex, hx, q⟩ := hv
  subst ex
  cases r1
  have hst : PO X (some (.UnaryOp .USub (.Constant (.int 1) k p1) p2)) (tPart (tUn (rU fun i => .int (-i)) (tC (.int 1)))) := po_some (pe_un un_neg pe_int)
  refine wpAny_Slice (thn (po_none.run pins s1 σ H1 (fun o H2 => o = none ∧ H2 = H1) I1 ⟨rfl, rfl⟩) fun vl s2 hl => ?_)
  obtain ⟨l, H2, I2, pl, el, e2⟩ := hl
  subst el e2
  refine thn (po_none.run pins s2 σ H2 (fun o H3 => o = none ∧ H3 = H2) I2 ⟨rfl, rfl⟩) fun vu s3 hu => ?_
  obtain ⟨u, H3, I3, pu, eu, e3⟩ := hu
  subst eu e3
  refine thn (hst.run pins s3 σ H3 (fun o H4 => o = some (-1) ∧ H4 = H3) I3 ⟨1, rfl, -1, rfl, rfl, rfl⟩) fun vs s4 hs => ?_
  obtain ⟨o, H4, I4, ps, eo, e4⟩ := hs
  subst eo e4
  cases pl
  cases pu
  have I5 : Inv X pins σ H4 { s4 with heap := s4.heap.push { cls := .type "slice", data := .fields #[.none, .none, vs] } } := I4.kept (t' := s4.toks) fun b ob q => Heap.get?_push_of_some _ q
  obtain ⟨its, r, ht, hz⟩ := I5.tuple hx
  have hlen := r.length
  show wpAny (model X.prog X.w) X.A (subscriptTail e (.Slice none none (some (.UnaryOp .USub (.Constant (.int 1) k p1) p2)) p3) (.ref a) (.ref s4.heap.objs.size)) (EP X pins σ Q) X.xe { s4 with heap := s4.heap.push { cls := .type "slice", data := .fields #[.none, .none, vs] } }
  refine tail_any (ops := [.ref a, .ref s4.heap.objs.size]) ht.typeIs PyProof.Rows.slot_tuple_getitem.lookup ?_ (by with_unfolding_all rfl)
  refine getItem_tuple_rev ht (Heap.IsSliceOf.new _ .none .none vs) ps ?_ (by rw [List.size_toArray]; omega)
  refine ⟨.ref _, _, I5.laid (t' := s4.toks) (o := .tup xs.reverse) (fun b ob q => Heap.get?_push_of_some _ q) (Nat.le_refl _) ?_, rfl, q _ (I5.hok.fresh (Nat.le_refl _))⟩
  exact ⟨by rw [List.length_reverse]; exact hz, _, r.reverse, IsTup.new _ _⟩
def revD : D → Option Res
  | .list ds => some (.frs (.lst ds.reverse))
  | .tuple ds => some (.dat (.tuple ds.reverse))
  | _ => none
def mRev (m : EM) : EM := fun ρ => (m ρ).bind fun r ρ' => ofO (dref ρ' r) fun d => ofO (revD d) fun z => .ok z ρ'
theorem pe_or {t t' : TE} (h : PE X e t) (h' : PE X e t') : PE X e fun σ H Q => t σ H Q ∨ t' σ H Q := ⟨fun pins s σ H Q I q => q.elim (h.run pins s σ H Q I) (h'.run pins s σ H Q I)⟩
theorem ve_rev (he : VE X W e me) : VE X W (.Subscript e (.Slice none none (some (.UnaryOp .USub (.Constant (.int 1) k p1) p2)) p3) pos) (mRev me) :=
  pe_imp (pe_or (pe_revL he) (pe_revT he)) fun σ H Q ⟨c, ad, ρ, I, h⟩ => by
    have h' := h.of_bind
    cases hm : me ρ with
    | stuck => rw [hm] at h'; exact h'.elim
    | exc x ρ' => rw [hm] at h'; exact .inl ⟨c, ad, ρ, I, by rw [hm]; exact h'⟩
    | ok r ρ' =>
      rw [hm] at h'
      obtain ⟨d, e1, h'⟩ := Wants.of_ofO h'
      obtain ⟨z, e2, h'⟩ := Wants.of_ofO h'
      cases d with
      | none => cases e2
      | bool _ => cases e2
      | int _ => cases e2
      | str _ => cases e2
      | dict _ => cases e2
      | list ds =>
        cases e2
        refine .inl ⟨c, ad, ρ, I, ?_⟩
        rw [hm]
        intro v H' p
        obtain ⟨I', t⟩ := post_dt p e1
        obtain ⟨a, xs, rfl, h1, h2⟩ := t.list
        exact ⟨a, xs, rfl, SqL.of h1, fun p hp => h' _ _ ((NewP.lst (W := Wr c ad ρ') hp h2.reverse).post I')⟩
      | tuple ds =>
        cases e2
        refine .inr ⟨c, ad, ρ, I, ?_⟩
        rw [hm]
        intro v H' p
        obtain ⟨I', t⟩ := post_dt p e1
        obtain ⟨a, xs, rfl, _, h1, h2⟩ := t.tuple
        exact ⟨a, xs, rfl, h1, fun p hp => h' _ _ ((NewP.tup (W := Wr c ad ρ') (fun a w => I'.wr w) hp h2.reverse).post I')⟩
end
/-! ### ** -/
def fPow : OpF := fI (fun i j => decide (0 ≤ j ∧ j ≤ 1000000 ∧ i.natAbs < 18446744073709551616)) fun i j => .int (i ^ j.toNat)
theorem opB_pow {K : PySem.W.Frag} : OpB K (rI CPow fun i j => .int (i ^ j.toNat)) fPow := opB_int (fun i j h => by
  have := of_decide_eq_true h
  exact ⟨this.1, this.2.1, by have e : (2 : Nat) ^ 64 = 18446744073709551616 := by decide
                              rw [e]; exact this.2.2⟩) fun _ _ _ => by simp only [Dv]
/-! ### range(a, b, c) -/
def intsC (lo c : Int) (n : Nat) : List D := (List.range n).map fun (i : Nat) => .int (lo + i * c)
theorem it_rangeC {K : PySem.W.Frag} {g : List (D × V)} {lo c : Int} {n : Nat} : ItOk K g (Itc lo c n) (intsC lo c n) := by
  intro cc i ad σ H ρ hg I
  have hl : (intsC lo c n).length = n := by unfold intsC; rw [List.length_map, List.length_range]
  refine ⟨fun hi => by rw [hl] at hi; exact Nat.le_of_eq hi.symm, fun d hd => ⟨?_, fun y H' ⟨e, h1⟩ => ?_⟩⟩
  · have := (List.getElem?_eq_some_iff.mp hd).1
    rwa [hl] at this
  · subst e
    have hi : i < n := by
      have := (List.getElem?_eq_some_iff.mp hd).1
      rwa [hl] at this
    unfold intsC at hd
    rw [List.getElem?_map, List.getElem?_range hi] at hd
    cases hd
    subst h1
    exact ⟨Ext.refl _, dv_int⟩
def mRng3 (m : AM) : IM := fun ρ => (m ρ).bind fun rs ρ' => match rs with
  | [.dat (.int i), .dat (.int j), .dat (.int c)] => if c ≠ 0 ∧ c.natAbs < 1073741824 ∧ Builtin.Range.small i j c = true ∧ 0 ≤ Builtin.Range.rangeSize i j c then .ok (intsC i c (Builtin.Range.rangeSize i j c).toNat) ρ' else .stuck
  | _ => .stuck
section
variable {X : Cx} {W : WX} {tg a b d : Expr} {p pos : Pos} {am : AM}
theorem vi_range3 (hg : Gl X "range") (hm : X.mg "range" = none) (ha : VA X W [a, b, d] am) (hs : starEach [a, b, d] X.env = (false, eval a X.env) :: starEach [b, d] X.env := by rfl) (hpl : (backTo pos (starEach [b, d] X.env)).any (·.1) = false := by rfl) :
    VI X W tg (.Call (.Name "range" p) [a, b, d] [] pos) (mRng3 am) :=
  pi_imp (pi_range3 hg hm ha hs hpl) fun σ H R ⟨c, ad, ρ, I, h⟩ => ⟨c, ad, ρ, I, h.of_bind.mono (fun rs ρ' q vs H' I' hv => by
    split at q
    · rename_i i j k
      split at q
      · rename_i hj
        obtain ⟨v, us, rfl, h1, u, us', rfl, h2, w, us'', rfl, h3, h4⟩ := hv
        cases h4
        have h1 : Dv _ _ _ _ := h1
        have h2 : Dv _ _ _ _ := h2
        have h3 : Dv _ _ _ _ := h3
        simp only [Dv] at h1 h2 h3
        subst h1; subst h2; subst h3
        exact ⟨i, j, k, _, rfl, ⟨hj.1, hj.2.1, hj.2.2.1, (Int.toNat_of_nonneg hj.2.2.2).symm⟩, q _ _ [] I' it_rangeC⟩
      · exact q.elim
    · exact q.elim) fun _ _ k => k⟩
end
/-! ### a written dict: texts to data -/
structure KTab (K : PySem.W.Frag) (w : World) (a : Addr) (tb : List (Str × D)) : Prop where
  kd : ∃ es n, KDict K w a es n
  get : ∀ z : Str, match tb.lookup z with
    | some d => ∃ u v, PySem.W.nsIn K a z = some (some u) ∧ RelV v u ∧ KV K d v
    | none => PySem.W.nsIn K a z = some none
def mTabIn (tb : List (Str × D)) (m : EM) : EM := fun ρ => (m ρ).bind fun r ρ' => match r with
  | .dat (.str z) => .ok (.dat (.bool (tb.lookup z).isSome)) ρ'
  | _ => .stuck
def mTabGet (tb : List (Str × D)) (m : EM) : EM := fun ρ => (m ρ).bind fun r ρ' => match r with
  | .dat (.str z) => ofO (tb.lookup z) fun d => .ok (.dat d) ρ'
  | _ => .stuck
section
variable {X : Cx} {W : WX} {e : Expr} {me : EM} {pos p : Pos} {x : Str} {a : Addr} {tb : List (Str × D)}
theorem ve_tabIn (T : KTab X.K X.w a tb) (hg : Gl X x) (hm : X.mg x = some (.ref a)) (he : VE X W e me) (hb : behindInMarks .In (.Name x p) = false := by rfl) (hd : (x == ("__debug__" : Str)) = false := by decide) :
    VE X W (.Compare e [.In] [.Name x p] pos) (mTabIn tb me) := by
  obtain ⟨es, n, kd⟩ := T.kd
  refine pe_imp (pe_cmpR (op_in_kd kd) he (pe_glob hg hm (v := .ref a) rfl hd) hb) fun σ H Q ⟨c, ad, ρ, I, h⟩ => ⟨c, ad, ρ, I, h.of_bind.mono (fun r ρ' q v H' p => ?_) fun _ _ k => k⟩
  split at q
  · rename_i z
    obtain ⟨I', e'⟩ := p
    simp only [Dv] at e'
    have g := T.get z
    cases w : tb.lookup z with
    | none =>
      rw [w] at g q
      exact ⟨z, none, e', rfl, g, q _ H' ⟨I', dv_bl⟩⟩
    | some d =>
      rw [w] at g q
      obtain ⟨u, v', g1, g2, g3⟩ := g
      exact ⟨z, some u, e', rfl, g1, q _ H' ⟨I', dv_bl⟩⟩
  · exact q.elim
theorem ve_tabGet (T : KTab X.K X.w a tb) (hg : Gl X x) (hm : X.mg x = some (.ref a)) (he : VE X W e me) (hs : PlainIx e := by exact fun _ _ => rfl) (hd : (x == ("__debug__" : Str)) = false := by decide) :
    VE X W (.Subscript (.Name x p) e pos) (mTabGet tb me) := by
  obtain ⟨es, n, kd⟩ := T.kd
  refine pe_imp (pe_ix ix_kdict (pe_glob hg hm (v := .ref a) rfl hd) he hs) fun σ H Q ⟨c, ad, ρ, I, h⟩ => ⟨c, ad, ρ, I, h.of_bind.mono (fun r ρ' q v H' p => ?_) fun _ _ k => k⟩
  split at q
  · rename_i z
    obtain ⟨d, ed, q⟩ := q.of_ofO
    obtain ⟨I', e'⟩ := p
    simp only [Dv] at e'
    have g := T.get z
    rw [ed] at g
    obtain ⟨u, v', g1, g2, g3⟩ := g
    exact ⟨a, z, v', rfl, e', ⟨es, n, u, kd.at_, kd.lit, g1, g2⟩, q v' H' ⟨I', g3 _⟩⟩
  · exact q.elim
end
/-! ### {k: n, ..}.get(e, m) -/
theorem merge_new {κ : Type} [DecidableEq κ] : ∀ (more acc : List (κ × V)), ((acc ++ more).map (·.1)).Nodup → more.foldl (fun acc kv => putK acc kv.1 kv.2) acc = acc ++ more
  | [], acc, _ => by rw [List.append_nil]; rfl
  | (k, v) :: r, acc, h => by
    have hn : (acc.any fun kv => decide (kv.1 = k)) = false := by
      rw [List.any_eq_false]
      intro p hp q
      have q := of_decide_eq_true q
      rw [List.map_append, List.map_cons] at h
      exact (List.nodup_append.mp h).2.2 p.1 (List.mem_map_of_mem hp) k List.mem_cons_self q
    have e : putK acc k v = acc ++ [(k, v)] := by
      unfold putK
      rw [if_neg (by rw [hn]; exact Bool.false_ne_true)]
    rw [List.foldl_cons]
    show r.foldl _ (putK acc k v) = _
    rw [e, merge_new r (acc ++ [(k, v)]) (by rw [List.append_assoc]; exact h), List.append_assoc]
    rfl
theorem val_tab (z : Str) : ∀ tb : List (Str × Int), valV (tb.map fun p => ((Sum.inr p.1 : Key), V.int p.2)) (Sum.inr z) = (tb.lookup z).map V.int
  | [] => rfl
  | (k, n) :: r => by
    unfold valV
    rw [List.map_cons, List.find?_cons, List.lookup_cons]
    by_cases e : z = k
    · subst e
      simp
    · have e1 : decide ((Sum.inr k : Key) = Sum.inr z) = false := decide_eq_false fun q => e (Sum.inr.inj q).symm
      have e2 : (z == k) = false := beq_eq_false_iff_ne.mpr e
      simp only [e1, e2]
      exact val_tab z r
def mDGet (tb : List (Str × Int)) (m : EM) (dft : Int) : EM := fun ρ => (m ρ).bind fun r ρ' => match r with
  | .dat (.str z) => .ok (.dat (.int ((tb.lookup z).getD dft))) ρ'
  | _ => .stuck
theorem tPairs_tab {σ : Sg} {H : Hp} : ∀ (tb : List (Str × Int)) {Q : List (V × V) → Hp → Prop}, Q (tb.map fun p => (V.str p.1, V.int p.2)) H → tPairs (tb.map fun p => (tC (.str p.1), tC (.int p.2))) σ H Q
  | [], _, h => h
  | p :: r, _, h => tPairs_tab r h
section
variable {X : Cx} {W : WX} {e : Expr} {me : EM} {pd apos cpos pk : Pos} {keys : List (Option Expr)} {values : List Expr} {dft : Int} {kk : Nat}
theorem ve_dget (tb : List (Str × Int)) (hu : X.A.units + 1 < cLine) (h : PPs X pd keys values (tb.map fun p => (tC (.str p.1), tC (.int p.2)))) (he : VE X W e me) (hnd : (tb.map fun p => (Sum.inr p.1 : Key)).Nodup) (h15 : tb.length ≤ 15)
    (hall : keys.all (·.isSome) = true := by rfl) (hl : keys.length = values.length := by rfl) (h0 : keys ≠ [] := by intro z; cases z) (hk15 : keys.length ≤ 15 := by decide) (m : M2 X (.Dict keys values pd) "get" apos e (.Constant (.int dft) kk pk) cpos := by exact ⟨rfl, rfl, rfl, rfl⟩) :
    VE X W (.Call (.Attribute (.Dict keys values pd) "get" apos) [e, .Constant (.int dft) kk pk] [] cpos) (mDGet tb me dft) :=
  pe_imp (pe_dget2 hu (pe_disp h hall hl h0 hk15) he pe_int m) fun σ H Q ⟨c, ad, ρ, I, h⟩ T hT => by
    refine tPairs_tab tb ?_
    refine ⟨upd_same, tb.map fun p => ((Sum.inr p.1 : Key), V.int p.2), by rw [List.map_map]; rfl, by rw [List.length_map]; exact h15, ?_⟩
    have em : mergeK [] (tb.map fun p => ((Sum.inr p.1 : Key), V.int p.2)) = tb.map fun p => ((Sum.inr p.1 : Key), V.int p.2) := by
      have := merge_new (tb.map fun p => ((Sum.inr p.1 : Key), V.int p.2)) [] (by rw [List.nil_append, List.map_map]; exact hnd)
      rwa [List.nil_append] at this
    rw [em, show upd (upd H T (.dK [])) T (.dK (tb.map fun p => ((Sum.inr p.1 : Key), V.int p.2))) = upd H T (.dK (tb.map fun p => ((Sum.inr p.1 : Key), V.int p.2))) from by
      funext b
      unfold upd
      split <;> rfl]
    have I1 := I.grow (Ext.upd (o := .dK (tb.map fun p => ((Sum.inr p.1 : Key), V.int p.2))) hT)
    have I2 : EnvOk X.K (c.keep T (.dK (tb.map fun p => ((Sum.inr p.1 : Key), V.int p.2)))) ad σ (upd H T (.dK (tb.map fun p => ((Sum.inr p.1 : Key), V.int p.2)))) ρ := by
      have post : Post X.K c ad σ (.frs (.lst [])) ρ (.ref T) (upd H T (.lst [])) := (NewP.lst (W := Wr c ad ρ) (H := H) hT .nil).post I
      obtain ⟨p, ep, Ip, h0', hx', _⟩ := post
      cases ep
      have Ik : EnvOk X.K ((c.keep T (.lst [])).hold []) ad σ (upd H T (.lst [])) ρ := ⟨Ip.len, Ip.dat, Ip.own, Ip.par, Ip.at_, Ip.inj, Ip.ext, Ip.fr, Ip.gh, Ip.pex, fun q hq => by
        rcases List.mem_cons.mp hq with rfl | hq
        · exact upd_same
        · exact Ip.kpe q hq⟩
      have := Ik.rekeep (o' := .dK (tb.map fun p => ((Sum.inr p.1 : Key), V.int p.2))) (g' := []) hx' h0' (fun q hq => nomatch hq)
      rwa [show upd (upd H T (.lst [])) T (HO.dK (tb.map fun p => ((Sum.inr p.1 : Key), V.int p.2))) = upd H T (.dK (tb.map fun p => ((Sum.inr p.1 : Key), V.int p.2))) from by
        funext b
        unfold upd
        split <;> rfl] at this
    refine ⟨T, rfl, .inl ⟨_, .inl upd_same⟩, _, ad, ρ, I2, h.of_bind.mono (fun r ρ' q y H2 p => ?_) fun x ρ' k cls d H2 hx => k cls d H2 ⟨hx.1.less rfl rfl rfl (fun _ w => .inl w) (fun _ h => h) (fun _ h => List.mem_cons_of_mem _ h), hx.2.1, ?_⟩⟩
    · split at q
      · rename_i z
        obtain ⟨I3, ez⟩ := p
        simp only [Dv] at ez
        subst ez
        refine ⟨(tb.lookup z).map V.int, .inl ⟨_, Sum.inr z, .inl (I3.kpe _ List.mem_cons_self), rfl, (val_tab z tb).symm⟩, ?_⟩
        have I4 : EnvOk X.K c ad σ H2 ρ' := I3.less rfl rfl rfl (fun _ w => .inl w) (fun _ h => h) (fun _ h => List.mem_cons_of_mem _ h)
        refine q _ H2 ⟨I4, ?_⟩
        cases tb.lookup z <;> exact dv_int
      · exact q.elim
    · refine hx.2.2.imp id fun ⟨dd, fs, a1, a2, a3⟩ => ⟨dd, fs, a1, a2, a3.ext (hid_mono fun a o n q => ⟨fun w => n (w.imp .inl id), q⟩) _ _⟩
end
/-! ### x.upper() -/
def mUpper (m : EM) : EM := fun ρ => (m ρ).bind fun r ρ' => match r with
  | .dat (.str z) => if z.length ≤ 5592405 then .ok (.dat (.str (Txt.upper z))) ρ' else .stuck
  | _ => .stuck
section
variable {X : Cx} {W : WX} {e : Expr} {me : EM} {apos pos : Pos}
theorem ve_upper (he : VE X W e me) (hbase : attributeBase e "upper" X.env (eval e X.env) = eval e X.env := by rfl) (hline : (apos.endLine == pos.line) = true := by rfl) : VE X W (.Call (.Attribute e "upper" apos) [] [] pos) (mUpper me) :=
  pe_imp (pe_upper he hbase hline) fun σ H Q ⟨c, ad, ρ, I, h⟩ => ⟨c, ad, ρ, I, h.of_bind.mono (fun r ρ' q v H' p => by
    split at q
    · rename_i z
      split at q
      · rename_i hz
        obtain ⟨I', e⟩ := p
        simp only [Dv] at e
        exact ⟨⟨z, e⟩, z, e, rfl, hz, q _ H' ⟨I', dv_str⟩⟩
      · exact q.elim
    · exact q.elim) fun _ _ k => k⟩
end
end Vl

set_option Elab.async false
set_option linter.all false
set_option maxRecDepth 100000
namespace Vl
open PySem PySem.Spec PyProof.Rows L2

/-! ### sequences of three kinds, drawn from -/
inductive Sk where
  | lst (a : Addr)
  | tup (a : Addr)
  | str (x : Str)
def Sk.v : Sk → V
  | .lst a => .ref a
  | .tup a => .ref a
  | .str x => .str x
def SkAt (K : PySem.W.Frag) (H : Hp) : Sk → List V → Prop
  | .lst a, xs => SqL K H a xs
  | .tup a, xs => SqT K H a xs
  | .str x, xs => xs = x.cps.toList.map fun c => .str ⟨#[c]⟩
def SkIt (t : Tok) : Sk → Nat → Addr → Heap → Prop
  | .lst a, i, it, h => h.IsListIter it a i ∧ a ≠ it
  | .tup a, i, it, h => h.IsTupleIter it a i ∧ a ≠ it
  | .str x, i, it, h => h.IsStrIter it (strIterType x) x t i
theorem SkIt.obj {t : Tok} {k : Sk} {i : Nat} {it : Addr} {h : Heap} (st : SkIt t k i it h) : ∃ o, h.get? it = some o ∧ ∀ v, o.data ≠ .cell v := by
  cases k with
  | lst a => obtain ⟨⟨o, e, _, d⟩, _⟩ := st; exact ⟨o, e, fun v q => by rw [d] at q; cases q⟩
  | tup a => obtain ⟨⟨o, e, _, d⟩, _⟩ := st; exact ⟨o, e, fun v q => by rw [d] at q; cases q⟩
  | str x => obtain ⟨o, e, _, d⟩ := st; exact ⟨o, e, fun v q => by rw [d] at q; cases q⟩
theorem SkIt.keep {t : Tok} {k : Sk} {i : Nat} {it : Addr} {h h' : Heap} (st : SkIt t k i it h) (kp : ∀ o, h.get? it = some o → h'.get? it = some o) : SkIt t k i it h' := by
  cases k with
  | lst a => obtain ⟨⟨o, e, q⟩, n⟩ := st; exact ⟨⟨o, kp o e, q⟩, n⟩
  | tup a => obtain ⟨⟨o, e, q⟩, n⟩ := st; exact ⟨⟨o, kp o e, q⟩, n⟩
  | str x => obtain ⟨o, e, q⟩ := st; exact ⟨o, kp o e, q⟩
theorem vals_getL : ∀ {xs : List V} {us : List Value} {i : Nat} {u : Value}, Vals xs us → us[i]? = some u → ∃ x, xs[i]? = some x ∧ RelV x u
  | _, _, _, _, .nil, e => by simp at e
  | _, _, 0, _, .cons r _, e => by simp at e; subst e; exact ⟨_, rfl, r⟩
  | _, _, i + 1, _, .cons _ t, e => by
    obtain ⟨x, h1, h2⟩ := vals_getL (i := i) t (by simpa using e)
    exact ⟨x, by simpa using h1, h2⟩
section
variable {X : Cx} {pins : List (Addr × Obj)} {σ : Sg} {H : Hp} {s : Shared}
/-- what stands there is told once -/
theorem SkAt.inj (I : Inv X pins σ H s) {k : Sk} {xs ys : List V} (h : SkAt X.K H k xs) (h' : SkAt X.K H k ys) : xs = ys := by
  cases k with
  | lst a => exact I.list_inj h h'
  | tup a => exact I.tuple_inj h h'
  | str x => exact h.trans h'.symm
theorem sk_draws {A : Around} (hh : A.handled = none) (I : Inv X pins σ H s) {k : Sk} {xs : List V} {t : Tok} {i : Nat} {it : Addr} (hx : SkAt X.K H k xs) (st : SkIt t k i it s.heap) :
    ∃ (fp : List Addr) (P : Nat → Value → Prop) (St : Nat → Heap → Prop), Draws X.prog X.w A it fp xs.length P St ∧ St i s.heap ∧ it ∈ fp ∧ (∀ j u, P j u → ∃ x, xs[j]? = some x ∧ RelV x u) ∧ (∀ j h, St j h → SkIt t k j it h) ∧ ∀ b ∈ fp, b ≠ it → k.v = .ref b := by
  cases k with
  | lst a =>
    obtain ⟨h1, h2⟩ := st
    obtain ⟨its, rv, p, _⟩ := I.list hx
    have hl : its.toArray.size = xs.length := by rw [List.size_toArray]; exact rv.length.symm
    have D := Draws.list (prog := X.prog) (w := X.w) (A := A) hh it a h2 its.toArray
    rw [hl] at D
    refine ⟨_, _, _, D, ⟨h1, p.isList⟩, List.mem_cons_self, fun j u hj => ?_, fun j h hj => ⟨hj.1, h2⟩, fun b hb n => ?_⟩
    · have hj : its[j]? = some u := by simpa using hj
      obtain ⟨x, e1, e2⟩ := vals_getL rv hj
      exact ⟨x, e1, e2⟩
    · have e : b = a := by
        have := hb
        simp at this
        exact this.resolve_left n
      rw [e]; rfl
  | tup a =>
    obtain ⟨h1, h2⟩ := st
    obtain ⟨its, rv, p, _⟩ := I.tuple hx
    have hl : its.toArray.size = xs.length := by rw [List.size_toArray]; exact rv.length.symm
    have D := Draws.tuple (prog := X.prog) (w := X.w) (A := A) hh it a h2 its.toArray
    rw [hl] at D
    refine ⟨_, _, _, D, ⟨h1, p⟩, List.mem_cons_self, fun j u hj => ?_, fun j h hj => ⟨hj.1, h2⟩, fun b hb n => ?_⟩
    · have hj : its[j]? = some u := by simpa using hj
      obtain ⟨x, e1, e2⟩ := vals_getL rv hj
      exact ⟨x, e1, e2⟩
    · have e : b = a := by
        have := hb
        simp at this
        exact this.resolve_left n
      rw [e]; rfl
  | str x =>
    have hx : xs = x.cps.toList.map fun c => V.str ⟨#[c]⟩ := hx
    have hl : x.cps.size = xs.length := by rw [hx, List.length_map, Array.length_toList]
    have D := Draws.text (prog := X.prog) (w := X.w) (A := A) hh it x t
    rw [hl] at D
    refine ⟨_, _, _, D, st, List.mem_cons_self, fun j u hj => ?_, fun j h hj => hj, fun b hb n => ?_⟩
    · obtain ⟨c, tk, e1, rfl⟩ := hj
      refine ⟨.str ⟨#[c]⟩, ?_, ⟨tk, rfl⟩⟩
      rw [hx, List.getElem?_map, Array.getElem?_toList, e1]
      rfl
    · simp at hb; exact absurd hb n
end

def SkLt (N : Addr) : Sk → Prop
  | .lst a => a < N
  | .tup a => a < N
  | .str _ => True
theorem SkLt.ref {N : Addr} {k : Sk} {b : Addr} (h : SkLt N k) (e : k.v = .ref b) : b < N := by
  cases k with
  | lst a => cases e; exact h
  | tup a => cases e; exact h
  | str x => cases e
/-! ### enumerate -/
def ItE (K : PySem.W.Frag) (k : Sk) (k0 : Int) : It :=
  ⟨fun i H => ∃ xs x, SkAt K H k xs ∧ xs[i]? = some x, fun i H v H' => ∃ T x, v = .ref T ∧ H T = none ∧ H' = upd H T (.tup [.int (k0 + (i : Nat)), x]) ∧ ∀ xs, SkAt K H k xs → xs[i]? = some x, fun i H => ∃ xs, SkAt K H k xs ∧ i = xs.length⟩
theorem turn_en {P : Program} {w : World} {K : PySem.W.Frag} {elts : List Expr} {kk : Nat} {tpos : Pos} (k : Sk) (t : Tok) (N : Addr) (hk : SkLt N k) (k0 : Int) :
    Turn P w K (.Tuple elts kk tpos) (ItE K k k0) [N + 1, N] (N + 1) (fun i h => (∃ old, IsEnum h (N + 1) N (k0 + (i : Int)) old) ∧ SkIt t k i N h) where
  mem := by simp
  obj := fun i h st b hb => by
    obtain ⟨⟨old, he⟩, hi⟩ := st
    have e' : b = N + 1 ∨ b = N := by simpa using hb
    rcases e' with z | z
    · rw [z]; exact ⟨_, he, fun v q => nomatch q⟩
    · rw [z]; exact hi.obj
  keep := fun i h h' st kp => let ⟨⟨old, he⟩, hi⟩ := st; ⟨⟨old, kp (N + 1) (by simp) _ he⟩, hi.keep fun o q => kp N (by simp) o q⟩
  item := by
    intro X hP hw hK hc i pins s σ H E I hf st hg
    subst hP hw hK
    obtain ⟨he, hi⟩ := st
    obtain ⟨xs, x, hq, hx⟩ := hg
    obtain ⟨fp, P', St', D, h1, h2, h3, h4, h5⟩ := sk_draws (A := X.A.in1) (I.ok.hd hc) I hq hi
    have ne : N + 1 ≠ N := Nat.succ_ne_self N
    have nf : N + 1 ∉ fp := fun m => absurd (hk.ref (h5 _ m ne)) (Nat.not_lt.mpr (Nat.le_succ N))
    have hil : i < xs.length := (List.getElem?_eq_some_iff.mp hx).1
    refine (GoesN.enumFrom (elts := elts) (x1 := kk) (pos := tpos) k0 D (N + 1) ne nf h2).goes i s _ E hil ⟨he, h1⟩ fun v h' tk hY st' hkp htk => ?_
    obtain ⟨T, tt, u, rfl, hT, hPu, o, ho, hoc, n, hod⟩ := hY
    obtain ⟨x', ex, ru⟩ := h3 i u hPu
    rw [hx] at ex; cases ex
    have new : ObjOk X.prog X.w (upd H T (.tup [.int (k0 + (i : Nat)), x])) h' T (.tup [.int (k0 + (i : Nat)), x]) := ⟨by show 2 ≤ sizeLine; decide, [.int (k0 + (i : Nat)) tt, u], .cons ⟨_, rfl⟩ (.cons ru .nil), ⟨o, ho, hoc, n, hod⟩⟩
    have hn : H T = none := I.hok.fresh hT
    refine ⟨.ref T, _, I.turnedNew (t' := tk) (ch := [N + 1, N]) hkp hf hT new, rfl, ⟨T, x, rfl, hn, rfl, fun ys hy => by rw [SkAt.inj I hy hq]; exact hx⟩, ⟨st'.1, h4 _ _ st'.2⟩, fun b hb => ?_⟩
    have hlt : b < s.heap.objs.size := by
      have e' : b = N + 1 ∨ b = N := by simpa using hb
      rcases e' with z | z
      · rw [z]; obtain ⟨old, he⟩ := he; exact Heap.lt_size he
      · rw [z]; obtain ⟨o, e, _⟩ := hi.obj; exact Heap.lt_size e
    rw [upd_ne (Nat.ne_of_lt (Nat.lt_of_lt_of_le hlt hT))]
    exact (hf b hb).1
  done := by
    intro X hP hw hK hc i pins s σ H E I hf st hg
    subst hP hw hK
    obtain ⟨he, hi⟩ := st
    obtain ⟨xs, hq, rfl⟩ := hg
    obtain ⟨fp, P', St', D, h1, h2, h3, h4, h5⟩ := sk_draws (A := X.A.in1) (I.ok.hd hc) I hq hi
    have ne : N + 1 ≠ N := Nat.succ_ne_self N
    have nf : N + 1 ∉ fp := fun m => absurd (hk.ref (h5 _ m ne)) (Nat.not_lt.mpr (Nat.le_succ N))
    exact (GoesN.enumFrom (elts := elts) (x1 := kk) (pos := tpos) k0 D (N + 1) ne nf h2).stops s _ E ⟨he, h1⟩ fun h' tk hkp htk => I.turnedL (ch := [N + 1, N]) hkp hf
  self := fun A i s Q E st h => let ⟨⟨_, he⟩, _⟩ := st; wpAny_pyIter_enum he h
set_option maxHeartbeats 1000000 in
theorem meets_enum1 {v : Value} {o : Obj} {H : Heap → Prop} (B : Begins v o H) :
    Meets (Builtin.«enumerate.__new__» ⟨[.type "enumerate", v], []⟩) (fun _ R s => H s.heap ∧
      R (.ok (.ret (.ref (s.heap.push o).objs.size))) { s with heap := (s.heap.push o).push { cls := .type "enumerate", data := .fields #[.none, .bool false, .ref s.heap.objs.size, rawInt 0, .none, .none] } }) :=
  .of_wp fun prog w A R s h => by
    obtain ⟨hp, g, d, tk, os⟩ := s; obtain ⟨h1, h⟩ := h
    have hsub := sub_enumerate
    have q1 : ∀ {A' : Around} {E : Value → Shared → Prop} {Q : Value → Shared → Prop}, Q (.ref hp.objs.size) ⟨hp.push o, g, d, tk, os⟩ → wpAny (model prog w) A' (pyIter v) Q E ⟨hp, g, d, tk, os⟩ :=
      fun q => B.iter prog w _ _ ⟨hp, g, d, tk, os⟩ _ h1 q
    wp_walk using q1
    refine wpAny_stack_any fun st => wpAny_pure ?_
    split
    · rename_i c _ _ _ _ _
      cases (c == Value.type "enumerate")
      · wp_walk using q1
        exact ⟨_, rfl, h⟩
      · wp_walk using q1
        exact ⟨_, rfl, h⟩
    · wp_walk using q1
      exact ⟨_, rfl, h⟩
theorem enum_begin1 {prog : Program} {w : World} {A : Around} {E : Value → Shared → Prop} {s : Shared} {v : Value} {o : Obj} {H : Heap → Prop} {Q : Value → Shared → Prop} (B : Begins v o H) (h1 : H s.heap)
    (h : ∀ h', IsEnum h' (s.heap.objs.size + 1) s.heap.objs.size 0 .none → h'.get? s.heap.objs.size = some o → (∀ b o, s.heap.get? b = some o → h'.get? b = some o) → Q (.ref (s.heap.objs.size + 1)) { s with heap := h' }) :
    wpAny (model prog w) A (call (.type "enumerate") [v]) Q E s := by
  refine callType_new F.called_enumerate (by decide) (F.typeCall_enumerate_1 _) (F.newCall_enumerate_1 _) (fun obj => F.args_object_init_2 obj _) F.entry_enumerate_new (meets_enum1 B) ⟨h1, ?_⟩
  have hz : (s.heap.push o).objs.size = s.heap.objs.size + 1 := Heap.size_push ..
  show _ ∧ _
  rw [hz]
  have he : IsEnum ((s.heap.push o).push { cls := .type "enumerate", data := .fields #[.none, .bool false, .ref s.heap.objs.size, rawInt 0, .none, .none] }) (s.heap.objs.size + 1) s.heap.objs.size 0 .none := by
    have := Heap.get?_push_size (s.heap.push o) (o := { cls := .type "enumerate", data := .fields #[.none, .bool false, .ref s.heap.objs.size, rawInt 0, .none, .none] }) rfl
    rw [hz] at this; exact this
  exact ⟨⟨_, he, rfl⟩, h _ he (Heap.get?_push_of_some _ (Heap.get?_push_size _ B.free)) fun b o x => Heap.get?_push_of_some _ (Heap.get?_push_of_some _ x)⟩
/-- its iterator's object -/
theorem sk_begins {X : Cx} {pins : List (Addr × Obj)} {σ : Sg} {H : Hp} {s : Shared} (I : Inv X pins σ H s) {k : Sk} {xs : List V} {v : Value} (hx : SkAt X.K H k xs) (r : RelV k.v v) :
    ∃ (t : Tok) (o : Obj) (Hh : Heap → Prop), Begins v o Hh ∧ Hh s.heap ∧ (∀ (h : Heap) (it : Addr), s.heap.objs.size ≤ it → h.get? it = some o → SkIt t k 0 it h) ∧ SkLt s.heap.objs.size k := by
  cases k with
  | lst a =>
    cases r
    obtain ⟨its, rv, p, _⟩ := I.list hx
    exact ⟨default, _, _, begins_list a its.toArray, p.isList, fun h it hle e => ⟨⟨_, e, rfl, rfl⟩, Nat.ne_of_lt (Nat.lt_of_lt_of_le p.lt hle)⟩, p.lt⟩
  | tup a =>
    cases r
    obtain ⟨its, rv, p, _⟩ := I.tuple hx
    have hlt : a < s.heap.objs.size := by obtain ⟨o, e, _⟩ := id p; exact Heap.lt_size e
    exact ⟨default, _, _, begins_tuple a its.toArray, p, fun h it hle e => ⟨⟨_, e, rfl, rfl⟩, Nat.ne_of_lt (Nat.lt_of_lt_of_le hlt hle)⟩, hlt⟩
  | str x =>
    obtain ⟨t, rfl⟩ := r
    exact ⟨t, _, _, begins_text x t, trivial, fun h it hle e => ⟨_, e, rfl, rfl⟩, trivial⟩
def iEn (K : PySem.W.Frag) (ta : TA) : TI := fun σ H R => ta σ H fun vs H1 => ∃ k xs, vs = [Sk.v k] ∧ SkAt K H1 k xs ∧ R (ItE K k 0) H1
theorem pi_en {X : Cx} {e : Expr} {ta : TA} {p pos tpos : Pos} {elts : List Expr} {kk : Nat} (hg : Gl X "enumerate") (hm : X.mg "enumerate" = none) (ha : PA X [e] ta) (hs : starEach [e] X.env = [(false, eval e X.env)] := by rfl) :
    PI X (.Tuple elts kk tpos) (.Call (.Name "enumerate" p) [e] [] pos) (iEn X.K ta) := by
  refine ⟨fun pins s σ H R I h => Call_ (ld_blt I hg hm PyProof.Rows.boot_enumerate (PyProof.Rows.callWith_type1 (thn (ha.run pos pins s σ H _ I h) fun us s1 hu => ?_) hs rfl))⟩
  obtain ⟨vs, H1, I1, r1, k, xs, ex, hq, q⟩ := hu
  subst ex
  cases r1 with
  | cons r rr =>
    cases rr
    obtain ⟨t, o, Hh, B, b1, b2, b3⟩ := sk_begins I1 hq r
    refine enum_begin1 B b1 fun h' he ho hk => wpAny_pyIter_enum he ?_
    have I2 : Inv X pins σ H1 { s1 with heap := h' } := I1.kept (t' := s1.toks) hk
    refine ⟨s1.heap.objs.size + 1, [s1.heap.objs.size + 1, s1.heap.objs.size], _, _, H1, rfl, I2, turn_en k t s1.heap.objs.size b3 0, ⟨⟨.none, he⟩, b2 _ _ (Nat.le_refl _) ho⟩, fun b hb => ?_, q⟩
    have hle : s1.heap.objs.size ≤ b := by
      have e' : b = s1.heap.objs.size + 1 ∨ b = s1.heap.objs.size := by simpa using hb
      rcases e' with z | z
      · rw [z]; exact Nat.le_add_right _ _
      · rw [z]; exact Nat.le_refl _
    exact I1.fpOk hle (I1.hok.fresh hle)
end Vl

set_option Elab.async false
set_option linter.all false
set_option maxRecDepth 100000
namespace Vl
open PySem PySem.Spec PyProof.Rows L2

/-! ### zip of two -/
def ItZ (K : PySem.W.Frag) (k1 k2 : Sk) : It :=
  ⟨fun i H => ∃ xs ys x y, SkAt K H k1 xs ∧ SkAt K H k2 ys ∧ xs[i]? = some x ∧ ys[i]? = some y,
    fun i H v H' => ∃ T x y, v = .ref T ∧ H T = none ∧ H' = upd H T (.tup [x, y]) ∧ (∀ xs, SkAt K H k1 xs → xs[i]? = some x) ∧ ∀ ys, SkAt K H k2 ys → ys[i]? = some y,
    fun i H => ∃ xs ys, SkAt K H k1 xs ∧ SkAt K H k2 ys ∧ i = min xs.length ys.length⟩
theorem zip_sep {N : Nat} {fp1 fp2 : List Addr} (m1 : N ∈ fp1) (m2 : N + 1 ∈ fp2) (l1 : ∀ b ∈ fp1, b ≠ N → b < N) (l2 : ∀ b ∈ fp2, b ≠ N + 1 → b < N) : ZipSep2 (N + 4) (N + 2) (N + 3) N (N + 1) fp1 fp2 where
  TIz := show (N + 2 : Nat) ≠ N + 4 by omega
  TOz := show (N + 3 : Nat) ≠ N + 4 by omega
  TITO := show (N + 2 : Nat) ≠ N + 3 by omega
  TIi1 := show (N + 2 : Nat) ≠ N by omega
  mem1 := m1
  zf1 := fun m => absurd (l1 _ m (show (N + 4 : Nat) ≠ N by omega)) (show ¬ (N + 4 : Nat) < N by omega)
  Tf1 := fun m => absurd (l1 _ m (show (N + 3 : Nat) ≠ N by omega)) (show ¬ (N + 3 : Nat) < N by omega)
  TIi2 := show (N + 2 : Nat) ≠ N + 1 by omega
  mem2 := m2
  zf2 := fun m => absurd (l2 _ m (show (N + 4 : Nat) ≠ N + 1 by omega)) (show ¬ (N + 4 : Nat) < N by omega)
  Tf2 := fun m => absurd (l2 _ m (show (N + 3 : Nat) ≠ N + 1 by omega)) (show ¬ (N + 3 : Nat) < N by omega)
  sep1_2 := fun m => absurd (l2 _ m (show (N : Nat) ≠ N + 1 by omega)) (show ¬ (N : Nat) < N by omega)
  sep2_1 := fun m => absurd (l1 _ m (show (N + 1 : Nat) ≠ N by omega)) (show ¬ (N + 1 : Nat) < N by omega)
theorem turn_z2 {P : Program} {w : World} {K : PySem.W.Frag} {elts : List Expr} {kk : Nat} {tpos : Pos} (k1 k2 : Sk) (t1 t2 : Tok) (N : Nat) (hk1 : SkLt N k1) (hk2 : SkLt N k2) :
    Turn P w K (.Tuple elts kk tpos) (ItZ K k1 k2) [N + 4, N + 2, N + 3, N, N + 1] (N + 4)
      (fun i h => IsZip h (N + 4) (N + 2) (N + 3) .none ∧ IsTupOf2 h (N + 2) (.ref N) (.ref (N + 1)) ∧ (∃ a1 a2, IsTupOf2 h (N + 3) a1 a2) ∧ SkIt t1 k1 i N h ∧ SkIt t2 k2 i (N + 1) h) where
  mem := by simp
  obj := fun i h st b hb => by
    obtain ⟨hz, hTI, ⟨x, y, hTO⟩, h1, h2⟩ := st
    have e' : b = N + 4 ∨ b = N + 2 ∨ b = N + 3 ∨ b = N ∨ b = N + 1 := by simpa using hb
    rcases e' with q | q | q | q | q
    · rw [q]; exact ⟨_, hz, fun v q => nomatch q⟩
    · rw [q]; exact ⟨_, hTI, fun v q => nomatch q⟩
    · rw [q]; exact ⟨_, hTO, fun v q => nomatch q⟩
    · rw [q]; exact h1.obj
    · rw [q]; exact h2.obj
  keep := fun i h h' st k => by
    obtain ⟨hz, hTI, ⟨x, y, hTO⟩, h1, h2⟩ := st
    exact ⟨k (N + 4) (by simp) _ hz, k (N + 2) (by simp) _ hTI, ⟨x, y, k (N + 3) (by simp) _ hTO⟩, h1.keep fun o q => k N (by simp) o q, h2.keep fun o q => k (N + 1) (by simp) o q⟩
  item := by
    intro X hP hw hK hc i pins s σ H E I hf st hg
    subst hP hw hK
    obtain ⟨hz, hTI, hTO, h1, h2⟩ := st
    obtain ⟨xs, ys, x, y, hq1, hq2, hx, hy⟩ := hg
    obtain ⟨fp, P1, St1, D1, a1, a2, a3, a4, a5⟩ := sk_draws (A := X.A.in1) (I.ok.hd hc) I hq1 h1
    obtain ⟨fq, P2, St2, D2, b1, b2, b3, b4, b5⟩ := sk_draws (A := X.A.in1) (I.ok.hd hc) I hq2 h2
    have S := zip_sep a2 b2 (fun b m n => hk1.ref (a5 b m n)) (fun b m n => hk2.ref (b5 b m n))
    have l1 : i < xs.length := (List.getElem?_eq_some_iff.mp hx).1
    have l2 : i < ys.length := (List.getElem?_eq_some_iff.mp hy).1
    have hpre : ∀ b ∈ [N + 4, N + 2, N + 3, N, N + 1], b < s.heap.objs.size := fun b hb => by
      have e' : b = N + 4 ∨ b = N + 2 ∨ b = N + 3 ∨ b = N ∨ b = N + 1 := by simpa using hb
      rcases e' with q | q | q | q | q
      · rw [q]; exact Heap.lt_size hz
      · rw [q]; exact Heap.lt_size hTI
      · rw [q]; obtain ⟨_, _, e⟩ := hTO; exact Heap.lt_size e
      · rw [q]; obtain ⟨o, e, _⟩ := h1.obj; exact Heap.lt_size e
      · rw [q]; obtain ⟨o, e, _⟩ := h2.obj; exact Heap.lt_size e
    refine (GoesN.zip2 (elts := elts) (x1 := kk) (pos := tpos) S D1 D2).goes i s _ E (by omega) ⟨hz, hTI, hTO, a1, b1⟩ fun v h' tk hY st' hkp htk => ?_
    obtain ⟨T, u1, u2, rfl, hT, p1, p2, o, ho, hoc, n, hod⟩ := hY
    obtain ⟨x', e1, r1⟩ := a3 i u1 p1
    obtain ⟨y', e2, r2⟩ := b3 i u2 p2
    rw [hx] at e1; cases e1
    rw [hy] at e2; cases e2
    have hkp' : ∀ b o, b ∉ [N + 4, N + 2, N + 3, N, N + 1] → s.heap.get? b = some o → h'.get? b = some o := fun b o nb e => hkp b o (fun m => nb (by
      have e' : b = N + 4 ∨ b = N + 3 ∨ b = N ∨ b = N + 1 := by simpa using m
      rcases e' with q | q | q | q <;> simp [q])) e
    have new : ObjOk X.prog X.w (upd H T (.tup [x, y])) h' T (.tup [x, y]) := ⟨by show 2 ≤ sizeLine; decide, [u1, u2], .cons r1 (.cons r2 .nil), ⟨o, ho, hoc, n, hod⟩⟩
    have hn : H T = none := I.hok.fresh hT
    refine ⟨.ref T, _, I.turnedNew (t' := tk) (ch := [N + 4, N + 2, N + 3, N, N + 1]) hkp' hf hT new, rfl, ⟨T, x, y, rfl, hn, rfl, fun zs hz => by rw [SkAt.inj I hz hq1]; exact hx, fun zs hz => by rw [SkAt.inj I hz hq2]; exact hy⟩, ⟨st'.1, st'.2.1, st'.2.2.1, a4 _ _ st'.2.2.2.1, b4 _ _ st'.2.2.2.2⟩, fun b hb => ?_⟩
    rw [upd_ne (Nat.ne_of_lt (Nat.lt_of_lt_of_le (hpre b hb) hT))]
    exact (hf b hb).1
  done := by
    intro X hP hw hK hc i pins s σ H E I hf st hg
    subst hP hw hK
    obtain ⟨hz, hTI, hTO, h1, h2⟩ := st
    obtain ⟨xs, ys, hq1, hq2, rfl⟩ := hg
    obtain ⟨fp, P1, St1, D1, a1, a2, a3, a4, a5⟩ := sk_draws (A := X.A.in1) (I.ok.hd hc) I hq1 h1
    obtain ⟨fq, P2, St2, D2, b1, b2, b3, b4, b5⟩ := sk_draws (A := X.A.in1) (I.ok.hd hc) I hq2 h2
    have S := zip_sep a2 b2 (fun b m n => hk1.ref (a5 b m n)) (fun b m n => hk2.ref (b5 b m n))
    refine (GoesN.zip2 (elts := elts) (x1 := kk) (pos := tpos) S D1 D2).stops s _ E ⟨hz, hTI, hTO, a1, b1⟩ fun h' tk hkp htk => I.turnedL (ch := [N + 4, N + 2, N + 3, N, N + 1]) (fun b o nb e => hkp b o (fun m => nb ?_) e) hf
    have e' : b = N + 4 ∨ b = N + 3 ∨ b = N ∨ b = N + 1 := by simpa using m
    rcases e' with q | q | q | q <;> simp [q]
  self := fun A i s Q E st h => wpAny_pyIter_zip st.1 h
def iZ2 (K : PySem.W.Frag) (ta : TA) : TI := fun σ H R => ta σ H fun vs H1 => ∃ k1 k2 xs ys, vs = [Sk.v k1, Sk.v k2] ∧ SkAt K H1 k1 xs ∧ SkAt K H1 k2 ys ∧ R (ItZ K k1 k2) H1
theorem pi_z2 {X : Cx} {e e2 : Expr} {ta : TA} {p pos tpos : Pos} {elts : List Expr} {kk : Nat} (hg : Gl X "zip") (hm : X.mg "zip" = none) (ha : PA X [e, e2] ta) (hs : starEach [e, e2] X.env = (false, eval e X.env) :: starEach [e2] X.env := by rfl) (hpl : (backTo pos (starEach [e2] X.env)).any (·.1) = false := by rfl) :
    PI X (.Tuple elts kk tpos) (.Call (.Name "zip" p) [e, e2] [] pos) (iZ2 X.K ta) := by
  refine ⟨fun pins s σ H R I h => Call_ (ld_blt I hg hm PyProof.Rows.boot_zip (PyProof.Rows.callWith_type1 (thn (ha.run pos pins s σ H _ I h) fun us s1 hu => ?_) hs hpl))⟩
  obtain ⟨vs, H1, I1, r1, k1, k2, xs, ys, ex, hq1, hq2, q⟩ := hu
  subst ex
  cases r1 with
  | cons r rr =>
    cases rr with
    | cons r' rr =>
      cases rr
      obtain ⟨t1, o1, Hh1, B1, b1, b2, b3⟩ := sk_begins I1 hq1 r
      obtain ⟨t2, o2, Hh2, B2, d1, d2, d3⟩ := sk_begins I1 hq2 r'
      refine zip_begins2 B1 B2 b1 d1 fun h' hz hTI hTO h1 h2 hsz hk => wpAny_pyIter_zip hz ?_
      have I2 : Inv X pins σ H1 { s1 with heap := h' } := I1.kept (t' := s1.toks) hk
      refine ⟨s1.heap.objs.size + 4, [s1.heap.objs.size + 4, s1.heap.objs.size + 2, s1.heap.objs.size + 3, s1.heap.objs.size, s1.heap.objs.size + 1], _, _, H1, rfl, I2, turn_z2 k1 k2 t1 t2 s1.heap.objs.size b3 d3, ⟨hz, hTI, ⟨_, _, hTO⟩, b2 _ _ (Nat.le_refl _) h1, d2 _ _ (Nat.le_add_right _ _) h2⟩, fun b hb => ?_, q⟩
      have hle : s1.heap.objs.size ≤ b := by
        have e' : b = s1.heap.objs.size + 4 ∨ b = s1.heap.objs.size + 2 ∨ b = s1.heap.objs.size + 3 ∨ b = s1.heap.objs.size ∨ b = s1.heap.objs.size + 1 := by simpa using hb
        rcases e' with z | z | z | z | z <;> rw [z] <;> first | exact Nat.le_add_right _ _ | exact Nat.le_refl _
      exact I1.fpOk hle (I1.hok.fresh hle)
/-! ### as what is walked -/
def SkFor : D → Sk → Prop
  | .list _, .lst _ => True
  | .tuple _, .tup _ => True
  | .str x, .str y => x = y
  | _, _ => False
theorem SkFor.eq {d : D} {k k' : Sk} (h : SkFor d k) (h' : SkFor d k') (e : k.v = k'.v) : k = k' := by
  cases d <;> cases k <;> cases k' <;> simp only [SkFor] at h h' <;> first | (cases e; rfl) | (subst h; subst h'; rfl)
/-- data that are a sequence, held -/
theorem sk_of {K : PySem.W.Frag} {H : Hp} {d : D} {ds : List D} {v : V} (e : itemsOf d = some ds) (h : Dv K H d v) : ∃ k xs, SkFor d k ∧ v = Sk.v k ∧ SkAt K H k xs ∧ DvAll K H ds xs := by
  cases d with
  | none => simp [itemsOf] at e
  | bool _ => simp [itemsOf] at e
  | int _ => simp [itemsOf] at e
  | dict _ => simp [itemsOf] at e
  | list es =>
    simp only [itemsOf] at e; cases e
    simp only [Dv] at h
    obtain ⟨a, xs, rfl, h1, h2⟩ := h
    exact ⟨.lst a, xs, trivial, rfl, SqL.of h1, h2⟩
  | tuple es =>
    simp only [itemsOf] at e; cases e
    simp only [Dv] at h
    obtain ⟨a, xs, rfl, h1, h2⟩ := h
    exact ⟨.tup a, xs, trivial, rfl, h1, h2⟩
  | str x =>
    simp only [itemsOf] at e; cases e
    simp only [Dv] at h
    refine ⟨.str x, _, rfl, h, rfl, ?_⟩
    unfold chars
    induction x.cps.toList with
    | nil => exact .nil
    | cons c r ih => exact .cons dv_str ih
theorem sk_held {K : PySem.W.Frag} {H : Hp} {d : D} {ds : List D} {k : Sk} (e : itemsOf d = some ds) (hk : SkFor d k) (h : Dv K H d (Sk.v k)) : ∃ xs, SkAt K H k xs ∧ DvAll K H ds xs := by
  obtain ⟨k', xs, h1, h2, h3, h4⟩ := sk_of e h
  have := hk.eq h1 h2
  subst this
  exact ⟨xs, h3, h4⟩
theorem SkAt.ext {K : PySem.W.Frag} {H H' : Hp} (e : Ext H H') {k : Sk} {xs : List V} (h : SkAt K H k xs) : SkAt K H' k xs := by
  cases k with
  | lst a => exact e.sqL h
  | tup a => exact e.sqT h
  | str x => exact h
def enD : Int → List D → List D
  | _, [] => []
  | i, d :: ds => .tuple [.int i, d] :: enD (i + 1) ds
theorem enD_get : ∀ {ds : List D} {k0 : Int} {i : Nat} {d : D}, (enD k0 ds)[i]? = some d → ∃ e, ds[i]? = some e ∧ d = .tuple [.int (k0 + i), e]
  | [], _, _, _, h => by simp [enD] at h
  | e :: ds, k0, 0, d, h => by
    simp [enD] at h
    exact ⟨e, rfl, by rw [← h]; simp⟩
  | e :: ds, k0, i + 1, d, h => by
    obtain ⟨e', h1, h2⟩ := enD_get (ds := ds) (k0 := k0 + 1) (i := i) (d := d) (by simpa [enD] using h)
    refine ⟨e', by simpa using h1, ?_⟩
    rw [h2]
    have : k0 + 1 + (i : Int) = k0 + ((i + 1 : Nat) : Int) := by omega
    rw [this]
theorem enD_len : ∀ (ds : List D) (k0 : Int), (enD k0 ds).length = ds.length
  | [], _ => rfl
  | _ :: ds, k0 => by show (enD _ ds).length + 1 = _; rw [enD_len ds]; rfl
def zipD : List D → List D → List D
  | a :: as, b :: bs => .tuple [a, b] :: zipD as bs
  | _, _ => []
theorem zipD_get : ∀ {as bs : List D} {i : Nat} {d : D}, (zipD as bs)[i]? = some d → ∃ a b, as[i]? = some a ∧ bs[i]? = some b ∧ d = .tuple [a, b]
  | [], _, _, _, h => by simp [zipD] at h
  | _ :: _, [], _, _, h => by simp [zipD] at h
  | a :: as, b :: bs, 0, d, h => by
    simp [zipD] at h
    exact ⟨a, b, rfl, rfl, h.symm⟩
  | a :: as, b :: bs, i + 1, d, h => by
    obtain ⟨a', b', h1, h2, h3⟩ := zipD_get (as := as) (bs := bs) (i := i) (d := d) (by simpa [zipD] using h)
    exact ⟨a', b', by simpa using h1, by simpa using h2, h3⟩
theorem zipD_len : ∀ (as bs : List D), (zipD as bs).length = min as.length bs.length
  | [], bs => by simp [zipD]
  | _ :: _, [] => by simp [zipD]
  | a :: as, b :: bs => by
    show (zipD as bs).length + 1 = _
    rw [zipD_len as bs, List.length_cons, List.length_cons]
    omega
/-- a new tuple, told as data -/
theorem pair_new {K : PySem.W.Frag} {c : Fx} {ad : Nat → Addr} {σ : Sg} {H : Hp} {ρ : List Sl} {ds : List D} {xs : List V} {T : Addr} (I : EnvOk K c ad σ H ρ) (hT : H T = none) (h : DvAll K (hid (Wr c ad ρ) H) ds xs) :
    Ext H (upd H T (.tup xs)) ∧ Dv K (hid (Wr c ad ρ) (upd H T (.tup xs))) (.tuple ds) (.ref T) := NewP.tup (W := Wr c ad ρ) (fun a w => I.wr w) hT h
theorem it_en {K : PySem.W.Frag} {d : D} {ds : List D} {k : Sk} {k0 : Int} (e : itemsOf d = some ds) (hk : SkFor d k) : ItOk K [(d, Sk.v k)] (ItE K k k0) (enD k0 ds) := by
  intro c i ad σ H ρ hg I
  obtain ⟨xs, h1, h2⟩ := sk_held e hk (I.gh _ (hg _ (List.mem_singleton.mpr rfl)))
  have h1' := h1.ext hid_ext
  refine ⟨fun hi => ⟨xs, h1', by rw [hi, enD_len, h2.length]⟩, fun d' hd => ?_⟩
  obtain ⟨y, g1, rfl⟩ := enD_get hd
  obtain ⟨x, x1, x2⟩ := h2.get g1
  refine ⟨⟨xs, x, h1', x1⟩, fun z H' hz => ?_⟩
  obtain ⟨T, x', rfl, hT, rfl, hx⟩ := hz
  have := hx xs h1'
  rw [x1] at this; cases this
  exact pair_new I hT (.cons dv_int (.one x2))
theorem it_z2 {K : PySem.W.Frag} {d1 d2 : D} {ds es : List D} {k1 k2 : Sk} (e1 : itemsOf d1 = some ds) (e2 : itemsOf d2 = some es) (hk1 : SkFor d1 k1) (hk2 : SkFor d2 k2) : ItOk K [(d1, Sk.v k1), (d2, Sk.v k2)] (ItZ K k1 k2) (zipD ds es) := by
  intro c i ad σ H ρ hg I
  obtain ⟨xs, h1, h2⟩ := sk_held e1 hk1 (I.gh _ (hg _ List.mem_cons_self))
  obtain ⟨ys, g1, g2⟩ := sk_held e2 hk2 (I.gh _ (hg _ (List.mem_cons_of_mem _ (List.mem_singleton.mpr rfl))))
  have h1' := h1.ext hid_ext
  have g1' := g1.ext hid_ext
  refine ⟨fun hi => ⟨xs, ys, h1', g1', by rw [hi, zipD_len, h2.length, g2.length]⟩, fun d' hd => ?_⟩
  obtain ⟨a, b, a1, b1, rfl⟩ := zipD_get hd
  obtain ⟨x, x1, x2⟩ := h2.get a1
  obtain ⟨y, y1, y2⟩ := g2.get b1
  refine ⟨⟨xs, ys, x, y, h1', g1', x1, y1⟩, fun z H' hz => ?_⟩
  obtain ⟨T, x', y', rfl, hT, rfl, hx, hy⟩ := hz
  have w1 := hx xs h1'
  have w2 := hy ys g1'
  rw [x1] at w1; cases w1
  rw [y1] at w2; cases w2
  exact pair_new I hT (.cons x2 (.one y2))
def mEn (m : AM) : IM := fun ρ => (m ρ).bind fun rs ρ' => match rs with
  | [.dat d] => ofO (itemsOf d) fun ds => .ok (enD 0 ds) ρ'
  | _ => .stuck
def mZip (m : AM) : IM := fun ρ => (m ρ).bind fun rs ρ' => match rs with
  | [.dat d1, .dat d2] => ofO (itemsOf d1) fun ds => ofO (itemsOf d2) fun es => .ok (zipD ds es) ρ'
  | _ => .stuck
section
variable {X : Cx} {W : WX} {e e2 : Expr} {elts : List Expr} {kk : Nat} {p pos tpos : Pos} {am : AM}
theorem vi_en (hg : Gl X "enumerate") (hm : X.mg "enumerate" = none) (ha : VA X W [e] am) (hs : starEach [e] X.env = [(false, eval e X.env)] := by rfl) : VI X W (.Tuple elts kk tpos) (.Call (.Name "enumerate" p) [e] [] pos) (mEn am) :=
  pi_imp (pi_en hg hm ha hs) fun σ H R ⟨c, ad, ρ, I, h⟩ => ⟨c, ad, ρ, I, h.of_bind.mono (fun rs ρ' q vs H' I' hv => by
    split at q
    · rename_i d
      obtain ⟨ds, ed, q⟩ := q.of_ofO
      obtain ⟨v, us, rfl, h1, h2⟩ := hv
      cases h2
      have h1 : Dv _ _ _ _ := h1
      obtain ⟨k, xs, k1, rfl, k2, k3⟩ := sk_of ed h1
      refine ⟨k, xs, rfl, k2.ext hid_ext, q _ _ [(d, Sk.v k)] (I'.hold fun p hp => by rw [List.mem_singleton.mp hp]; exact h1) (it_en ed k1)⟩
    · exact q.elim) fun _ _ k => k⟩
theorem vi_zip (hg : Gl X "zip") (hm : X.mg "zip" = none) (ha : VA X W [e, e2] am) (hs : starEach [e, e2] X.env = (false, eval e X.env) :: starEach [e2] X.env := by rfl) (hpl : (backTo pos (starEach [e2] X.env)).any (·.1) = false := by rfl) : VI X W (.Tuple elts kk tpos) (.Call (.Name "zip" p) [e, e2] [] pos) (mZip am) :=
  pi_imp (pi_z2 hg hm ha hs hpl) fun σ H R ⟨c, ad, ρ, I, h⟩ => ⟨c, ad, ρ, I, h.of_bind.mono (fun rs ρ' q vs H' I' hv => by
    split at q
    · rename_i d1 d2
      obtain ⟨ds, ed, q⟩ := q.of_ofO
      obtain ⟨es, ee, q⟩ := q.of_ofO
      obtain ⟨v, us, rfl, h1, v2, us2, rfl, h2, h3⟩ := hv
      cases h3
      have h1 : Dv _ _ _ _ := h1
      have h2 : Dv _ _ _ _ := h2
      obtain ⟨k, xs, k1, rfl, k2, k3⟩ := sk_of ed h1
      obtain ⟨l, ys, l1, rfl, l2, l3⟩ := sk_of ee h2
      refine ⟨k, l, xs, ys, rfl, k2.ext hid_ext, l2.ext hid_ext, q _ _ [(d1, Sk.v k), (d2, Sk.v l)] (I'.hold fun p hp => ?_) (it_z2 ed ee k1 l1)⟩
      rcases List.mem_cons.mp hp with rfl | hp
      · exact h1
      · rw [List.mem_singleton.mp hp]; exact h2
    · exact q.elim) fun _ _ k => k⟩
end
/-! ### a, b = x, y with plain names: a list stays the name's own -/
theorem EnvOk.toKeep {K : PySem.W.Frag} {c : Fx} {p : Addr} {o : HO} {g : List (D × V)} {ad : Nat → Addr} {σ : Sg} {H : Hp} {ρ : List Sl} (I : EnvOk K (c.plus p) ad σ H ρ) (h : H p = some o) (hg : ∀ q ∈ g, Dv K (hid (Wr (c.plus p) ad ρ) H) q.1 q.2) : EnvOk K ((c.keep p o).hold g) ad σ H ρ :=
  ⟨I.len, I.dat, I.own, I.par, I.at_, I.inj, I.ext, I.fr, fun q hq => (List.mem_append.mp hq).elim (hg q) (I.gh q), I.pex, fun q hq => (List.mem_cons.mp hq).elim (fun e => by rw [e]; exact h) (I.kpe q)⟩
def sPar (i j : Nat) (ma mb : EM) : SM := fun ρ => ofE (ma ρ) fun ra ρ1 => match ra with
  | .dat d => ofE (mb ρ1) fun rb ρ2 => oS (setR j rb ρ2) fun ρ3 => .nx (ρ3.set i (.dat d))
  | .frs (.lst ds) => ofE (noX (mb ρ1)) fun rb ρ2 => if i < ρ2.length then oS (setR j rb ρ2) fun ρ3 => .nx (ρ3.set i (.own (.lst ds))) else .stuck
  | _ => .stuck
theorem setR_len {i : Nat} {r : Res} {ρ ρ' : List Sl} (h : setR i r ρ = some ρ') : ρ'.length = ρ.length := by
  unfold setR at h
  split at h
  · cases r with
    | dat d => cases h; rw [List.length_set]
    | frs o => cases h; rw [List.length_set]
    | slt j =>
      dsimp only at h
      split at h
      · cases h; rw [List.length_set, List.length_set]
      · cases h
  · cases h
section
variable {X : Cx} {W : WX} {a b : Expr} {ma mb : EM} {px py pt pos : Pos} {kt k2 : Nat} {pt2 : Pos} {i j : Nat} {x y : Str}
theorem vs_par (hc : X.calm = true) (hN : X.N.Nodup) (hi : X.N[i]? = some x) (hj : X.N[j]? = some y) (hij : i ≠ j) (hx : X.env.scope.names.lookup x = some .local) (hy : X.env.scope.names.lookup y = some .local) (ha : VE X W a ma) (hb : VE X W b mb)
    (hw : swappedStores [.Tuple [.Name x px, .Name y py] kt pt] (.Tuple [a, b] k2 pt2) X.env = pure (some [x, y])) (hs : swapsWithSole [.Tuple [.Name x px, .Name y py] kt pt] (.Tuple [a, b] k2 pt2) pos.line X.env = pure false := by rfl)
    (h1 : starEach [a, b] X.env = (false, eval a X.env) :: starEach [b] X.env := by rfl) (h2 : starEach [b] X.env = (false, eval b X.env) :: starEach [] X.env := by rfl) :
    VS X W (.Assign [.Tuple [.Name x px, .Name y py] kt pt] (.Tuple [a, b] k2 pt2) pos) (sPar i j ma mb) :=
  ps_imp (ps_par hc hN hi hj hij hx hy (pa_cons ha (pa_cons hb pa_nil h2) h1) hw hs) fun D σ H ⟨c, ad, ρ, I, h⟩ => ⟨c, ad, ρ, I, h.ofE.mono (fun ra ρ1 q v H1 p1 => by
    cases ra with
    | slt k => exact q.elim
    | dat d =>
      obtain ⟨I1, d1⟩ := p1
      refine ⟨c.hold [(d, v)], ad, ρ1, I1.hold (fun p hp => by rw [List.mem_singleton.mp hp]; exact d1), q.ofE.mono (fun rb ρ2 q2 w H2 p2 => ?_) fun _ _ k => k.unhold⟩
      obtain ⟨ρ3, e3, q2⟩ := q2.oS
      obtain ⟨ad', I3⟩ := setR_ok e3 p2
      refine ⟨v, w, rfl, ?_⟩
      rw [List.set_comm _ _ hij]
      exact q2 ad' _ H2 (I3.unhold.setDat (I3.held (d, v) (List.mem_singleton.mpr rfl)))
    | frs o =>
      cases o with
      | obj C fs => exact q.elim
      | lst ds =>
        obtain ⟨p, rfl, I1, h0, hx, xs, hp, hd⟩ := p1
        refine ⟨(c.keep p (.lst xs)).hold (ds.zip xs), ad, ρ1, I1.toKeep hp (zip_held hd), ?_⟩
        have q' := q.ofE (ad := ad) (σ := σ)
        cases em : mb ρ1 with
        | stuck => rw [em] at q'; exact q'
        | exc y ρ2 => rw [em] at q'; exact q'.elim
        | ok rb ρ2 =>
          rw [em] at q'
          intro w H2 p2
          have q' : WantS X.K c W D (if i < ρ2.length then oS (setR j rb ρ2) fun ρ3 => .nx (ρ3.set i (.own (.lst ds))) else .stuck) := q'
          split at q'
          · rename_i hlt
            obtain ⟨ρ3, e3, q'⟩ := q'.oS
            obtain ⟨ad', I3⟩ := setR_ok e3 p2
            refine ⟨.ref p, w, rfl, ?_⟩
            rw [List.set_comm _ _ hij]
            have hl : xs.length = ds.length := hd.length.symm
            have I4 : EnvOk X.K (c.plus p) ad' (σ.set j (some w)) H2 ρ3 := I3.unkeep
            refine q' _ _ H2 (I4.setOwn (by rw [setR_len e3]; exact hlt) h0 hx ⟨xs, I3.kpe _ List.mem_cons_self, held_zip hl.symm fun q hq => I3.gh q (List.mem_append_left _ hq)⟩)
          · exact q'.elim) fun _ _ k => k⟩
end
/-! ### keywords, in the parameters' order -/
abbrev VK' (X : Cx) (W : WX) (kws : List Keyword) (m : AM) : Prop := PK X kws (tAm X.K W m)
section
variable {X : Cx} {W : WX} {e : Expr} {es : List Expr} {kws : List Keyword} {me : EM} {ms am ak : AM} {nm : Option Str} {kpos : Pos}
theorem pk_imp {t t' : TA} (h : PK X kws t) (g : ∀ σ H Q, t' σ H Q → t σ H Q) : PK X kws t' := ⟨fun p pins s σ H Q I q => h.run p pins s σ H Q I (g σ H Q q)⟩
theorem vk_nil : VK' X W [] aNil := pk_imp pk_nil fun σ H Q ⟨c, ad, ρ, I, h⟩ => h [] H I rfl
theorem vk_cons (ha : VE X W e me) (hr : VK' X W kws ms) : VK' X W (⟨nm, e, kpos⟩ :: kws) (aCons me ms) := pk_imp (pk_cons ha hr) fun _ _ _ => cons_red
variable {k : Nat} {f : Addr} {fd : FuncData} {ps : List Str} {fm : FM} {x : Str} {p pos : Pos}
/-- f(k1 = .., k2 = ..), all by names, in sequence -/
theorem ve_callK (F : FnV X.prog X.w X.K X.mg X.base k f fd ps fm) (hr : Room k X.A) (C : Cnd X W) (hg : Gl X x) (hm : X.mg x = some (.ref f)) (hk : PySem.W.keepIn X.K (.ref f) = true)
    (hb : ∀ (s : Shared) (ws : List Value), X.K.In s.heap → ws.length = ps.length → BindsTo s fd ⟨[], ps.zip ws⟩ (ps.zip ws))
    (ha : VK' X W kws ak) (hal : ∀ ρ rs ρ', ak ρ = .ok rs ρ' → rs.length = ps.length) (hall : (backToKw pos (keywordEach kws X.env)).all (·.1.isSome) = true := by rfl) (hks : (backToKw pos (keywordEach kws X.env)).filterMap (·.1) = ps := by rfl)
    (hdb : (x == ("__debug__" : Str)) = false := by decide) (hpl : ((backTo pos (starEach [] X.env)).any (·.1) || (backToKw pos (keywordEach kws X.env)).any (·.1.isNone)) = false := by rfl) :
    VE X W (.Call (.Name x p) [] kws pos) (mCall fm ak) := by
  refine ⟨fun pins s σ H Q I ⟨c, ad, ρ, E, h⟩ => ?_⟩
  rw [mCall_eq] at h
  have h := h.of_bind
  refine wpAny_Call_Name_kw (ld_glob I hg hm ?_ hdb)
  refine PySem.W.callWith_KW0 (h₀ := X.base) I.ok.mod.kin hk hall (thn (ha.run pos pins s σ H (fun vs H1 => ∃ rs ρ1, EnvOk X.K c ad σ H1 ρ1 ∧ HeldAll X.K c ad ρ1 H1 rs vs ∧ rs.length = ps.length ∧ Wants (callRes fm ρ1 rs) (OkQ X.K c ad σ Q) (ExQ X.K c ad σ W)) I ⟨c, ad, ρ, E, ?_⟩) fun us s1 ⟨vs, H1, I1, r, rs, ρ1, E1, hh, hl, q⟩ => ⟨I1.kIn, ?_⟩) hpl
  · cases q : ak ρ with
    | stuck => rw [q] at h; exact h
    | exc x ρ' => rw [q] at h; exact h
    | ok rs ρ' => rw [q] at h; exact fun vs H1 E1 hh => ⟨rs, ρ', E1, hh, hal ρ rs ρ' q, h⟩
  · have hl' : vs.length = ps.length := hh.len.trans hl
    have hus : us.length = ps.length := by rw [← r.length]; exact hl'
    rw [hks]
    exact call_of_code (run_v F hr C.gd C.tk (hb s1 us I1.kIn hus) I1 r hl' E1 hh q)
/-- an argument list's length -/
theorem al_nil : ∀ (ρ : List Sl) (rs : List Res) (ρ' : List Sl), aNil ρ = .ok rs ρ' → rs.length = 0 := fun ρ rs ρ' h => by cases h; rfl
theorem al_cons {n : Nat} (h : ∀ (ρ : List Sl) (rs : List Res) (ρ' : List Sl), ms ρ = .ok rs ρ' → rs.length = n) : ∀ (ρ : List Sl) (rs : List Res) (ρ' : List Sl), aCons me ms ρ = .ok rs ρ' → rs.length = n + 1 := fun ρ rs ρ' e => by
  unfold aCons Rg.bind at e
  cases e1 : me ρ with
  | stuck => rw [e1] at e; cases e
  | exc x r => rw [e1] at e; cases e
  | ok r ρ1 =>
    rw [e1] at e
    dsimp only at e
    cases e2 : fz r with
    | none => rw [e2] at e; cases e
    | some r' =>
      rw [e2] at e
      unfold ofO at e
      dsimp only at e
      cases e3 : ms ρ1 with
      | stuck => rw [e3] at e; cases e
      | exc x r => rw [e3] at e; cases e
      | ok rs' ρ2 =>
        rw [e3] at e
        cases e
        rw [List.length_cons, h _ _ _ e3]
end
end Vl

set_option Elab.async false
set_option linter.all false
set_option maxRecDepth 100000
namespace Vl
open PySem PySem.Spec PyProof.Rows L2

/-! ### the law's own call -/
/-- at the law's entry: nothing is owned -/
def Fx.top (H : Hp) : Fx where
  ex := fun _ => False
  H0 := H
  P := fun _ => False
  pa := fun _ => 0
  gh := []
  kp := []
  kpx := fun _ h => nomatch h
theorem top_env {K : PySem.W.Frag} {H : Hp} {a : Addr} {ns : List Int} (h : SqL K H a (ns.map V.int)) : EnvOk K (Fx.top H) (Fx.top H).pa [some (.ref a)] H [.dat (.dict (scr ns))] := by
  have no : ∀ {i : Nat} {o : Own}, ¬ ([Sl.dat (.dict (scr ns))][i]? = some (.own o) ∨ [Sl.dat (.dict (scr ns))][i]? = some (.par o)) := fun {i o} z => by
    cases i with
    | zero => rcases z with z | z <;> cases z
    | succ i => rcases z with z | z <;> simp at z
  have nw : ∀ b, ¬ Wr (Fx.top H) (Fx.top H).pa [.dat (.dict (scr ns))] b := fun b w => by
    rcases w with w | ⟨i, ⟨o, z⟩, _⟩
    · exact w
    · exact no z
  refine ⟨rfl, fun i d z => ?_, fun i o z => (no (.inl z)).elim, fun i o z => (no (.inr z)).elim, fun i o z => (no z).elim, fun i j ⟨o, z⟩ => (no z).elim, fun b w => w.elim, fun b o z _ => z, (fun p hp => nomatch hp), fun b w => w.elim, fun q hq => nomatch hq⟩
  cases i with
  | zero =>
    cases z
    refine ⟨.ref a, rfl, ?_⟩
    simp only [Dv]
    refine ⟨a, ns, rfl, ?_, rfl⟩
    have e : hid (Wr (Fx.top H) (Fx.top H).pa [.dat (.dict (scr ns))]) H = H := funext fun b => hid_of (nw b)
    rw [e]; exact h
  | succ i => simp at z
/-- the answer true, whatever is left -/
def Says (fm : FM) (n : Nat) : Prop := ∀ ns : List Int, ns.length ≤ n → ∃ outs, fm [.dat (.dict (scr ns))] = .ok (.dat (.bool true)) outs
theorem law_V {P : Program} {w : World} {K : PySem.W.Frag} {mg mb : Str → Option Value} {k n : Nat} {fa a : Addr} {fd : FuncData} {x : Str} {fm : FM} {s₁ : Shared} {vs : List Value} {ns : List Int} (KX : K.In s₁.heap) (hns : s₁.heap.Ns mainGlobals mg)
    (hb : s₁.heap.Ns builtinsNs mb) (hbb : ∀ y : Str, y ≠ "__name__" → mb y = bootBuiltins y) (hlim : s₁.heap.NoLimit) (hg : s₁.gens = #[]) (ha : s₁.heap.get? a = some { cls := .type "list", data := .seq vs.toArray }) (hi : IntsAre vs ns) (hl : ns.length ≤ n) (hn : n ≤ sizeLine)
    (hr : Room k callerA) (F : ∀ base : Heap, K.In base → base.Ns mainGlobals mg → FnV P w K mg base k fa fd [x] fm) (hbind : ∀ (s : Shared) (u : Value), BindsTo s fd ⟨[u], []⟩ [(x, u)]) (hS : Says fm n) :
    codeAny (model P w) callerA (.call (.ref fa) ⟨[.ref a], []⟩) (fun r s' => r = .ok (.ret (.bool true)) ∧ OldK s₁.heap s'.heap ∧ s'.os = s₁.os ∧ AllBare s'.gens) s₁ := by
  have rel := vals_ints hi
  have len := hi.length
  have hz : ns.length ≤ sizeLine := Nat.le_trans hl hn
  have go : ∀ H : Hp, Only H → SqL K H a (ns.map V.int) → HOk P w H s₁.heap → (∀ b, H b ≠ none → b = a) → (H a ≠ none → K.lookup a = none) →
      codeAny (model P w) callerA (.call (.ref fa) ⟨[.ref a], []⟩) (fun r s' => r = .ok (.ret (.bool true)) ∧ OldK s₁.heap s'.heap ∧ s'.os = s₁.os ∧ AllBare s'.gens) s₁ := by
    intro H only sq hok one nK
    have keepT : ∀ {b : Addr} {o : Obj}, s₁.heap.get? b = some o → H b = none → (hidT s₁.heap H).get? b = some o := fun e e' => hidT_get e e'
    have dictFree : ∀ {b : Addr} {o : Obj} {es : Array DictEntry} {ep : Nat}, s₁.heap.get? b = some o → o.data = .dict es ep → H b = none := fun {b o es ep} e d => by
      cases hb : H b with
      | none => rfl
      | some u =>
        have eb : b = a := one b (by rw [hb]; exact fun z => nomatch z)
        rw [eb, ha] at e
        cases e
        exact absurd (show Data.seq vs.toArray _ = Data.dict es ep from d) (fun z => nomatch z)
    have nsT : ∀ {b : Addr} {m : Str → Option Value}, s₁.heap.Ns b m → (hidT s₁.heap H).Ns b m := fun hm => by
      obtain ⟨o, es, ep, e, d, r⟩ := hm
      exact ⟨o, es, ep, keepT e (dictFree e d), d, r⟩
    have inT : K.In (hidT s₁.heap H) := fun b o e => keepT (KX b o e) (by
      cases hb : H b with
      | none => rfl
      | some u =>
        have eb : b = a := one b (by rw [hb]; exact fun z => nomatch z)
        rw [eb] at e hb
        have := nK (by rw [hb]; exact fun z => nomatch z)
        rw [e] at this
        cases this)
    have md : Mod K mg (hidT s₁.heap H) := by
      obtain ⟨mc, c1, c2⟩ := hlim
      exact ⟨inT, nsT hns, ⟨mb, nsT hb, hbb⟩, mc, nsT c1, c2⟩
    have e0 : Env0 P w K mg (hidT s₁.heap H) callerA [] s₁ H := ⟨rfl, md, fun b o e => of_hidT e, Nat.le_of_eq (hidT_size _ _), trivial, fun b hb => absurd (show b ∈ ([] : List Addr) from hb) (fun z => nomatch z), hok, .of_eq hg⟩
    obtain ⟨outs, hout⟩ := hS ns hl
    have run := (F _ inT (nsT hns)).run callerA [] s₁ H ⟨[.ref a], []⟩ [.ref a] [.ref a] (fun v _ => v = .bl true) (fun _ _ _ => False) (Fx.top H) [.dat (.dict (scr ns))] hr rfl e0 (hbind s₁ (.ref a)) (.cons rfl .nil) rfl rfl (top_env sq) (by
      rw [hout]
      intro ad σ v H' p
      have p2 := p.2
      simp only [Dv] at p2
      exact p2)
    refine codeAny_mono run fun r s' hrs => ?_
    cases r with
    | error e =>
      obtain ⟨_, _, _, _, _, _, _, _, _, _, _, _, z⟩ := hrs
      exact z.elim
    | ok fl =>
      cases fl with
      | next => exact False.elim hrs
      | brk => exact False.elim hrs
      | cont => exact False.elim hrs
      | ret u =>
        obtain ⟨v, H', os, bare, un, hok', rv, qv⟩ := hrs
        have qv : v = .bl true := qv
        subst qv
        have eu : u = Value.bool true := rv
        subst eu
        refine ⟨rfl, OldK.of_keep fun b o e => ?_, os, bare⟩
        cases hb : H b with
        | none => exact un.keep b o e hb (fun z => nomatch z) (fun z => nomatch z)
        | some u =>
          rcases only b with z | ⟨ob, xs, z⟩
          · rw [hb] at z; cases z
          · obtain ⟨e1, _⟩ := hok b _ z
            obtain ⟨e2, _⟩ := hok' b _ (un.frzs b ob _ z)
            rw [e] at e1
            cases e1
            exact e2
  cases hk : K.lookup a with
  | some o =>
    have e := KX a o hk
    rw [ha] at e
    cases e
    refine go (fun _ => none) (fun _ => .inl rfl) (.inr ⟨_, vs.toArray, _, hk, rfl, rfl, rfl, by rw [List.size_toArray, len]; exact hz, by simpa using rel⟩) (fun b u z => ?_) (fun b z => absurd rfl z) fun z => absurd rfl z
    have z' : (none : Option HO) = some u := z
    cases z'
  | none =>
    have at_a : ∀ {b : Addr} {u : HO}, (if b = a then some (HO.frz { cls := .type "list", data := .seq vs.toArray } (.lst (ns.map V.int))) else none) = some u → b = a ∧ u = .frz { cls := .type "list", data := .seq vs.toArray } (.lst (ns.map V.int)) := fun {b u} z => by
      by_cases hb : b = a
      · rw [if_pos hb] at z; cases z; exact ⟨hb, rfl⟩
      · rw [if_neg hb] at z; cases z
    refine go (fun b => if b = a then some (.frz { cls := .type "list", data := .seq vs.toArray } (.lst (ns.map V.int))) else none) (fun b => ?_) (.inl (.inr ⟨_, if_pos rfl⟩)) (fun b u z => ?_) (fun b z => ?_) fun _ => hk
    · by_cases hb : b = a
      · exact .inr ⟨_, _, if_pos hb⟩
      · exact .inl (if_neg hb)
    · obtain ⟨rfl, rfl⟩ := at_a z
      exact ⟨ha, by rw [List.length_map]; exact hz, vs, _, rel, ha⟩
    · cases hq : (if b = a then some (HO.frz { cls := .type "list", data := .seq vs.toArray } (.lst (ns.map V.int))) else none) with
      | none => exact absurd hq z
      | some u => exact (at_a hq).1
/-- the goal that stands behind the head -/
theorem walk_V {l : PySem.W.OpenLaw} {n k : Nat} {q : Program} {loose : List Str} {XP : (Str → Option Value) → Heap → Prop} {YP : World → Heap → Prop} {d : DefRec} {K : Params → PySem.W.Frag} {x : Str} {fm : FM} (hn : l.most = some n) (hn2 : n ≤ sizeLine) (hdf : d.params.defaults = []) (hr : Room k callerA)
    (hY : ∀ (w : World) (h : Heap), YP w h → (K w.params).In h)
    (F : ∀ (w : World) (mg : Str → Option Value) (fa : Addr) (h : Heap), (K w.params).In h → h.Ns mainGlobals mg → mg d.name = some (.ref fa) →
      ∃ fd : FuncData, (∀ (s : Shared) (u : Value), BindsTo s fd ⟨[u], []⟩ [(x, u)]) ∧ ∀ base : Heap, (K w.params).In base → base.Ns mainGlobals mg → FnV l.prog w (K w.params) mg base k fa fd [x] fm)
    (hS : Says fm n) : PySem.W.WalkO q loose XP YP l.row.toRowW d [] (fun f vs => PySem.call f vs) := by
  refine Att.attach_call hn hdf fun w s₀ s₁ mg mb fa o pm cd doc a vs ns G Y ho hd hcd hmg hobj hints hlen hg => ?_
  have KX := hY w _ Y
  obtain ⟨fd, hb, hF⟩ := F w mg fa _ KX G.T.g hmg
  exact law_V KX G.T.g G.T.b G.T.builtins G.T.nolimit hg hobj hints hlen hn2 hr hF hb hS
end Vl

set_option Elab.async false
set_option linter.all false
set_option maxRecDepth 100000
namespace Vl
open PySem PySem.Spec PyProof.Rows L2

theorem u0 {k : Nat} {A : Around} (h : Room k A) : A.units < cLine := by have := h.un; omega
theorem u1 {k : Nat} {A : Around} (h : Room k A) : A.units + 1 < cLine := by have := h.un; omega
theorem u64 {k : Nat} {A : Around} (h : Room k A) : A.units + 64 < cLine := by have := h.un; omega
theorem u65 {k : Nat} {A : Around} (h : Room k A) : A.units + 65 < cLine := by have := h.un; omega
theorem u101 {k : Nat} {A : Around} (h : Room k A) : A.units + 101 < cLine := by have := h.un; omega
/-- a constant of a module -/
def GC (K : PySem.W.Frag) (mg : Str → Option Value) (x : Str) (d : D) : Prop := ∃ v u, mg x = some u ∧ RelV v u ∧ KV K d v
theorem ve_gc {X : Cx} {W : WX} {x : Str} {d : D} {pos : Pos} (h : GC X.K X.mg x d) (hg : Gl X x) (hd : (x == ("__debug__" : Str)) = false := by decide) : VE X W (.Name x pos) (mK d) := by
  obtain ⟨v, u, h1, h2, h3⟩ := h
  exact ve_glob hg h1 h2 h3 hd
theorem fnv_stuck {P : Program} {w : World} {K : PySem.W.Frag} {mg : Str → Option Value} {base : Heap} {k : Nat} {f : Addr} {fd : FuncData} {ps : List Str} : FnV P w K mg base k f fd ps fun _ => .stuck :=
  ⟨fun A outer s H args us vs Q E c as hr hG e0 hb r hl hH J hw => hw.elim⟩
theorem binds_kw {K : PySem.W.Frag} {x qual : Str} {st : Stmt} {f : Addr} {fd : FuncData} {ps : List Str} (F : L2.Fun K x qual st f fd) (s : Shared) (ws : List Value) (hl : ws.length = ps.length)
    (h : ∀ (kV doc pm : Value) (an : Option Addr) (cdv ct : Value) (us : List Value), us.length = ps.length → bindArgs (PySem.W.fnOf x qual (defArgs st) (defBody st) (defScope st) .none kV doc pm an cdv ct) ⟨[], ps.zip us⟩ = pure (ps.zip us)) : BindsTo s fd ⟨[], ps.zip ws⟩ (ps.zip ws) := by
  obtain ⟨oc, od, kV, doc, pm, an, cdv, ct, osl, rfl, lk, hcd⟩ := F.ex
  exact .of_eq (h kV doc pm an cdv ct ws hl)
end Vl

set_option Elab.async false
set_option linter.all false
set_option maxRecDepth 100000
namespace Vl
open PySem PySem.Spec PyProof.Rows L2

/-! ### what the head has written, fact by fact -/
section
variable {K : PySem.W.Frag} {h : Heap} {mg : Str → Option Value} {x : Str} {st : Stmt}
theorem fn_mk {f : Addr} {oc : Value} {od an : Option Addr} {osl : Array (Option Value)} {kV doc pm cdv ct : Value} (X : K.In h) (G : h.Ns mainGlobals mg) (a : PySem.W.nsIn K mainGlobals x = some (some (.ref f)))
    (l : K.lookup f = some ⟨oc, od, .func (PySem.W.fnOf x x (defArgs st) (defBody st) (defScope st) .none kV doc pm an cdv ct), osl⟩) (c : PySem.W.codeIn K cdv x = true) (k : PySem.W.keepIn K (.ref f) = true) : ∃ f d, L2.Fun K x x st f d ∧ mg x = some (.ref f) :=
  ⟨f, _, fun_mk l c k, PySem.W.mg_of X G a⟩
theorem bl_mk (X : K.In h) (G : h.Ns mainGlobals mg) (a : PySem.W.nsIn K mainGlobals x = some none) : mg x = none := PySem.W.mg_none_of X G a
theorem gc_str {z : Str} {t : Tok} (X : K.In h) (G : h.Ns mainGlobals mg) (a : PySem.W.nsIn K mainGlobals x = some (some (.str z t))) : GC K mg x (.str z) := ⟨.str z, _, PySem.W.mg_of X G a, ⟨t, rfl⟩, fun _ => dv_str⟩
theorem gc_int {z : Int} {t : Tok} (X : K.In h) (G : h.Ns mainGlobals mg) (a : PySem.W.nsIn K mainGlobals x = some (some (.int z t))) : GC K mg x (.int z) := ⟨.int z, _, PySem.W.mg_of X G a, ⟨t, rfl⟩, fun _ => dv_int⟩
theorem gc_tup {p : Addr} {od : Option Addr} {its : Array Value} {n : Nat} {sl : Array (Option Value)} {xs : List V} {ds : List D} (X : K.In h) (G : h.Ns mainGlobals mg) (a : PySem.W.nsIn K mainGlobals x = some (some (.ref p)))
    (l : K.lookup p = some ⟨.type "tuple", od, .seq its n, sl⟩) (hz : its.size ≤ sizeLine) (r : Vals xs its.toList) (k : ∀ H : Hp, DvAll K H ds xs) : GC K mg x (.tuple ds) :=
  ⟨.ref p, _, PySem.W.mg_of X G a, rfl, fun H => by
    simp only [Dv]
    exact ⟨p, xs, rfl, .inr ⟨_, its, n, l, rfl, rfl, hz, r⟩, k H⟩⟩
/-- texts of a written tuple -/
theorem strs_rel : ∀ {zs : List Str} {us : List Value}, Paired (fun z u => ∃ t, u = Value.str z t) zs us → Vals (zs.map V.str) us
  | _, _, .nil => .nil
  | _, _, .cons h t => .cons h (strs_rel t)
theorem strs_dv {K : PySem.W.Frag} (H : Hp) : ∀ zs : List Str, DvAll K H (zs.map PyData.str) (zs.map V.str)
  | [] => .nil
  | z :: zs => .cons dv_str (strs_dv H zs)
theorem gc_strs {p : Addr} {od : Option Addr} {its : Array Value} {n : Nat} {sl : Array (Option Value)} {zs : List Str} (X : K.In h) (G : h.Ns mainGlobals mg) (a : PySem.W.nsIn K mainGlobals x = some (some (.ref p)))
    (l : K.lookup p = some ⟨.type "tuple", od, .seq its n, sl⟩) (hz : its.size ≤ sizeLine) (r : Paired (fun z u => ∃ t, u = Value.str z t) zs its.toList) : GC K mg x (.tuple (zs.map PyData.str)) :=
  gc_tup X G a l hz (strs_rel r) fun H => strs_dv H zs
/-- a written dict of texts to ints -/
def entOk (P : Params) (p : Str × Int) (e : DictEntry) : Prop := (∃ t, e.key = .str p.1 t) ∧ e.hash = PyData.keyHash P p.1 ∧ ∃ t, e.val = .int p.2 t
theorem tab_lit {P : Params} : ∀ {tb : List (Str × Int)} {es : List DictEntry}, Paired (entOk P) tb es → PySem.W.KeysLit P es
  | _, _, .nil => trivial
  | _, _, .cons ⟨⟨t, h1⟩, h2, _⟩ r => ⟨⟨_, t, h1, h2⟩, tab_lit r⟩
theorem tab_find {P : Params} (z : Str) : ∀ {tb : List (Str × Int)} {es : List DictEntry}, Paired (entOk P) tb es →
    match tb.lookup z with
    | some i => ∃ e t, es.find? (·.key.isStr z) = some e ∧ e.val = Value.int i t
    | none => es.find? (·.key.isStr z) = none ∧ es.any (·.refKey) = false
  | _, _, .nil => ⟨rfl, rfl⟩
  | _, _, @Paired.cons _ _ _ p e ps es ⟨⟨t, h1⟩, h2, u, h3⟩ r => by
    have ih := tab_find z r
    have hk : e.key.isStr z = (p.1 == z) := by rw [h1]; rfl
    have hr : e.refKey = false := by unfold DictEntry.refKey; rw [h1]
    rw [List.lookup_cons]
    by_cases q : z = p.1
    · have e1 : (z == p.1) = true := by rw [q]; exact beq_self_eq_true _
      have e2 : e.key.isStr z = true := by rw [hk, q]; exact beq_self_eq_true _
      simp only [e1]
      exact ⟨e, u, by rw [List.find?_cons, e2], h3⟩
    · have e1 : (z == p.1) = false := beq_eq_false_iff_ne.mpr q
      have e2 : e.key.isStr z = false := by rw [hk]; exact beq_eq_false_iff_ne.mpr (Ne.symm q)
      simp only [e1]
      cases w : ps.lookup z with
      | some i =>
        rw [w] at ih
        obtain ⟨e', t', f1, f2⟩ := ih
        exact ⟨e', t', by rw [List.find?_cons, e2]; exact f1, f2⟩
      | none =>
        rw [w] at ih
        exact ⟨by rw [List.find?_cons, e2]; exact ih.1, by rw [List.any_cons, hr, Bool.false_or]; exact ih.2⟩
theorem look_map (z : Str) : ∀ tb : List (Str × Int), (tb.map fun p => (p.1, PyData.int p.2)).lookup z = (tb.lookup z).map PyData.int
  | [] => rfl
  | (k, i) :: r => by
    rw [List.map_cons, List.lookup_cons, List.lookup_cons, look_map z r]
    cases z == k <;> rfl
theorem tab_mk {w : World} {p : Addr} {es : List DictEntry} {n : Nat} {tb : List (Str × Int)} (X : K.In h) (G : h.Ns mainGlobals mg) (a : PySem.W.nsIn K mainGlobals x = some (some (.ref p))) (l : K.lookup p = some ⟨.type "dict", none, .dict es.toArray n, #[]⟩)
    (low : (p == sysModules) = false) (r : Paired (entOk w.params) tb es) : ∃ a, mg x = some (.ref a) ∧ KTab K w a (tb.map fun p => (p.1, PyData.int p.2)) := by
  refine ⟨p, PySem.W.mg_of X G a, ⟨_, n, l, by simpa using tab_lit r, low⟩, fun z => ?_⟩
  have f := tab_find z r
  rw [look_map]
  cases q : tb.lookup z with
  | some i =>
    rw [q] at f
    obtain ⟨e, t, f1, f2⟩ := f
    refine ⟨e.val, .int i, ?_, ⟨t, f2⟩, fun _ => dv_int⟩
    unfold PySem.W.nsIn
    rw [l]
    dsimp only
    rw [f1]
  | none =>
    rw [q] at f
    show PySem.W.nsIn K p z = some none
    unfold PySem.W.nsIn
    rw [l]
    dsimp only
    rw [f.1]
    dsimp only
    rw [f.2]
    rfl
theorem binds_top {qual : Str} {f : Addr} {fd : FuncData} (F : L2.Fun K x qual st f fd) (y : Str)
    (h : ∀ (kV doc pm : Value) (an : Option Addr) (cdv ct : Value) (u : Value), bindArgs (PySem.W.fnOf x qual (defArgs st) (defBody st) (defScope st) .none kV doc pm an cdv ct) ⟨[u], []⟩ = pure [(y, u)]) : ∀ (s : Shared) (u : Value), BindsTo s fd ⟨[u], []⟩ [(y, u)] := by
  obtain ⟨oc, od, kV, doc, pm, an, cdv, ct, osl, rfl, lk, hcd⟩ := F.ex
  exact fun s u => .of_eq (h kV doc pm an cdv ct u)
end
end Vl

set_option Elab.async false
set_option linter.all false
set_option maxRecDepth 100000
namespace Vl
open PySem PySem.Spec PyProof.Rows L2

/-! ### f(e), e a new list: passed by reference, then gone -/
section
variable {K : PySem.W.Frag} {c : Fx} {ad : Nat → Addr} {σ : Sg} {H : Hp} {ρ : List Sl}
theorem EnvOk.addNon (I : EnvOk K c ad σ H ρ) : EnvOk K c ad (σ ++ [none]) H (ρ ++ [.non]) := by
  have dn : ∀ {i : Nat} {s : Sl}, s ≠ .non → (ρ ++ [Sl.non])[i]? = some s → ρ[i]? = some s := fun {i s} n h => by
    by_cases hi : i < ρ.length
    · rwa [List.getElem?_append_left hi] at h
    · rw [List.getElem?_append_right (by omega)] at h
      cases hk : i - ρ.length with
      | zero => rw [hk] at h; exact absurd (Option.some.inj h).symm n
      | succ k => rw [hk] at h; simp at h
  have ow : ∀ {i : Nat}, IsOwn (ρ ++ [Sl.non]) i → IsOwn ρ i := fun {i} ⟨o, h⟩ => ⟨o, h.imp (dn fun z => by cases z) (dn fun z => by cases z)⟩
  have ws : ∀ a, Wr c ad (ρ ++ [Sl.non]) a → Wr c ad ρ a := fun a w => w.imp id fun ⟨i, h, e⟩ => ⟨i, ow h, e⟩
  have em : Ext (hid (Wr c ad ρ) H) (hid (Wr c ad (ρ ++ [Sl.non])) H) := hid_mono fun a o n q => ⟨fun w => n (ws a w), q⟩
  have up : ∀ {i : Nat} {v : V}, σ[i]? = some (some v) → (σ ++ [none])[i]? = some (some v) := fun {i v} h => by
    rw [List.getElem?_append_left (List.getElem?_eq_some_iff.mp h).1]; exact h
  refine ⟨by rw [List.length_append, List.length_append, I.len]; rfl, fun i d h => ?_, fun i o h => I.own i o (dn (fun z => by cases z) h), fun i o h => I.par i o (dn (fun z => by cases z) h), fun i o h => ?_, fun i j hi hj => I.inj i j (ow hi) (ow hj), I.ext, I.fr, fun p hp => (I.gh p hp).ext em, I.pex, I.kpe⟩
  · obtain ⟨v, h1, h2⟩ := I.dat i d (dn (fun z => by cases z) h)
    exact ⟨v, up h1, h2.ext em⟩
  · obtain ⟨h1, h2, h3⟩ := I.at_ i o (h.imp (dn fun z => by cases z) (dn fun z => by cases z))
    exact ⟨up h1, h2.ext em rfl, h3⟩
/-- the last slot is forgotten -/
theorem EnvOk.drop1 {x : Option V} {s : Sl} (I : EnvOk K c ad (σ ++ [x]) H (ρ ++ [s])) : EnvOk K c ad σ H ρ := by
  have hl : ρ.length = σ.length := by have := I.len; rw [List.length_append, List.length_append] at this; simpa using this
  have up : ∀ {i : Nat} {t : Sl}, ρ[i]? = some t → (ρ ++ [s])[i]? = some t := fun {i t} h => by
    rw [List.getElem?_append_left (List.getElem?_eq_some_iff.mp h).1]; exact h
  have ow : ∀ {i : Nat}, IsOwn ρ i → IsOwn (ρ ++ [s]) i := fun {i} ⟨o, h⟩ => ⟨o, h.imp up up⟩
  have ws : ∀ a, Wr c ad ρ a → Wr c ad (ρ ++ [s]) a := fun a w => w.imp id fun ⟨i, h, e⟩ => ⟨i, ow h, e⟩
  have em : Ext (hid (Wr c ad (ρ ++ [s])) H) (hid (Wr c ad ρ) H) := hid_mono fun a o n q => ⟨fun w => n (ws a w), q⟩
  have dn : ∀ {i : Nat} {t : Sl} {v : V}, ρ[i]? = some t → (σ ++ [x])[i]? = some (some v) → σ[i]? = some (some v) := fun {i t v} h e => by
    rwa [List.getElem?_append_left (by rw [← hl]; exact (List.getElem?_eq_some_iff.mp h).1)] at e
  refine ⟨hl, fun i d h => ?_, fun i o h => I.own i o (up h), fun i o h => I.par i o (up h), fun i o h => ?_, fun i j hi hj => I.inj i j (ow hi) (ow hj), I.ext, I.fr, fun p hp => (I.gh p hp).ext em, I.pex, I.kpe⟩
  · obtain ⟨v, h1, h2⟩ := I.dat i d (up h)
    exact ⟨v, dn h h1, h2.ext em⟩
  · obtain ⟨h1, h2, h3⟩ := I.at_ i o (h.imp up up)
    exact ⟨h.elim (fun h => dn h h1) fun h => dn h h1, h2.ext em rfl, h3⟩
theorem Post.drop1 {x : Option V} {s : Sl} {r : Res} {v : V} (hr : notSlt r = true) (h : Post K c ad (σ ++ [x]) r (ρ ++ [s]) v H) : Post K c ad σ r ρ v H := by
  have em : ∀ c' : Fx, Ext (hid (Wr c' ad (ρ ++ [s])) H) (hid (Wr c' ad ρ) H) := fun c' => hid_mono fun a o n q => ⟨fun w => n (w.imp id fun ⟨i, ⟨o, h⟩, e⟩ => ⟨i, ⟨o, h.imp (fun h => by rw [List.getElem?_append_left (List.getElem?_eq_some_iff.mp h).1]; exact h) fun h => by rw [List.getElem?_append_left (List.getElem?_eq_some_iff.mp h).1]; exact h⟩, e⟩), q⟩
  cases r with
  | slt i => simp [notSlt] at hr
  | dat d => exact ⟨h.1.drop1, h.2.ext (em c)⟩
  | frs o =>
    obtain ⟨p, e, I, h0, hx, ho⟩ := h
    exact ⟨p, e, I.drop1, h0, hx, ho.ext (em _) rfl⟩
theorem XPost.drop1 {y : Option V} {s : Sl} {x : Exn} {cls : Value} {d : Option Addr} (h : XPost K c ad (σ ++ [y]) x (ρ ++ [s]) cls d H) : XPost K c ad σ x ρ cls d H := by
  have em : Ext (hid (Wr c ad (ρ ++ [s])) H) (hid (Wr c ad ρ) H) := hid_mono fun a o n q => ⟨fun w => n (w.imp id fun ⟨i, ⟨o, h⟩, e⟩ => ⟨i, ⟨o, h.imp (fun h => by rw [List.getElem?_append_left (List.getElem?_eq_some_iff.mp h).1]; exact h) fun h => by rw [List.getElem?_append_left (List.getElem?_eq_some_iff.mp h).1]; exact h⟩, e⟩), q⟩
  exact ⟨h.1.drop1, h.2.1, h.2.2.imp id fun ⟨dd, fs, h1, h2, h3⟩ => ⟨dd, fs, h1, h2, h3.ext em _ _⟩⟩
theorem wr_same {ad' : Nat → Addr} (h : ∀ i, i < ρ.length → ad' i = ad i) (a : Addr) : Wr c ad' ρ a ↔ Wr c ad ρ a :=
  ⟨fun w => w.imp id fun ⟨i, o, e⟩ => ⟨i, o, (h i o.lt).symm.trans e⟩, fun w => w.imp id fun ⟨i, o, e⟩ => ⟨i, o, (h i o.lt).trans e⟩⟩
theorem EnvOk.readdr {ad' : Nat → Addr} (h : ∀ i, i < ρ.length → ad' i = ad i) (I : EnvOk K c ad' σ H ρ) : EnvOk K c ad σ H ρ := by
  have em : Ext (hid (Wr c ad' ρ) H) (hid (Wr c ad ρ) H) := hid_mono fun a o n q => ⟨fun w => n ((wr_same h a).mpr w), q⟩
  have lt : ∀ {i : Nat} {s : Sl}, ρ[i]? = some s → i < ρ.length := fun h => (List.getElem?_eq_some_iff.mp h).1
  refine ⟨I.len, fun i d g => ?_, fun i o g => by rw [← h i (lt g)]; exact I.own i o g, fun i o g => by rw [← h i (lt g)]; exact I.par i o g, fun i o g => ?_, fun i j hi hj e => I.inj i j hi hj (by rw [h i hi.lt, h j hj.lt]; exact e), I.ext, I.fr, fun p hp => (I.gh p hp).ext em, I.pex, I.kpe⟩
  · obtain ⟨v, h1, h2⟩ := I.dat i d g
    exact ⟨v, h1, h2.ext em⟩
  · have hi : i < ρ.length := g.elim lt lt
    obtain ⟨h1, h2, h3⟩ := I.at_ i o g
    rw [← h i hi]
    exact ⟨h1, h2.ext em rfl, h3⟩
theorem Post.readdr {ad' : Nat → Addr} {r : Res} {v : V} (h : ∀ i, i < ρ.length → ad' i = ad i) (hr : notSlt r = true) (P : Post K c ad' σ r ρ v H) : Post K c ad σ r ρ v H := by
  cases r with
  | slt i => simp [notSlt] at hr
  | dat d => exact ⟨P.1.readdr h, P.2.ext (hid_mono fun a o n q => ⟨fun w => n ((wr_same h a).mpr w), q⟩)⟩
  | frs o =>
    obtain ⟨p, e, I, h0, hx, ho⟩ := P
    exact ⟨p, e, I.readdr h, h0, hx, ho.ext (hid_mono fun a o n q => ⟨fun w => n ((wr_same h a).mpr w), q⟩) rfl⟩
theorem XPost.readdr {ad' : Nat → Addr} {x : Exn} {cls : Value} {d : Option Addr} (h : ∀ i, i < ρ.length → ad' i = ad i) (P : XPost K c ad' σ x ρ cls d H) : XPost K c ad σ x ρ cls d H :=
  ⟨P.1.readdr h, P.2.1, P.2.2.imp id fun ⟨dd, fs, h1, h2, h3⟩ => ⟨dd, fs, h1, h2, h3.ext (hid_mono fun a o n q => ⟨fun w => n ((wr_same h a).mpr w), q⟩) _ _⟩⟩
/-- a new object in a slot of its own -/
theorem push_own {p : Addr} {o : Own} (I : EnvOk K (c.plus p) ad σ H ρ) (h0 : c.H0 p = none) (hx : ¬ c.ex p) (ho : OwnAt K (hid (Wr (c.plus p) ad ρ) H) H p o) :
    ∃ ad', EnvOk K c ad' (σ ++ [some (.ref p)]) H (ρ ++ [.own o]) ∧ ad' ρ.length = p ∧ ∀ i, i < ρ.length → ad' i = ad i := by
  have I1 := I.addNon
  have dn : ∀ {i : Nat} {s : Sl}, s ≠ .non → (ρ ++ [Sl.non])[i]? = some s → ρ[i]? = some s := fun {i s} n h => by
    by_cases hi : i < ρ.length
    · rwa [List.getElem?_append_left hi] at h
    · rw [List.getElem?_append_right (by omega)] at h
      cases hk : i - ρ.length with
      | zero => rw [hk] at h; exact absurd (Option.some.inj h).symm n
      | succ k => rw [hk] at h; simp at h
  have ho1 : OwnAt K (hid (Wr (c.plus p) ad (ρ ++ [Sl.non])) H) H p o := ho.ext (hid_mono fun a u n q => ⟨fun w => n (w.imp id fun ⟨i, ⟨o', h⟩, e⟩ => ⟨i, ⟨o', h.imp (dn fun z => by cases z) (dn fun z => by cases z)⟩, e⟩), q⟩) rfl
  have I2 := I1.setOwn (i := ρ.length) (by rw [List.length_append]; exact Nat.lt_succ_self _) h0 hx ho1
  have e1 : (ρ ++ [Sl.non]).set ρ.length (.own o) = ρ ++ [.own o] := by
    rw [List.set_append_right _ _ (Nat.le_refl _), Nat.sub_self]; rfl
  have e2 : (σ ++ [none]).set ρ.length (some (V.ref p)) = σ ++ [some (.ref p)] := by
    rw [I.len, List.set_append_right _ _ (Nat.le_refl _), Nat.sub_self]; rfl
  rw [e1, e2] at I2
  exact ⟨_, I2, if_pos rfl, fun i hi => if_neg (Nat.ne_of_lt hi)⟩
end
def callF (fm : FM) (o : Own) (ρ1 : List Sl) : Rg Res := match fm [.par o] with
  | .stuck => .stuck
  | .ok r' outs => match outs with
    | [.par _] => if notSlt r' = true then .ok r' ρ1 else .stuck
    | _ => .stuck
  | .exc x _ => .exc x ρ1
def mCallF (fm : FM) (m : EM) : EM := fun ρ => (m ρ).bind fun r ρ1 => match r with
  | .frs o => callF fm o ρ1
  | _ => .stuck
section
variable {X : Cx} {W : WX} {k : Nat} {f : Addr} {fd : FuncData} {y : Str} {fm : FM} {x : Str} {p pos : Pos} {e : Expr} {me : EM}
theorem ve_callF (F : FnV X.prog X.w X.K X.mg X.base k f fd [y] fm) (hr : Room k X.A) (C : Cnd X W) (hg : Gl X x) (hm : X.mg x = some (.ref f)) (hk : PySem.W.keepIn X.K (.ref f) = true) (hb : Binds X.K fd [y] []) (he' : VE X W e me)
    (hdb : (x == ("__debug__" : Str)) = false := by decide) (he : starEach [e] X.env = (false, eval e X.env) :: starEach [] X.env := by rfl) (hpl : (backTo pos (starEach [] X.env)).any (·.1) = false := by rfl) :
    VE X W (.Call (.Name x p) [e] [] pos) (mCallF fm me) := by
  refine ⟨fun pins s σ H Q I ⟨c, ad, ρ, E, h⟩ => ?_⟩
  refine wpAny_Call_Name_kw (ld_glob I hg hm ?_ hdb)
  have ha : PA X [e] (tCons (tV X.K W me) tNil) := pa_cons he' pa_nil he
  refine PySem.W.callWith_K (h₀ := X.base) I.ok.mod.kin hk (thn (ha.run pos pins s σ H (fun vs H1 => ∃ q1 o ρ1, vs = [.ref q1] ∧ Post X.K c ad σ (.frs o) ρ1 (.ref q1) H1 ∧ Wants (callF fm o ρ1) (OkQ X.K c ad σ Q) (ExQ X.K c ad σ W)) I ⟨c, ad, ρ, E, ?_⟩) fun us s1 hus => ?_) he hpl
  · refine h.of_bind.mono (fun r ρ1 q v H1 P => ?_) fun _ _ k => k
    cases r with
    | dat d => exact q.elim
    | slt i => exact q.elim
    | frs o =>
      obtain ⟨q1, e1, P'⟩ := id P
      subst e1
      exact ⟨q1, o, ρ1, rfl, P, q⟩
  · obtain ⟨vs, H1, I1, rv, q1, o, ρ1, rfl, ⟨q2, e2, Iq, h0, hx, ho⟩, h⟩ := hus
    cases e2
    obtain ⟨ad', E1, hn, hsame⟩ := push_own Iq h0 hx ho
    refine ⟨I1.kIn, ?_⟩
    have hh : HeldAll X.K c ad' (ρ1 ++ [.own o]) H1 [.slt ρ1.length] [.ref q1] := ⟨_, [], rfl, by show V.ref q1 = .ref (ad' ρ1.length); rw [hn], rfl⟩
    have at_n : (ρ1 ++ [Sl.own o])[ρ1.length]? = some (.own o) := by simp
    have ht : toSlots (ρ1 ++ [.own o]) [.slt ρ1.length] = some [.par o] := by
      simp only [toSlots, toSlot, at_n]
    have J0 := call_in E1 hh ht (by simp [slts])
    have hus1 : us.length = 1 := by rw [← rv.length]; rfl
    have hbb : BindsTo s1 fd ⟨us, []⟩ ([y].zip us) := by
      have := hb s1 us I1.kIn (by rw [List.append_nil]; exact hus1)
      rwa [List.append_nil] at this
    refine call_of_code (codeAny_mono (F.run X.A X.stack s1 H1 ⟨us, []⟩ us [.ref q1] Q (fun cls d H' => W cls d σ H') _ [.par o] hr C.gd I1.env0 hbb rv rfl rfl J0 ?_) fun r s' hq => ?_)
    · unfold callF at h
      cases ef : fm [.par o] with
      | stuck => rw [ef] at h; exact h
      | exc x outs =>
        rw [ef] at h
        intro a2 σ2 cls d H2 J
        have B := (backX_ok E1 hh ht J)
        have el : lose (ρ1 ++ [.own o]) [.slt ρ1.length] = ρ1 ++ [.non] := by
          show (ρ1 ++ [Sl.own o]).set ρ1.length .non = _
          rw [List.set_append_right _ _ (Nat.le_refl _), Nat.sub_self]; rfl
        rw [el] at B
        exact h cls d H2 (B.drop1.readdr hsame)
      | ok r outs =>
        rw [ef] at h
        dsimp only at h
        split at h
        · rename_i o2
          split at h
          · rename_i hns
            intro a2 σ2 v H2 J
            have hp : putBack (ρ1 ++ [.own o]) [.slt ρ1.length] [.par o2] = some (ρ1 ++ [.own o2]) := by
              simp only [putBack, at_n]
              show some ((ρ1 ++ [Sl.own o]).set ρ1.length (.own o2)) = _
              rw [List.set_append_right _ _ (Nat.le_refl _), Nat.sub_self]; rfl
            have B := back_ok E1 hh ht (putBack_ok (by simp [slts]) hp) hns J
            exact h v H2 ((B.drop1 hns).readdr hsame hns)
          · exact h.elim
        · exact h.elim
    · cases r with
      | error e => exact C.tk _ _ (XE.of_call I1 (fun _ _ _ z => z) hq)
      | ok fl =>
        cases fl with
        | ret u => exact I1.after hq
        | next => exact False.elim hq
        | brk => exact False.elim hq
        | cont => exact False.elim hq
end
end Vl

set_option Elab.async false
set_option linter.all false
set_option maxRecDepth 100000
namespace Vl
open PySem PySem.Spec PyProof.Rows L2

/-! ### mirrors run -/
section
variable {α β : Type} {r : Rg α} {a : α} {ρ : List Sl} {x : Exn}
@[simp] theorem bind_ok {f : α → List Sl → Rg β} : (Rg.ok a ρ).bind f = f a ρ := rfl
@[simp] theorem bind_stuck {f : α → List Sl → Rg β} : (Rg.stuck : Rg α).bind f = .stuck := rfl
@[simp] theorem ofO_some {f : α → Rg β} : ofO (some a) f = f a := rfl
@[simp] theorem ofO_none {f : α → Rg β} : ofO none f = .stuck := rfl
@[simp] theorem ofE_ok {f : α → List Sl → So} : ofE (Rg.ok a ρ) f = f a ρ := rfl
@[simp] theorem oS_some {f : α → So} : oS (some a) f = f a := rfl
@[simp] theorem noX_ok : noX (Rg.ok a ρ) = .ok a ρ := rfl
theorem bind_bind {γ : Type} {f : α → List Sl → Rg β} {g : β → List Sl → Rg γ} : (r.bind f).bind g = r.bind fun a ρ => (f a ρ).bind g := by cases r <;> rfl
/-- what comes of it; no exception, never stuck -/
def Wp (r : Rg α) (P : α → List Sl → Prop) : Prop := match r with
  | .ok a ρ => P a ρ
  | _ => False
@[simp] theorem wp_ok {P : α → List Sl → Prop} : Wp (.ok a ρ) P = P a ρ := rfl
theorem wp_bind {f : α → List Sl → Rg β} {P : β → List Sl → Prop} : Wp (r.bind f) P ↔ Wp r fun a ρ => Wp (f a ρ) P := by cases r <;> exact Iff.rfl
theorem Wp.mono {P P' : α → List Sl → Prop} (h : Wp r P) (g : ∀ a ρ, P a ρ → P' a ρ) : Wp r P' := by
  cases r with
  | ok a ρ => exact g _ _ h
  | stuck => exact h
  | exc x ρ => exact h
theorem wp_ofO {o : Option β} {f : β → Rg α} {P : α → List Sl → Prop} : Wp (ofO o f) P ↔ ∃ b, o = some b ∧ Wp (f b) P := by
  cases o with
  | none => exact ⟨fun h => h.elim, fun ⟨b, e, _⟩ => by cases e⟩
  | some b => exact ⟨fun h => ⟨b, rfl, h⟩, fun ⟨c, e, h⟩ => by cases e; exact h⟩
theorem wp_noX {P : α → List Sl → Prop} : Wp (noX r) P ↔ Wp r P := by cases r <;> exact Iff.rfl
end
/-- what comes of a statement -/
def Ws (o : So) (N : List Sl → Prop) (R : Res → List Sl → Prop) : Prop := match o with
  | .nx ρ => N ρ
  | .rt r ρ => R r ρ
  | _ => False
section
variable {α : Type} {N : List Sl → Prop} {R : Res → List Sl → Prop} {ρ : List Sl}
@[simp] theorem ws_nx : Ws (.nx ρ) N R = N ρ := rfl
@[simp] theorem ws_rt {r : Res} : Ws (.rt r ρ) N R = R r ρ := rfl
theorem ws_seq {a b : SM} : Ws (sSeq a b ρ) N R ↔ Ws (a ρ) (fun ρ' => Ws (b ρ') N R) R := by
  unfold sSeq
  cases a ρ <;> exact Iff.rfl
theorem ws_ofE {r : Rg α} {f : α → List Sl → So} : Ws (ofE r f) N R ↔ Wp r fun a ρ => Ws (f a ρ) N R := by cases r <;> exact Iff.rfl
theorem ws_oS {o : Option α} {f : α → So} : Ws (oS o f) N R ↔ ∃ a, o = some a ∧ Ws (f a) N R := by
  cases o with
  | none => exact ⟨fun h => h.elim, fun ⟨b, e, _⟩ => by cases e⟩
  | some b => exact ⟨fun h => ⟨b, rfl, h⟩, fun ⟨c, e, h⟩ => by cases e; exact h⟩
theorem Ws.mono {o : So} {N' : List Sl → Prop} {R' : Res → List Sl → Prop} (h : Ws o N R) (n : ∀ ρ, N ρ → N' ρ) (r : ∀ x ρ, R x ρ → R' x ρ) : Ws o N' R' := by
  cases o with
  | nx ρ => exact n _ h
  | rt x ρ => exact r _ _ h
  | stuck => exact h
  | bk ρ => exact h
  | ct ρ => exact h
  | exc x ρ => exact h
theorem wp_fn {n k : Nat} {m : SM} {as : List Sl} {P : Res → List Sl → Prop} (h : Ws (m (as ++ List.replicate k .non)) (fun ρ => P (.dat .none) (outsOf n ρ)) fun r ρ => notSlt r = true ∧ P r (outsOf n ρ)) : Wp (fnM n k m as) P := by
  unfold fnM
  cases e : m (as ++ List.replicate k .non) with
  | nx ρ => rw [e] at h; exact h
  | rt r ρ => rw [e] at h; dsimp only; rw [if_pos h.1]; exact h.2
  | stuck => rw [e] at h; exact h.elim
  | bk ρ => rw [e] at h; exact h.elim
  | ct ρ => rw [e] at h; exact h.elim
  | exc x ρ => rw [e] at h; exact h.elim
theorem wp_eq {r : Rg α} {a : α} (h : r = .ok a ρ) {P : α → List Sl → Prop} : Wp r P ↔ P a ρ := by rw [h]; rfl
end
/-! ### calls -/
theorem toSlots_dats (ρ : List Sl) : ∀ ds : List D, toSlots ρ (ds.map .dat) = some (ds.map .dat)
  | [] => rfl
  | d :: ds => by
    show (match toSlot ρ (.dat d), toSlots ρ (ds.map .dat) with
      | some a, some as => some (a :: as)
      | _, _ => none) = _
    rw [toSlots_dats ρ ds]; rfl
theorem slts_dats : ∀ ds : List D, slts (ds.map .dat) = []
  | [] => rfl
  | _ :: ds => slts_dats ds
theorem putBack_dats (ρ : List Sl) : ∀ (ds : List D) (outs : List Sl), putBack ρ (ds.map .dat) outs = some ρ
  | [], _ => rfl
  | _ :: ds, [] => putBack_dats ρ ds []
  | _ :: ds, _ :: os => putBack_dats ρ ds os
/-- a call with data alone -/
theorem call_dats {fm : FM} {ds : List D} {d : D} {outs : List Sl} (h : fm (ds.map .dat) = .ok (.dat d) outs) (ρ : List Sl) : callRes fm ρ (ds.map .dat) = .ok (.dat d) ρ := by
  unfold callRes
  rw [toSlots_dats, ofO_some, slts_dats, if_pos List.nodup_nil, h]
  show (if notSlt (.dat d) = true then ofO (putBack ρ (ds.map .dat) outs) fun ρ2 => Rg.ok (Res.dat d) ρ2 else .stuck) = _
  rw [putBack_dats]; rfl
theorem wp_dats {fm : FM} {ds : List D} {ρ : List Sl} {P Q : Res → List Sl → Prop} (h : Wp (fm (ds.map .dat)) fun r _ => notSlt r = true ∧ ∀ ρ, Q r ρ) (g : ∀ r, Q r ρ → P r ρ) : Wp (callRes fm ρ (ds.map .dat)) P := by
  unfold callRes
  rw [toSlots_dats, ofO_some, slts_dats, if_pos List.nodup_nil]
  cases e : fm (ds.map .dat) with
  | stuck => rw [e] at h; exact h.elim
  | exc x ρ => rw [e] at h; exact h.elim
  | ok r outs =>
    rw [e] at h
    dsimp only
    rw [if_pos h.1, putBack_dats, ofO_some]
    exact g r (h.2 ρ)
/-- the pot of draws -/
abbrev Pt (a s : Int) : Sl := .par (.lst [.int a, .int s])
def PotOk (s : Int) : Prop := 0 ≤ s ∧ s < 4294967296
/-- with a pot ahead: the result is G's, the pot is one -/
def Pf (fm : FM) (ds : List D) (G : Res → Prop) : Prop := ∀ a s, PotOk s → Wp (fm (Pt a s :: ds.map .dat)) fun r outs => notSlt r = true ∧ G r ∧ ∃ a' s' os, PotOk s' ∧ outs = Pt a' s' :: os
theorem call_pot {fm : FM} {ds : List D} {G : Res → Prop} (h : Pf fm ds G) {a s : Int} {ρ : List Sl} {P : Res → List Sl → Prop} (hs : PotOk s) (g : ∀ a' s' r, PotOk s' → G r → P r (Pt a' s' :: ρ)) : Wp (callRes fm (Pt a s :: ρ) (.slt 0 :: ds.map .dat)) P := by
  have h := h a s hs
  have ht : toSlots (Pt a s :: ρ) (.slt 0 :: ds.map .dat) = some (Pt a s :: ds.map .dat) := by
    show (match toSlot (Pt a s :: ρ) (.slt 0), toSlots (Pt a s :: ρ) (ds.map .dat) with
      | some a, some as => some (a :: as)
      | _, _ => none) = _
    rw [toSlots_dats]; rfl
  have hn : (slts (.slt 0 :: ds.map Res.dat)).Nodup := by
    show (0 :: slts (ds.map Res.dat)).Nodup
    rw [slts_dats]; simp
  unfold callRes
  rw [ht, ofO_some, if_pos hn]
  cases e : fm (Pt a s :: ds.map .dat) with
  | stuck => rw [e] at h; exact h.elim
  | exc x ρ => rw [e] at h; exact h.elim
  | ok r outs =>
    rw [e] at h
    obtain ⟨h1, h2, a', s', os, h3, rfl⟩ := h
    dsimp only
    rw [if_pos h1]
    have hp : putBack (Pt a s :: ρ) (.slt 0 :: ds.map .dat) (Pt a' s' :: os) = some (Pt a' s' :: ρ) := by
      show putBack (Pt a' s' :: ρ) (ds.map .dat) os = _
      exact putBack_dats _ _ _
    rw [hp, ofO_some]
    exact g a' s' r h3 h2
/-! ### a comprehension of pure elements -/
theorem lc_pure {i : Nat} {tm : TM} {em : EM} {g : D → D} {ρ : List Sl} (hi : ρ[i]? = some .non) : ∀ (ds acc : List D), (∀ d ∈ ds, tm (ρ.set i (.dat d)) = .ok true (ρ.set i (.dat d)) ∧ em (ρ.set i (.dat d)) = .ok (.dat (g d)) (ρ.set i (.dat d))) → acc.length + ds.length ≤ sizeLine →
    lcL (gmN i) (fun ρ => noX (tm ρ)) (fun ρ => noX (em ρ)) [i] ds ρ acc = .ok (.frs (.lst (acc ++ ds.map g))) ρ
  | [], acc, _, _ => by rw [List.map_nil, List.append_nil]; rfl
  | d :: ds, acc, h, hl => by
    obtain ⟨h1, h2⟩ := h d List.mem_cons_self
    unfold lcL
    have e0 : gmN i d ρ = some (ρ.set i (.dat d)) := rfl
    rw [e0, ofO_some, h1, noX_ok, bind_ok, if_pos rfl, h2, noX_ok, bind_ok]
    show (if acc.length < sizeLine then _ else _) = _
    rw [List.length_cons] at hl
    rw [if_pos (by omega)]
    have e1 : wipeS (ρ.set i (.dat d)) [i] = ρ := by
      show (ρ.set i (.dat d)).set i .non = ρ
      rw [List.set_set]
      apply List.ext_getElem?
      intro k
      by_cases e : i = k
      · subst e; rw [List.getElem?_set_self (List.getElem?_eq_some_iff.mp hi).1, hi]
      · rw [List.getElem?_set_ne e]
    rw [e1, lc_pure hi ds (acc ++ [g d]) (fun d' hd => h d' (List.mem_cons_of_mem _ hd)) (by rw [List.length_append]; show acc.length + 1 + ds.length ≤ _; omega), List.map_cons, List.append_assoc]
    rfl
theorem boolsOf_map {α : Type} (f : α → Bool) : ∀ l : List α, boolsOf (l.map fun x => PyData.bool (f x)) = some (l.map f)
  | [] => rfl
  | a :: l => by rw [List.map_cons, boolsOf, boolsOf_map f l]; rfl
end Vl

set_option Elab.async false
set_option linter.all false
set_option maxRecDepth 100000
set_option maxHeartbeats 4000000
namespace Vl
namespace Lw
open PySem PySem.Spec PyProof.Rows L2
def topS (i : Nat) : Stmt := PySem.Challenge.pw_partsight_k17_any_value_as_formula.main.body.getD i (.Pass ⟨0, 0, 0, 0⟩)
abbrev s_is_integer : Stmt := topS 1
abbrev N_is_integer : List Str := ["value"]
abbrev p_is_integer : List Str := ["value"]
theorem sc_is_integer : FnScope N_is_integer p_is_integer (defScope s_is_integer) := ⟨rfl, rfl, rfl, by decide +kernel, rfl, by decide +kernel, by decide +kernel⟩
abbrev s_is_count : Stmt := topS 2
abbrev N_is_count : List Str := ["value"]
abbrev p_is_count : List Str := ["value"]
theorem sc_is_count : FnScope N_is_count p_is_count (defScope s_is_count) := ⟨rfl, rfl, rfl, by decide +kernel, rfl, by decide +kernel, by decide +kernel⟩
abbrev s_is_name : Stmt := topS 15
abbrev N_is_name : List Str := ["value", "sign"]
abbrev p_is_name : List Str := ["value"]
theorem sc_is_name : FnScope N_is_name p_is_name (defScope s_is_name) := ⟨rfl, rfl, rfl, by decide +kernel, rfl, by decide +kernel, by decide +kernel⟩
abbrev s_is_told : Stmt := topS 16
abbrev N_is_told : List Str := ["value", "word", "many"]
abbrev p_is_told : List Str := ["value", "word", "many"]
theorem sc_is_told : FnScope N_is_told p_is_told (defScope s_is_told) := ⟨rfl, rfl, rfl, by decide +kernel, rfl, by decide +kernel, by decide +kernel⟩
abbrev s_parts_of : Stmt := topS 17
abbrev N_parts_of : List Str := ["formula"]
abbrev p_parts_of : List Str := ["formula"]
theorem sc_parts_of : FnScope N_parts_of p_parts_of (defScope s_parts_of) := ⟨rfl, rfl, rfl, by decide +kernel, rfl, by decide +kernel, by decide +kernel⟩
abbrev s_is_worded : Stmt := topS 18
abbrev N_is_worded : List Str := ["value"]
abbrev p_is_worded : List Str := ["value"]
theorem sc_is_worded : FnScope N_is_worded p_is_worded (defScope s_is_worded) := ⟨rfl, rfl, rfl, by decide +kernel, rfl, by decide +kernel, by decide +kernel⟩
abbrev s_is_call : Stmt := topS 19
abbrev N_is_call : List Str := ["value"]
abbrev p_is_call : List Str := ["value"]
theorem sc_is_call : FnScope N_is_call p_is_call (defScope s_is_call) := ⟨rfl, rfl, rfl, by decide +kernel, rfl, by decide +kernel, by decide +kernel⟩
abbrev s_is_leaf : Stmt := topS 20
abbrev N_is_leaf : List Str := ["value"]
abbrev p_is_leaf : List Str := ["value"]
theorem sc_is_leaf : FnScope N_is_leaf p_is_leaf (defScope s_is_leaf) := ⟨rfl, rfl, rfl, by decide +kernel, rfl, by decide +kernel, by decide +kernel⟩
abbrev s_is_letter : Stmt := topS 21
abbrev N_is_letter : List Str := ["value", "many"]
abbrev p_is_letter : List Str := ["value", "many"]
theorem sc_is_letter : FnScope N_is_letter p_is_letter (defScope s_is_letter) := ⟨rfl, rfl, rfl, by decide +kernel, rfl, by decide +kernel, by decide +kernel⟩
abbrev s_is_formula : Stmt := topS 22
abbrev N_is_formula : List Str := ["value", "left", "size", "one", "deep", "part"]
abbrev p_is_formula : List Str := ["value"]
theorem sc_is_formula : FnScope N_is_formula p_is_formula (defScope s_is_formula) := ⟨rfl, rfl, rfl, by decide +kernel, rfl, by decide +kernel, by decide +kernel⟩
abbrev s_below : Stmt := topS 23
abbrev N_below : List Str := ["formula", "deep", "steps", "part", "step"]
abbrev p_below : List Str := ["formula", "deep"]
theorem sc_below : FnScope N_below p_below (defScope s_below) := ⟨rfl, rfl, rfl, by decide +kernel, rfl, by decide +kernel, by decide +kernel⟩
abbrev s_is_simple_by : Stmt := topS 24
abbrev N_is_simple_by : List Str := ["value", "many", "left", "size", "one", "deep"]
abbrev p_is_simple_by : List Str := ["value", "many"]
theorem sc_is_simple_by : FnScope N_is_simple_by p_is_simple_by (defScope s_is_simple_by) := ⟨rfl, rfl, rfl, by decide +kernel, rfl, by decide +kernel, by decide +kernel⟩
abbrev s_is_simple : Stmt := topS 25
abbrev N_is_simple : List Str := ["value"]
abbrev p_is_simple : List Str := ["value"]
theorem sc_is_simple : FnScope N_is_simple p_is_simple (defScope s_is_simple) := ⟨rfl, rfl, rfl, by decide +kernel, rfl, by decide +kernel, by decide +kernel⟩
abbrev s__law_pot : Stmt := topS 27
abbrev N__law_pot : List Str := ["script", "k", "cell"]
abbrev p__law_pot : List Str := ["script", "k"]
theorem sc__law_pot : FnScope N__law_pot p__law_pot (defScope s__law_pot) := ⟨rfl, rfl, rfl, by decide +kernel, rfl, by decide +kernel, by decide +kernel⟩
abbrev s__law_draw : Stmt := topS 28
abbrev N__law_draw : List Str := ["pot", "many", "digit"]
abbrev p__law_draw : List Str := ["pot", "many"]
theorem sc__law_draw : FnScope N__law_draw p__law_draw (defScope s__law_draw) := ⟨rfl, rfl, rfl, by decide +kernel, rfl, by decide +kernel, by decide +kernel⟩
abbrev s__law_pick : Stmt := topS 29
abbrev N__law_pick : List Str := ["pot", "some"]
abbrev p__law_pick : List Str := ["pot", "some"]
theorem sc__law_pick : FnScope N__law_pick p__law_pick (defScope s__law_pick) := ⟨rfl, rfl, rfl, by decide +kernel, rfl, by decide +kernel, by decide +kernel⟩
abbrev s__law_formula : Stmt := topS 30
abbrev N__law_formula : List Str := ["pot", "names", "deep", "kind", "word", "some", "turn"]
abbrev p__law_formula : List Str := ["pot", "names", "deep"]
theorem sc__law_formula : FnScope N__law_formula p__law_formula (defScope s__law_formula) := ⟨rfl, rfl, rfl, by decide +kernel, rfl, by decide +kernel, by decide +kernel⟩
abbrev s__law_simple : Stmt := topS 31
abbrev N__law_simple : List Str := ["pot", "many", "deep", "kind", "turn"]
abbrev p__law_simple : List Str := ["pot", "many", "deep"]
theorem sc__law_simple : FnScope N__law_simple p__law_simple (defScope s__law_simple) := ⟨rfl, rfl, rfl, by decide +kernel, rfl, by decide +kernel, by decide +kernel⟩
abbrev s__law_is_name : Stmt := topS 32
abbrev N__law_is_name : List Str := ["value", "kept", "sign"]
abbrev p__law_is_name : List Str := ["value"]
theorem sc__law_is_name : FnScope N__law_is_name p__law_is_name (defScope s__law_is_name) := ⟨rfl, rfl, rfl, by decide +kernel, rfl, by decide +kernel, by decide +kernel⟩
abbrev s__law_measure : Stmt := topS 33
abbrev N__law_measure : List Str := ["value", "by_letters", "most", "word", "parts", "is_so", "size", "deep", "at", "part", "told"]
abbrev p__law_measure : List Str := ["value", "by_letters", "most"]
theorem sc__law_measure : FnScope N__law_measure p__law_measure (defScope s__law_measure) := ⟨rfl, rfl, rfl, by decide +kernel, rfl, by decide +kernel, by decide +kernel⟩
abbrev s__law_is_formula : Stmt := topS 34
abbrev N__law_is_formula : List Str := ["value", "told"]
abbrev p__law_is_formula : List Str := ["value"]
theorem sc__law_is_formula : FnScope N__law_is_formula p__law_is_formula (defScope s__law_is_formula) := ⟨rfl, rfl, rfl, by decide +kernel, rfl, by decide +kernel, by decide +kernel⟩
abbrev s__law_is_simple : Stmt := topS 35
abbrev N__law_is_simple : List Str := ["value", "told"]
abbrev p__law_is_simple : List Str := ["value"]
theorem sc__law_is_simple : FnScope N__law_is_simple p__law_is_simple (defScope s__law_is_simple) := ⟨rfl, rfl, rfl, by decide +kernel, rfl, by decide +kernel, by decide +kernel⟩
abbrev s__law_bent : Stmt := topS 36
abbrev N__law_bent : List Str := ["pot", "value", "at", "way", "some"]
abbrev p__law_bent : List Str := ["pot", "value"]
theorem sc__law_bent : FnScope N__law_bent p__law_bent (defScope s__law_bent) := ⟨rfl, rfl, rfl, by decide +kernel, rfl, by decide +kernel, by decide +kernel⟩
abbrev s__law_long : Stmt := topS 37
abbrev N__law_long : List Str := ["pot", "leaf", "deep", "by_letters", "found", "here", "way"]
abbrev p__law_long : List Str := ["pot", "leaf", "deep", "by_letters"]
theorem sc__law_long : FnScope N__law_long p__law_long (defScope s__law_long) := ⟨rfl, rfl, rfl, by decide +kernel, rfl, by decide +kernel, by decide +kernel⟩
abbrev s__law_wide : Stmt := topS 38
abbrev N__law_wide : List Str := ["leaf", "many", "rows", "at"]
abbrev p__law_wide : List Str := ["leaf", "many"]
theorem sc__law_wide : FnScope N__law_wide p__law_wide (defScope s__law_wide) := ⟨rfl, rfl, rfl, by decide +kernel, rfl, by decide +kernel, by decide +kernel⟩
abbrev s__law_are_right : Stmt := topS 39
abbrev N__law_are_right : List Str := ["values", "value", "due", "shown"]
abbrev p__law_are_right : List Str := ["values"]
theorem sc__law_are_right : FnScope N__law_are_right p__law_are_right (defScope s__law_are_right) := ⟨rfl, rfl, rfl, by decide +kernel, rfl, by decide +kernel, by decide +kernel⟩
abbrev s__law_right : Stmt := topS 40
abbrev N__law_right : List Str := ["pot", "told", "simple", "found", "turn", "step", "leaf", "letter"]
abbrev p__law_right : List Str := ["pot"]
theorem sc__law_right : FnScope N__law_right p__law_right (defScope s__law_right) := ⟨rfl, rfl, rfl, by decide +kernel, rfl, by decide +kernel, by decide +kernel⟩
abbrev s_law : Stmt := topS 41
abbrev N_law : List Str := ["script", "k"]
abbrev p_law : List Str := ["script"]
theorem sc_law : FnScope N_law p_law (defScope s_law) := ⟨rfl, rfl, rfl, by decide +kernel, rfl, by decide +kernel, by decide +kernel⟩
def tb_PARTS : List (Str × D) := [("yes", (.int 0)), ("no", (.int 0)), ("not", (.int 1)), ("and", (.int 2)), ("or", (.int 2)), ("same", (.int 2)), ("if", (.int 3))]
-- is_integer: 0 value
def M_is_integer : FM := fnM 1 0 (sRet (mAnd (mIsi [.int] (mVar 0)) (mNot (mIsi [.bool] (mVar 0)))))
-- is_count: 0 value
def M_is_count : FM := fnM 1 0 (sRet (mAnd (mCall M_is_integer (aCons (mVar 0) (aNil))) (mBin fGe (mVar 0) (mK (.int 0)))))
-- is_name: 0 value, 1 sign
def M_is_name : FM := fnM 1 1 (sSeq (sIf (mOrT (mNotT (mTr (mIsi [.str] (mVar 0)))) (mOrT (mNotT (mTB (mChain fLe fLe (mK (.int 1)) (mB fLen (aCons (mVar 0) (aNil))) (mK (.int 12))))) (mTB (mBin fIn (mVar 0) (mK (.tuple [(.str "and"), (.str "answer"), (.str "asked"), (.str "define"), (.str "else"), (.str "if"), (.str "no"), (.str "not"), (.str "nothing"), (.str "or"), (.str "riddle"), (.str "sees"), (.str "then"), (.str "wish"), (.str "yes")])))))) (sRet (mK (.bool false))) (sNil)) (sRet (mB fAll (aCons (mLcV (mSeq (mVar 0)) (gmN 1) (mYes) (mBin fIn (mVar 1) (mK (.str "abcdefghijklmnopqrstuvwxyz"))) [1]) (aNil)))))
-- is_told: 0 value, 1 word, 2 many
def M_is_told : FM := fnM 3 0 (sRet (mAnd (mIsi [.tup] (mVar 0)) (mAnd (mBin fEq (mB fLen (aCons (mVar 0) (aNil))) (mVar 2)) (mAnd (mIsi [.str] (mBin fIx (mVar 0) (mK (.int 0)))) (mBin fEq (mBin fIx (mVar 0) (mK (.int 0))) (mVar 1))))))
-- parts_of: 0 formula
def M_parts_of : FM := fnM 1 0 (sSeq (sIf (mTB (mBin fIn (mBin fIx (mVar 0) (mK (.int 0))) (mTup (aCons (mK (.str "is")) (aCons (mK (.str "at")) (aNil)))))) (sRet (mTup (aNil))) (sNil)) (sRet (mIf (mTB (mBin fEq (mBin fIx (mVar 0) (mK (.int 0))) (mK (.str "call")))) (mBin fIx (mVar 0) (mK (.int 2))) (mSl (mVar 0) (oSome (mK (.int 1))) (oNo)))))
-- is_worded: 0 value
def M_is_worded : FM := fnM 1 0 (sSeq (sIf (mOrT (mNotT (mTr (mIsi [.tup] (mVar 0)))) (mOrT (mTB (mBin fEq (mVar 0) (mTup (aNil)))) (mNotT (mTr (mIsi [.str] (mBin fIx (mVar 0) (mK (.int 0)))))))) (sRet (mK (.bool false))) (sNil)) (sRet (mAnd (mTabIn tb_PARTS (mBin fIx (mVar 0) (mK (.int 0)))) (mBin fEq (mB fLen (aCons (mVar 0) (aNil))) (mBin fAdd (mTabGet tb_PARTS (mBin fIx (mVar 0) (mK (.int 0)))) (mK (.int 1)))))))
-- is_call: 0 value
def M_is_call : FM := fnM 1 0 (sRet (mAnd (mCall M_is_told (aCons (mVar 0) (aCons (mK (.str "call")) (aCons (mK (.int 3)) (aNil))))) (mAnd (mCall M_is_name (aCons (mBin fIx (mVar 0) (mK (.int 1))) (aNil))) (mAnd (mIsi [.tup] (mBin fIx (mVar 0) (mK (.int 2)))) (mBin fNe (mBin fIx (mVar 0) (mK (.int 2))) (mTup (aNil)))))))
-- is_leaf: 0 value
def M_is_leaf : FM := fnM 1 0 (sRet (mAnd (mCall M_is_told (aCons (mVar 0) (aCons (mK (.str "is")) (aCons (mK (.int 2)) (aNil))))) (mCall M_is_name (aCons (mBin fIx (mVar 0) (mK (.int 1))) (aNil)))))
-- is_letter: 0 value, 1 many
def M_is_letter : FM := fnM 2 0 (sRet (mAnd (mCall M_is_told (aCons (mVar 0) (aCons (mK (.str "at")) (aCons (mK (.int 2)) (aNil))))) (mAnd (mCall M_is_count (aCons (mBin fIx (mVar 0) (mK (.int 1))) (aNil))) (mOr (mBin fIs (mVar 1) (mK .none)) (mBin fLt (mBin fIx (mVar 0) (mK (.int 1))) (mVar 1))))))
-- is_formula: 0 value, 1 left, 2 size, 3 one, 4 deep, 5 part
def M_is_formula : FM := fnM 1 5 (sSeq (sPar 1 2 (mLst (aCons (mTup (aCons (mVar 0) (aCons (mK (.int 1)) (aNil)))) (aNil))) (mK (.int 0))) (sSeq (whL 203 (mTB (mBin fNe (mVar 1) (mLst (aNil)))) (sSeq (sTg (gmT 2 (gmCons (gmN 3) (gmCons (gmN 4) gmNil))) (mPop 1)) (sSeq (sAug (fI0 fun i j => .int (i + j)) 2 (mK (.int 1))) (sSeq (sIf (mOrT (mTB (mBin fGt (mVar 2) (mK (.int 200)))) (mOrT (mTB (mBin fGt (mVar 4) (mK (.int 20)))) (mAndT (mNotT (mTr (mCall M_is_leaf (aCons (mVar 3) (aNil))))) (mAndT (mNotT (mTr (mCall M_is_worded (aCons (mVar 3) (aNil))))) (mNotT (mTr (mCall M_is_call (aCons (mVar 3) (aNil))))))))) (sRet (mK (.bool false))) (sNil)) (sSeq (sIf (mTB (mBin fGt (mBin fAdd (mB fLen (aCons (mVar 1) (aNil))) (mB fLen (aCons (mCall M_parts_of (aCons (mVar 3) (aNil))) (aNil)))) (mK (.int 200)))) (sRet (mK (.bool false))) (sNil)) (sEx (mExt 1 (mLcV (mSeq (mCall M_parts_of (aCons (mVar 3) (aNil)))) (gmN 5) (mYes) (mTup (aCons (mVar 5) (aCons (mBin fAdd (mVar 4) (mK (.int 1))) (aNil)))) [5])))))))) (sRet (mK (.bool true)))))
-- below: 0 formula, 1 deep, 2 steps, 3 part, 4 step
def M_below : FM := fnM 2 3 (sSeq (sSet 2 (mIf (mTB (mBin fEq (mBin fIx (mVar 0) (mK (.int 0))) (mK (.str "if")))) (mLst (aCons (mK (.int 2)) (aCons (mK (.int 1)) (aCons (mK (.int 1)) (aNil))))) (mLst (aCons (mK (.int 1)) (aCons (mK (.int 1)) (aNil)))))) (sFz 2 (sRet (mLcV (mZip (aCons (mCall M_parts_of (aCons (mVar 0) (aNil))) (aCons (mVar 2) (aNil)))) (gmT 2 (gmCons (gmN 3) (gmCons (gmN 4) gmNil))) (mYes) (mTup (aCons (mVar 3) (aCons (mBin fAdd (mVar 1) (mVar 4)) (aNil)))) [3, 4]))))
-- is_simple_by: 0 value, 1 many, 2 left, 3 size, 4 one, 5 deep
def M_is_simple_by : FM := fnM 2 4 (sSeq (sPar 2 3 (mLst (aCons (mTup (aCons (mVar 0) (aCons (mK (.int 1)) (aNil)))) (aNil))) (mK (.int 0))) (sSeq (whL 403 (mTB (mBin fNe (mVar 2) (mLst (aNil)))) (sSeq (sTg (gmT 2 (gmCons (gmN 4) (gmCons (gmN 5) gmNil))) (mPop 2)) (sSeq (sAug (fI0 fun i j => .int (i + j)) 3 (mK (.int 1))) (sSeq (sIf (mOrT (mTB (mBin fGt (mVar 3) (mK (.int 400)))) (mOrT (mTB (mBin fGt (mVar 5) (mK (.int 40)))) (mAndT (mNotT (mTr (mCall M_is_letter (aCons (mVar 4) (aCons (mVar 1) (aNil)))))) (mNotT (mTr (mCall M_is_worded (aCons (mVar 4) (aNil)))))))) (sRet (mK (.bool false))) (sNil)) (sEx (mExt 2 (mCall M_below (aCons (mVar 4) (aCons (mVar 5) (aNil)))))))))) (sRet (mK (.bool true)))))
-- is_simple: 0 value
def M_is_simple : FM := fnM 1 0 (sRet (mCall M_is_simple_by (aCons (mVar 0) (aCons (mK .none) (aNil)))))
-- _law_pot: 0 script, 1 k, 2 cell
def M__law_pot : FM := fnM 2 1 (sSeq (sSet 2 (mIf (mTB (mBin fLt (mVar 1) (mB fLen (aCons (mVar 0) (aNil))))) (mB fAbs (aCons (mBin fIx (mVar 0) (mVar 1)) (aNil))) (mBin fAdd (mBin fMul (mK (.int 3767)) (mVar 1)) (mK (.int 2753))))) (sRet (mLst (aCons (mB fMax (aCons (mK (.int 0)) (aCons (mBin fSub (mVar 2) (mBin fPow (mK (.int 10)) (mK (.int 18)))) (aNil)))) (aCons (mBin fAdd (mBin fMod (mB fInt (aCons (mBin fAdd (mBin fAdd (mBin fMul (mBin fMod (mB fInt (aCons (mVar 2) (aNil))) (mK (.int 2147483549))) (mK (.int 40692))) (mBin fMul (mK (.int 3767)) (mVar 1))) (mK (.int 2753))) (aNil))) (mK (.int 2147483563))) (mK (.int 1))) (aNil))))))
-- _law_draw: 0 pot, 1 many, 2 digit
def M__law_draw : FM := fnM 2 1 (sSeq (sIf (mTB (mBin fGt (mBin fIx (mVar 0) (mK (.int 0))) (mK (.int 0)))) (sSeq (sDvm 0 0 2 (aCons (mBin fIx (mVar 0) (mK (.int 0))) (aCons (mVar 1) (aNil)))) (sRet (mVar 2))) (sNil)) (sSeq (sSt 0 (mK (.int 1)) (mBin fMod (mB fInt (aCons (mBin fAdd (mBin fMul (mBin fIx (mVar 0) (mK (.int 1))) (mK (.int 40014))) (mK (.int 10343))) (aNil))) (mK (.int 2147483587)))) (sRet (mBin fMod (mB fInt (aCons (mBin fFdiv (mBin fMod (mB fInt (aCons (mBin fMul (mBin fIx (mVar 0) (mK (.int 1))) (mBin fIx (mVar 0) (mK (.int 1)))) (aNil))) (mK (.int 2147483549))) (mK (.int 17))) (aNil))) (mVar 1)))))
-- _law_pick: 0 pot, 1 some
def M__law_pick : FM := fnM 2 0 (sRet (mBin fIx (mVar 1) (mCall M__law_draw (aCons (mVar 0) (aCons (mB fLen (aCons (mVar 1) (aNil))) (aNil))))))
-- _law_formula: 0 pot, 1 names, 2 deep, 3 kind, 4 word, 5 some, 6 turn
def M__law_formula : Nat → FM
  | 0 => fun _ => .stuck
  | n + 1 => fnM 3 4 (sSeq (sSet 3 (mIf (mTB (mBin fGt (mVar 2) (mK (.int 0)))) (mCall M__law_draw (aCons (mVar 0) (aCons (mK (.int 11)) (aNil)))) (mK (.int 0)))) (sSeq (sIf (mTB (mBin fLt (mVar 3) (mK (.int 2)))) (sRet (mIf (mTB (mBin fEq (mCall M__law_draw (aCons (mVar 0) (aCons (mK (.int 6)) (aNil)))) (mK (.int 0)))) (mTup (aCons (mCall M__law_pick (aCons (mVar 0) (aCons (mLst (aCons (mK (.str "yes")) (aCons (mK (.str "no")) (aNil)))) (aNil)))) (aNil))) (mTup (aCons (mK (.str "is")) (aCons (mCall M__law_pick (aCons (mVar 0) (aCons (mVar 1) (aNil)))) (aNil)))))) (sNil)) (sSeq (sIf (mTB (mBin fLt (mVar 3) (mK (.int 4)))) (sRet (mTup (aCons (mK (.str "not")) (aCons (mCall (M__law_formula n) (aCons (mVar 0) (aCons (mVar 1) (aCons (mBin fSub (mVar 2) (mK (.int 1))) (aNil))))) (aNil))))) (sNil)) (sSeq (sIf (mTB (mBin fLt (mVar 3) (mK (.int 9)))) (sSeq (sSet 4 (mCall M__law_pick (aCons (mVar 0) (aCons (mLst (aCons (mK (.str "and")) (aCons (mK (.str "or")) (aCons (mK (.str "same")) (aNil))))) (aNil))))) (sRet (mTup (aCons (mVar 4) (aCons (mCall (M__law_formula n) (aCons (mVar 0) (aCons (mVar 1) (aCons (mBin fSub (mVar 2) (mK (.int 1))) (aNil))))) (aCons (mCall (M__law_formula n) (aCons (mVar 0) (aCons (mVar 1) (aCons (mBin fSub (mVar 2) (mK (.int 1))) (aNil))))) (aNil))))))) (sNil)) (sSeq (sSet 5 (mB fTuple (aCons (mLcV (mRng1 (aCons (mK (.int 3)) (aNil))) (gmN 6) (mYes) (mCall (M__law_formula n) (aCons (mVar 0) (aCons (mVar 1) (aCons (mBin fSub (mVar 2) (mK (.int 1))) (aNil))))) [6]) (aNil)))) (sRet (mIf (mTB (mBin fEq (mVar 3) (mK (.int 9)))) (mBin fAdd (mTup (aCons (mK (.str "if")) (aNil))) (mVar 5)) (mTup (aCons (mK (.str "call")) (aCons (mCall M__law_pick (aCons (mVar 0) (aCons (mVar 1) (aNil)))) (aCons (mSl (mVar 5) (oNo) (oSome (mBin fAdd (mK (.int 1)) (mCall M__law_draw (aCons (mVar 0) (aCons (mK (.int 3)) (aNil))))))) (aNil))))))))))))
-- _law_simple: 0 pot, 1 many, 2 deep, 3 kind, 4 turn
def M__law_simple : Nat → FM
  | 0 => fun _ => .stuck
  | n + 1 => fnM 3 2 (sSeq (sSet 3 (mIf (mTB (mBin fGt (mVar 2) (mK (.int 0)))) (mCall M__law_draw (aCons (mVar 0) (aCons (mK (.int 10)) (aNil)))) (mK (.int 0)))) (sSeq (sIf (mTB (mBin fLt (mVar 3) (mK (.int 2)))) (sRet (mIf (mOrT (mTB (mBin fEq (mVar 1) (mK (.int 0)))) (mTB (mBin fEq (mCall M__law_draw (aCons (mVar 0) (aCons (mK (.int 5)) (aNil)))) (mK (.int 0))))) (mTup (aCons (mCall M__law_pick (aCons (mVar 0) (aCons (mLst (aCons (mK (.str "yes")) (aCons (mK (.str "no")) (aNil)))) (aNil)))) (aNil))) (mTup (aCons (mK (.str "at")) (aCons (mCall M__law_draw (aCons (mVar 0) (aCons (mVar 1) (aNil)))) (aNil)))))) (sNil)) (sSeq (sIf (mTB (mBin fLt (mVar 3) (mK (.int 4)))) (sRet (mTup (aCons (mK (.str "not")) (aCons (mCall (M__law_simple n) (aCons (mVar 0) (aCons (mVar 1) (aCons (mBin fSub (mVar 2) (mK (.int 1))) (aNil))))) (aNil))))) (sNil)) (sSeq (sIf (mTB (mBin fLt (mVar 3) (mK (.int 8)))) (sRet (mTup (aCons (mCall M__law_pick (aCons (mVar 0) (aCons (mLst (aCons (mK (.str "and")) (aCons (mK (.str "or")) (aCons (mK (.str "same")) (aNil))))) (aNil)))) (aCons (mCall (M__law_simple n) (aCons (mVar 0) (aCons (mVar 1) (aCons (mBin fSub (mVar 2) (mK (.int 1))) (aNil))))) (aCons (mCall (M__law_simple n) (aCons (mVar 0) (aCons (mVar 1) (aCons (mBin fSub (mVar 2) (mK (.int 1))) (aNil))))) (aNil)))))) (sNil)) (sRet (mBin fAdd (mTup (aCons (mK (.str "if")) (aNil))) (mB fTuple (aCons (mLcV (mRng1 (aCons (mK (.int 3)) (aNil))) (gmN 4) (mYes) (mCall (M__law_simple n) (aCons (mVar 0) (aCons (mVar 1) (aCons (mBin fSub (mVar 2) (mK (.int 1))) (aNil))))) [4]) (aNil)))))))))
-- _law_is_name: 0 value, 1 kept, 2 sign
def M__law_is_name : FM := fnM 1 2 (sSeq (sSet 1 (mLst (aCons (mK (.str "and")) (aCons (mK (.str "answer")) (aCons (mK (.str "asked")) (aCons (mK (.str "define")) (aCons (mK (.str "else")) (aCons (mK (.str "if")) (aCons (mK (.str "no")) (aCons (mK (.str "not")) (aCons (mK (.str "nothing")) (aCons (mK (.str "or")) (aCons (mK (.str "riddle")) (aCons (mK (.str "sees")) (aCons (mK (.str "then")) (aCons (mK (.str "wish")) (aCons (mK (.str "yes")) (aNil)))))))))))))))))) (sSeq (sIf (mOrT (mNotT (mTr (mIsi [.str] (mVar 0)))) (mOrT (mTB (mBin fIn (mVar 0) (mVar 1))) (mNotT (mTB (mChain fLe fLe (mK (.int 1)) (mB fLen (aCons (mVar 0) (aNil))) (mK (.int 12))))))) (sRet (mK (.bool false))) (sNil)) (sRet (mB fAll (aCons (mLcV (mSeq (mVar 0)) (gmN 2) (mYes) (mBin fIn (mVar 2) (mK (.str "abcdefghijklmnopqrstuvwxyz"))) [2]) (aNil))))))
-- _law_measure: 0 value, 1 by_letters, 2 most, 3 word, 4 parts, 5 is_so, 6 size, 7 deep, 8 at, 9 part, 10 told
def M__law_measure : Nat → FM
  | 0 => fun _ => .stuck
  | n + 1 => fnM 3 8 (sSeq (sIf (mOrT (mTB (mBin fLt (mVar 2) (mK (.int 1)))) (mOrT (mNotT (mTr (mIsi [.tup] (mVar 0)))) (mOrT (mTB (mBin fEq (mB fLen (aCons (mVar 0) (aNil))) (mK (.int 0)))) (mNotT (mTr (mIsi [.str] (mBin fIx (mVar 0) (mK (.int 0))))))))) (sRet (mK .none)) (sNil)) (sSeq (sPar 3 4 (mBin fIx (mVar 0) (mK (.int 0))) (mSl (mVar 0) (oSome (mK (.int 1))) (oNo))) (sSeq (sIf (mAndT (mTB (mBin fEq (mVar 3) (mK (.str "at")))) (mTr (mVar 1))) (sSeq (sSet 5 (mAnd (mBin fEq (mB fLen (aCons (mVar 0) (aNil))) (mK (.int 2))) (mAnd (mIsi [.int] (mBin fIx (mVar 0) (mK (.int 1)))) (mAnd (mNot (mIsi [.bool] (mBin fIx (mVar 0) (mK (.int 1))))) (mBin fGe (mBin fIx (mVar 0) (mK (.int 1))) (mK (.int 0))))))) (sRet (mIf (mTr (mVar 5)) (mTup (aCons (mK (.int 1)) (aCons (mK (.int 1)) (aNil)))) (mK .none)))) (sNil)) (sSeq (sIf (mAndT (mTB (mBin fEq (mVar 3) (mK (.str "is")))) (mNotT (mTr (mVar 1)))) (sRet (mIf (mAndT (mTB (mBin fEq (mB fLen (aCons (mVar 0) (aNil))) (mK (.int 2)))) (mTr (mCall M__law_is_name (aCons (mBin fIx (mVar 0) (mK (.int 1))) (aNil))))) (mTup (aCons (mK (.int 1)) (aCons (mK (.int 1)) (aNil)))) (mK .none))) (sNil)) (sSeq (sIf (mAndT (mTB (mBin fEq (mVar 3) (mK (.str "call")))) (mNotT (mTr (mVar 1)))) (sSeq (sIf (mOrT (mTB (mBin fNe (mB fLen (aCons (mVar 0) (aNil))) (mK (.int 3)))) (mOrT (mNotT (mTr (mCall M__law_is_name (aCons (mBin fIx (mVar 0) (mK (.int 1))) (aNil))))) (mOrT (mNotT (mTr (mIsi [.tup] (mBin fIx (mVar 0) (mK (.int 2)))))) (mTB (mBin fEq (mBin fIx (mVar 0) (mK (.int 2))) (mTup (aNil))))))) (sRet (mK .none)) (sNil)) (sSet 4 (mBin fIx (mVar 0) (mK (.int 2))))) (sIf (mTB (mBin fNe (mDGet [("yes", 0), ("no", 0), ("not", 1), ("and", 2), ("or", 2), ("same", 2), ("if", 3)] (mVar 3) 9) (mB fLen (aCons (mVar 4) (aNil))))) (sRet (mK .none)) (sNil))) (sSeq (sTg (gmT 2 (gmCons (gmN 6) (gmCons (gmN 7) gmNil))) (mTup (aCons (mK (.int 1)) (aCons (mK (.int 1)) (aNil))))) (sSeq (sFor (mEn (aCons (mVar 4) (aNil))) (gmT 2 (gmCons (gmN 8) (gmCons (gmN 9) gmNil))) (sSeq (sSet 10 (mCall (M__law_measure n) (aCons (mVar 9) (aCons (mVar 1) (aCons (mBin fSub (mVar 2) (mK (.int 1))) (aNil)))))) (sSeq (sIf (mTB (mBin fIs (mVar 10) (mK .none))) (sRet (mK .none)) (sNil)) (sPar 6 7 (mBin fAdd (mVar 6) (mBin fIx (mVar 10) (mK (.int 0)))) (mB fMax (aCons (mVar 7) (aCons (mBin fAdd (mBin fIx (mVar 10) (mK (.int 1))) (mIf (mAndT (mTr (mVar 1)) (mAndT (mTB (mBin fEq (mVar 3) (mK (.str "if")))) (mTB (mBin fEq (mVar 8) (mK (.int 0)))))) (mK (.int 2)) (mK (.int 1)))) (aNil)))))))) (sRet (mTup (aCons (mVar 6) (aCons (mVar 7) (aNil))))))))))))
-- _law_is_formula: 0 value, 1 told
def M__law_is_formula : FM := fnM 1 1 (sSeq (sSet 1 (mCall (M__law_measure 43) (aCons (mVar 0) (aCons (mK (.bool false)) (aCons (mK (.int 21)) (aNil)))))) (sRet (mAnd (mBin fIsNot (mVar 1) (mK .none)) (mAnd (mBin fLe (mBin fIx (mVar 1) (mK (.int 0))) (mK (.int 200))) (mBin fLe (mBin fIx (mVar 1) (mK (.int 1))) (mK (.int 20)))))))
-- _law_is_simple: 0 value, 1 told
def M__law_is_simple : FM := fnM 1 1 (sSeq (sSet 1 (mCall (M__law_measure 43) (aCons (mVar 0) (aCons (mK (.bool true)) (aCons (mK (.int 41)) (aNil)))))) (sRet (mAnd (mBin fIsNot (mVar 1) (mK .none)) (mAnd (mBin fLe (mBin fIx (mVar 1) (mK (.int 0))) (mK (.int 400))) (mBin fLe (mBin fIx (mVar 1) (mK (.int 1))) (mK (.int 40)))))))
-- _law_bent: 0 pot, 1 value, 2 at, 3 way, 4 some
def M__law_bent : Nat → FM
  | 0 => fun _ => .stuck
  | n + 1 => fnM 2 3 (sSeq (sIf (mAndT (mTr (mIsi [.tup, .lst] (mVar 1))) (mAndT (mTB (mBin fGt (mB fLen (aCons (mVar 1) (aNil))) (mK (.int 0)))) (mTB (mBin fGt (mCall M__law_draw (aCons (mVar 0) (aCons (mK (.int 7)) (aNil)))) (mK (.int 0)))))) (sSeq (sPar 2 3 (mCall M__law_draw (aCons (mVar 0) (aCons (mB fLen (aCons (mVar 1) (aNil))) (aNil)))) (mCall M__law_draw (aCons (mVar 0) (aCons (mK (.int 12)) (aNil))))) (sSeq (sIf (mTB (mBin fEq (mVar 3) (mK (.int 0)))) (sRet (mBin fAdd (mSl (mVar 1) (oNo) (oSome (mVar 2))) (mSl (mVar 1) (oSome (mBin fAdd (mVar 2) (mK (.int 1)))) (oNo)))) (sNil)) (sSeq (sIf (mTB (mBin fEq (mVar 3) (mK (.int 1)))) (sRet (mBin fAdd (mSl (mVar 1) (oNo) (oSome (mBin fAdd (mVar 2) (mK (.int 1))))) (mSl (mVar 1) (oSome (mVar 2)) (oNo)))) (sNil)) (sSeq (sIf (mTB (mBin fEq (mVar 3) (mK (.int 2)))) (sRet (mRev (mVar 1))) (sNil)) (sSeq (sSet 4 (mB fList (aCons (mVar 1) (aNil)))) (sSeq (sSt 4 (mVar 2) (mCall (M__law_bent n) (aCons (mVar 0) (aCons (mBin fIx (mVar 1) (mVar 2)) (aNil))))) (sRet (mIf (mTr (mIsi [.lst] (mVar 1))) (mVar 4) (mB fTuple (aCons (mVar 4) (aNil))))))))))) (sNil)) (sSeq (sIf (mOrT (mTr (mIsi [.bool] (mVar 1))) (mTB (mBin fIs (mVar 1) (mK .none)))) (sRet (mCall M__law_pick (aCons (mVar 0) (aCons (mLst (aCons (mK (.int 0)) (aCons (mK (.int 1)) (aCons (mK .none) (aCons (mK (.bool true)) (aCons (mK (.str "yes")) (aNil))))))) (aNil))))) (sNil)) (sSeq (sIf (mTr (mIsi [.int] (mVar 1))) (sRet (mCall M__law_pick (aCons (mVar 0) (aCons (mLst (aCons (mBin fAdd (mVar 1) (mK (.int 1))) (aCons (mBin fSub (mVar 1) (mK (.int 1))) (aCons (mNeg (mVar 1)) (aCons (mK (.int 0)) (aCons (mK (.int 1)) (aCons (mK (.int 12)) (aCons (mK (.bool true)) (aCons (mK (.bool false)) (aCons (mK .none) (aCons (mB fStr (aCons (mVar 1) (aNil))) (aCons (mTup (aCons (mVar 1) (aNil))) (aNil))))))))))))) (aNil))))) (sNil)) (sSeq (sIf (mTr (mIsi [.str] (mVar 1))) (sSeq (sSet 4 (mLst (aCons (mK (.str "yes")) (aCons (mK (.str "no")) (aCons (mK (.str "is")) (aCons (mK (.str "at")) (aCons (mK (.str "not")) (aCons (mK (.str "and")) (aCons (mK (.str "or")) (aCons (mK (.str "same")) (aCons (mK (.str "if")) (aCons (mK (.str "call")) (aCons (mK (.str "a")) (aCons (mK (.str "b")) (aCons (mK (.str "sees")) (aCons (mK (.str "")) (aCons (mK (.str "A")) (aCons (mK (.str "abcdefghijklm")) (aCons (mK .none) (aCons (mK (.int 0)) (aNil))))))))))))))))))))) (sRet (mCall M__law_pick (aCons (mVar 0) (aCons (mBin fAdd (mVar 4) (mLst (aCons (mBin fAdd (mVar 1) (mK (.str "x"))) (aCons (mSl (mVar 1) (oSome (mK (.int 1))) (oNo)) (aCons (mUpper (mVar 1)) (aCons (mTup (aCons (mVar 1) (aNil))) (aNil))))))) (aNil)))))) (sNil)) (sRet (mCall M__law_pick (aCons (mVar 0) (aCons (mLst (aCons (mIf (mTr (mIsi [.tup] (mVar 1))) (mB fList (aCons (mVar 1) (aNil))) (mB fTuple (aCons (mVar 1) (aNil)))) (aCons (mTup (aNil)) (aCons (mLst (aNil)) (aCons (mK .none) (aCons (mK (.int 0)) (aCons (mK (.str "a")) (aCons (mTup (aCons (mK (.str "yes")) (aNil))) (aCons (mTup (aCons (mK (.str "is")) (aCons (mK (.str "a")) (aNil)))) (aCons (mTup (aCons (mK (.str "at")) (aCons (mK (.int 0)) (aNil)))) (aNil))))))))))) (aNil)))))))))
-- _law_long: 0 pot, 1 leaf, 2 deep, 3 by_letters, 4 found, 5 here, 6 way
def M__law_long : FM := fnM 4 3 (sSeq (sPar 4 5 (mVar 1) (mK (.int 1))) (sSeq (whL 50 (mTB (mBin fLt (mVar 5) (mVar 2))) (sSeq (sSet 6 (mCall M__law_draw (aCons (mVar 0) (aCons (mK (.int 4)) (aNil))))) (sIf (mAndT (mTB (mBin fEq (mVar 6) (mK (.int 0)))) (mAndT (mTB (mBin fLe (mBin fAdd (mVar 5) (mK (.int 2))) (mVar 2))) (mTr (mVar 3)))) (sPar 4 5 (mTup (aCons (mK (.str "if")) (aCons (mVar 4) (aCons (mVar 1) (aCons (mVar 1) (aNil)))))) (mBin fAdd (mVar 5) (mK (.int 2)))) (sPar 4 5 (mBin fIx (mLst (aCons (mTup (aCons (mK (.str "not")) (aCons (mVar 4) (aNil)))) (aCons (mTup (aCons (mK (.str "and")) (aCons (mVar 1) (aCons (mVar 4) (aNil))))) (aCons (mTup (aCons (mK (.str "same")) (aCons (mVar 4) (aCons (mVar 1) (aNil))))) (aCons (mTup (aCons (mK (.str "if")) (aCons (mVar 1) (aCons (mVar 4) (aCons (mVar 1) (aNil)))))) (aNil)))))) (mVar 6)) (mBin fAdd (mVar 5) (mK (.int 1))))))) (sRet (mVar 4))))
-- _law_wide: 0 leaf, 1 many, 2 rows, 3 at
def M__law_wide : Nat → FM
  | 0 => fun _ => .stuck
  | n + 1 => fnM 2 2 (sSeq (sSet 2 (mBin fMul (mLst (aCons (mVar 0) (aNil))) (mB fInt (aCons (mBin fFdiv (mBin fAdd (mVar 1) (mK (.int 1))) (mK (.int 2))) (aNil))))) (sSeq (whL 20 (mTB (mBin fGt (mB fLen (aCons (mVar 2) (aNil))) (mK (.int 1)))) (sSet 2 (mLcV (mRng3 (aCons (mK (.int 0)) (aCons (mB fLen (aCons (mVar 2) (aNil))) (aCons (mK (.int 2)) (aNil))))) (gmN 3) (mYes) (mIf (mTB (mBin fLt (mBin fAdd (mVar 3) (mK (.int 1))) (mB fLen (aCons (mVar 2) (aNil))))) (mTup (aCons (mK (.str "or")) (aCons (mBin fIx (mVar 2) (mVar 3)) (aCons (mBin fIx (mVar 2) (mBin fAdd (mVar 3) (mK (.int 1)))) (aNil))))) (mBin fIx (mVar 2) (mVar 3))) [3]))) (sRet (mIf (mTB (mBin fEq (mBin fMod (mB fInt (aCons (mVar 1) (aNil))) (mK (.int 2))) (mK (.int 1)))) (mBin fIx (mVar 2) (mK (.int 0))) (mTup (aCons (mK (.str "not")) (aCons (mCall (M__law_wide n) (aCons (mVar 0) (aCons (mBin fSub (mVar 1) (mK (.int 1))) (aNil)))) (aNil))))))))
-- _law_are_right: 0 values, 1 value, 2 due, 3 shown
def M__law_are_right : FM := fnM 1 3 (sSeq (sFor (mSeq (mVar 0)) (gmN 1) (sSeq (sPar 2 3 (mLst (aCons (mCall M__law_is_formula (aCons (mVar 1) (aNil))) (aCons (mCall M__law_is_simple (aCons (mVar 1) (aNil))) (aCons (mCall M__law_is_name (aCons (mVar 1) (aNil))) (aNil))))) (mB fRepr (aCons (mVar 1) (aNil)))) (sSeq (sIf (mOrT (mTB (mBin fNe (mB fRepr (aCons (mLst (aCons (mCall M_is_formula (aCons (mVar 1) (aNil))) (aCons (mCall M_is_simple (aCons (mVar 1) (aNil))) (aCons (mCall M_is_name (aCons (mVar 1) (aNil))) (aNil))))) (aNil))) (mB fRepr (aCons (mVar 2) (aNil))))) (mTB (mBin fNe (mB fRepr (aCons (mVar 1) (aNil))) (mVar 3)))) (sRet (mK (.bool false))) (sNil)) (sIf (mTB (mBin fNe (mB fRepr (aCons (mLst (aCons (mCall M_is_formula (aCons (mVar 1) (aNil))) (aCons (mCall M_is_simple (aCons (mVar 1) (aNil))) (aCons (mCall M_is_name (aCons (mVar 1) (aNil))) (aNil))))) (aNil))) (mB fRepr (aCons (mVar 2) (aNil))))) (sRet (mK (.bool false))) (sNil))))) (sRet (mK (.bool true))))
-- _law_right: 0 pot, 1 told, 2 simple, 3 found, 4 turn, 5 step, 6 leaf, 7 letter
def M__law_right : FM := fnM 1 7 (sSeq (sPar 1 2 (mCall (M__law_formula 8) (aCons (mVar 0) (aCons (mLst (aCons (mK (.str "a")) (aCons (mK (.str "b")) (aCons (mK (.str "f")) (aNil))))) (aCons (mBin fAdd (mK (.int 1)) (mCall M__law_draw (aCons (mVar 0) (aCons (mK (.int 4)) (aNil))))) (aNil))))) (mCall (M__law_simple 8) (aCons (mVar 0) (aCons (mK (.int 4)) (aCons (mBin fAdd (mK (.int 1)) (mCall M__law_draw (aCons (mVar 0) (aCons (mK (.int 4)) (aNil))))) (aNil)))))) (sSeq (sSet 3 (mLst (aCons (mVar 1) (aCons (mVar 2) (aCons (mK .none) (aCons (mK (.int 0)) (aCons (mK (.str "")) (aCons (mTup (aNil)) (aCons (mLst (aNil)) (aCons (mK (.str "a")) (aCons (mK (.str "yes")) (aCons (mK (.str "at")) (aCons (mTup (aCons (mK (.str "at")) (aNil))) (aCons (mTup (aCons (mK (.str "at")) (aCons (mK (.int 0)) (aNil)))) (aCons (mTup (aCons (mK (.str "at")) (aCons (mK (.bool true)) (aNil)))) (aCons (mTup (aCons (mK (.str "at")) (aCons (mBin fPow (mK (.int 10)) (mK (.int 25))) (aNil)))) (aCons (mTup (aCons (mK (.str "is")) (aCons (mK (.str "a")) (aNil)))) (aCons (mTup (aCons (mK (.str "is")) (aCons (mK (.str "yes")) (aNil)))) (aCons (mTup (aCons (mK (.str "call")) (aCons (mK (.str "f")) (aCons (mTup (aNil)) (aNil))))) (aCons (mTup (aCons (mK (.str "call")) (aCons (mK (.str "f")) (aCons (mTup (aCons (mK (.str "is")) (aCons (mK (.str "a")) (aNil)))) (aNil))))) (aNil))))))))))))))))))))) (sSeq (sEx (mExt 3 (mLst (aCons (mK (.str "abcdefghijkl")) (aCons (mK (.str "abcdefghijklm")) (aCons (mK (.str "a b")) (aCons (mK (.str "a1")) (aCons (mTup (aCons (mK (.str "yes")) (aCons (mK (.str "yes")) (aNil)))) (aCons (mTup (aCons (mK (.str "not")) (aNil))) (aCons (mLst (aCons (mK (.str "yes")) (aNil))) (aCons (mTup (aCons (mK (.str "if")) (aCons (mTup (aCons (mK (.str "yes")) (aNil))) (aCons (mTup (aCons (mK (.str "no")) (aNil))) (aNil))))) (aCons (mTup (aCons (mK (.str "call")) (aCons (mK (.str "f")) (aCons (mLst (aCons (mTup (aCons (mK (.str "yes")) (aNil))) (aNil))) (aNil))))) (aNil))))))))))))) (sSeq (sFor (mRng1 (aCons (mK (.int 8)) (aNil))) (gmN 4) (sEx (mExt 3 (mLst (aCons (mCall (M__law_bent 12) (aCons (mVar 0) (aCons (mVar 1) (aNil)))) (aCons (mCall (M__law_bent 12) (aCons (mVar 0) (aCons (mVar 2) (aNil)))) (aNil))))))) (sSeq (sSet 5 (mBin fSub (mCall M__law_draw (aCons (mVar 0) (aCons (mK (.int 3)) (aNil)))) (mK (.int 1)))) (sSeq (sPar 6 7 (mTup (aCons (mK (.str "is")) (aCons (mK (.str "a")) (aNil)))) (mTup (aCons (mK (.str "at")) (aCons (mCall M__law_draw (aCons (mVar 0) (aCons (mK (.int 30)) (aNil)))) (aNil))))) (sSeq (sEx (mExt 3 (mLst (aCons (mCall M__law_long (aCons (mVar 0) (aCons (mVar 6) (aCons (mBin fAdd (mK (.int 20)) (mVar 5)) (aCons (mK (.bool false)) (aNil)))))) (aCons (mCall M__law_long (aCons (mVar 0) (aCons (mVar 7) (aCons (mBin fAdd (mK (.int 40)) (mVar 5)) (aCons (mK (.bool true)) (aNil)))))) (aCons (mCall (M__law_wide 3) (aCons (mVar 6) (aCons (mBin fAdd (mK (.int 200)) (mVar 5)) (aNil)))) (aCons (mCall (M__law_wide 3) (aCons (mVar 7) (aCons (mBin fAdd (mK (.int 400)) (mVar 5)) (aNil)))) (aNil)))))))) (sSeq (sEx (mExt 3 (mLst (aCons (mTup (aCons (mK (.str "call")) (aCons (mK (.str "f")) (aCons (mBin fMul (mTup (aCons (mVar 6) (aNil))) (mBin fAdd (mK (.int 199)) (mVar 5))) (aNil))))) (aCons (mTup (aCons (mK (.str "not")) (aCons (mCall M__law_long (aCons (mVar 0) (aCons (mVar 7) (aCons (mK (.int 39)) (aCons (mK (.bool true)) (aNil)))))) (aNil)))) (aCons (mTup (aCons (mK (.str "if")) (aCons (mCall M__law_long (aCons (mVar 0) (aCons (mVar 7) (aCons (mK (.int 38)) (aCons (mK (.bool true)) (aNil)))))) (aCons (mVar 7) (aCons (mVar 7) (aNil)))))) (aNil))))))) (sFz 3 (sRet (mCall M__law_are_right (aCons (mVar 3) (aNil)))))))))))))
-- law: 0 script, 1 k
def M_law : FM := fnM 1 1 (sRet (mB fAll (aCons (mLcV (mRng1 (aCons (mB fMax (aCons (mK (.int 1)) (aCons (mB fMin (aCons (mK (.int 2)) (aCons (mB fLen (aCons (mVar 0) (aNil))) (aNil)))) (aNil)))) (aNil))) (gmN 1) (mYes) (mCallF M__law_right (mCall M__law_pot (aCons (mVar 0) (aCons (mVar 1) (aNil))))) [1]) (aNil))))
structure Txt (w : World) (K : PySem.W.Frag) (mg : Str → Option Value) where
  f_is_integer : Addr
  d_is_integer : FuncData
  F_is_integer : L2.Fun K "is_integer" "is_integer" s_is_integer f_is_integer d_is_integer
  G_is_integer : mg "is_integer" = some (.ref f_is_integer)
  f_is_count : Addr
  d_is_count : FuncData
  F_is_count : L2.Fun K "is_count" "is_count" s_is_count f_is_count d_is_count
  G_is_count : mg "is_count" = some (.ref f_is_count)
  f_is_name : Addr
  d_is_name : FuncData
  F_is_name : L2.Fun K "is_name" "is_name" s_is_name f_is_name d_is_name
  G_is_name : mg "is_name" = some (.ref f_is_name)
  f_is_told : Addr
  d_is_told : FuncData
  F_is_told : L2.Fun K "is_told" "is_told" s_is_told f_is_told d_is_told
  G_is_told : mg "is_told" = some (.ref f_is_told)
  f_parts_of : Addr
  d_parts_of : FuncData
  F_parts_of : L2.Fun K "parts_of" "parts_of" s_parts_of f_parts_of d_parts_of
  G_parts_of : mg "parts_of" = some (.ref f_parts_of)
  f_is_worded : Addr
  d_is_worded : FuncData
  F_is_worded : L2.Fun K "is_worded" "is_worded" s_is_worded f_is_worded d_is_worded
  G_is_worded : mg "is_worded" = some (.ref f_is_worded)
  f_is_call : Addr
  d_is_call : FuncData
  F_is_call : L2.Fun K "is_call" "is_call" s_is_call f_is_call d_is_call
  G_is_call : mg "is_call" = some (.ref f_is_call)
  f_is_leaf : Addr
  d_is_leaf : FuncData
  F_is_leaf : L2.Fun K "is_leaf" "is_leaf" s_is_leaf f_is_leaf d_is_leaf
  G_is_leaf : mg "is_leaf" = some (.ref f_is_leaf)
  f_is_letter : Addr
  d_is_letter : FuncData
  F_is_letter : L2.Fun K "is_letter" "is_letter" s_is_letter f_is_letter d_is_letter
  G_is_letter : mg "is_letter" = some (.ref f_is_letter)
  f_is_formula : Addr
  d_is_formula : FuncData
  F_is_formula : L2.Fun K "is_formula" "is_formula" s_is_formula f_is_formula d_is_formula
  G_is_formula : mg "is_formula" = some (.ref f_is_formula)
  f_below : Addr
  d_below : FuncData
  F_below : L2.Fun K "below" "below" s_below f_below d_below
  G_below : mg "below" = some (.ref f_below)
  f_is_simple_by : Addr
  d_is_simple_by : FuncData
  F_is_simple_by : L2.Fun K "is_simple_by" "is_simple_by" s_is_simple_by f_is_simple_by d_is_simple_by
  G_is_simple_by : mg "is_simple_by" = some (.ref f_is_simple_by)
  f_is_simple : Addr
  d_is_simple : FuncData
  F_is_simple : L2.Fun K "is_simple" "is_simple" s_is_simple f_is_simple d_is_simple
  G_is_simple : mg "is_simple" = some (.ref f_is_simple)
  f__law_pot : Addr
  d__law_pot : FuncData
  F__law_pot : L2.Fun K "_law_pot" "_law_pot" s__law_pot f__law_pot d__law_pot
  G__law_pot : mg "_law_pot" = some (.ref f__law_pot)
  f__law_draw : Addr
  d__law_draw : FuncData
  F__law_draw : L2.Fun K "_law_draw" "_law_draw" s__law_draw f__law_draw d__law_draw
  G__law_draw : mg "_law_draw" = some (.ref f__law_draw)
  f__law_pick : Addr
  d__law_pick : FuncData
  F__law_pick : L2.Fun K "_law_pick" "_law_pick" s__law_pick f__law_pick d__law_pick
  G__law_pick : mg "_law_pick" = some (.ref f__law_pick)
  f__law_formula : Addr
  d__law_formula : FuncData
  F__law_formula : L2.Fun K "_law_formula" "_law_formula" s__law_formula f__law_formula d__law_formula
  G__law_formula : mg "_law_formula" = some (.ref f__law_formula)
  f__law_simple : Addr
  d__law_simple : FuncData
  F__law_simple : L2.Fun K "_law_simple" "_law_simple" s__law_simple f__law_simple d__law_simple
  G__law_simple : mg "_law_simple" = some (.ref f__law_simple)
  f__law_is_name : Addr
  d__law_is_name : FuncData
  F__law_is_name : L2.Fun K "_law_is_name" "_law_is_name" s__law_is_name f__law_is_name d__law_is_name
  G__law_is_name : mg "_law_is_name" = some (.ref f__law_is_name)
  f__law_measure : Addr
  d__law_measure : FuncData
  F__law_measure : L2.Fun K "_law_measure" "_law_measure" s__law_measure f__law_measure d__law_measure
  G__law_measure : mg "_law_measure" = some (.ref f__law_measure)
  f__law_is_formula : Addr
  d__law_is_formula : FuncData
  F__law_is_formula : L2.Fun K "_law_is_formula" "_law_is_formula" s__law_is_formula f__law_is_formula d__law_is_formula
  G__law_is_formula : mg "_law_is_formula" = some (.ref f__law_is_formula)
  f__law_is_simple : Addr
  d__law_is_simple : FuncData
  F__law_is_simple : L2.Fun K "_law_is_simple" "_law_is_simple" s__law_is_simple f__law_is_simple d__law_is_simple
  G__law_is_simple : mg "_law_is_simple" = some (.ref f__law_is_simple)
  f__law_bent : Addr
  d__law_bent : FuncData
  F__law_bent : L2.Fun K "_law_bent" "_law_bent" s__law_bent f__law_bent d__law_bent
  G__law_bent : mg "_law_bent" = some (.ref f__law_bent)
  f__law_long : Addr
  d__law_long : FuncData
  F__law_long : L2.Fun K "_law_long" "_law_long" s__law_long f__law_long d__law_long
  G__law_long : mg "_law_long" = some (.ref f__law_long)
  f__law_wide : Addr
  d__law_wide : FuncData
  F__law_wide : L2.Fun K "_law_wide" "_law_wide" s__law_wide f__law_wide d__law_wide
  G__law_wide : mg "_law_wide" = some (.ref f__law_wide)
  f__law_are_right : Addr
  d__law_are_right : FuncData
  F__law_are_right : L2.Fun K "_law_are_right" "_law_are_right" s__law_are_right f__law_are_right d__law_are_right
  G__law_are_right : mg "_law_are_right" = some (.ref f__law_are_right)
  f__law_right : Addr
  d__law_right : FuncData
  F__law_right : L2.Fun K "_law_right" "_law_right" s__law_right f__law_right d__law_right
  G__law_right : mg "_law_right" = some (.ref f__law_right)
  f_law : Addr
  d_law : FuncData
  F_law : L2.Fun K "law" "law" s_law f_law d_law
  G_law : mg "law" = some (.ref f_law)
  z_abs : mg "abs" = none
  z_all : mg "all" = none
  z_bool : mg "bool" = none
  z_divmod : mg "divmod" = none
  z_enumerate : mg "enumerate" = none
  z_int : mg "int" = none
  z_isinstance : mg "isinstance" = none
  z_len : mg "len" = none
  z_list : mg "list" = none
  z_max : mg "max" = none
  z_min : mg "min" = none
  z_range : mg "range" = none
  z_repr : mg "repr" = none
  z_str : mg "str" = none
  z_tuple : mg "tuple" = none
  z_zip : mg "zip" = none
  c_AT : GC K mg "AT" (.str "at")
  c_CALL : GC K mg "CALL" (.str "call")
  c_IS : GC K mg "IS" (.str "is")
  c_KEPT : GC K mg "KEPT" (.tuple [(.str "and"), (.str "answer"), (.str "asked"), (.str "define"), (.str "else"), (.str "if"), (.str "no"), (.str "not"), (.str "nothing"), (.str "or"), (.str "riddle"), (.str "sees"), (.str "then"), (.str "wish"), (.str "yes")])
  c_LETTERS : GC K mg "LETTERS" (.str "abcdefghijklmnopqrstuvwxyz")
  c_MOST_DEEP : GC K mg "MOST_DEEP" (.int 40)
  c_MOST_NAME : GC K mg "MOST_NAME" (.int 12)
  c_MOST_SIZE : GC K mg "MOST_SIZE" (.int 400)
  c_MOST_TOLD : GC K mg "MOST_TOLD" (.int 200)
  c_MOST_TOLD_DEEP : GC K mg "MOST_TOLD_DEEP" (.int 20)
  a_PARTS : Addr
  t_PARTS : mg "PARTS" = some (.ref a_PARTS) ∧ KTab K w a_PARTS tb_PARTS
section
variable {w : World} {K : PySem.W.Frag} {mg : Str → Option Value} {base : Heap}
theorem b_is_integer (T : Txt w K mg) : Binds K T.d_is_integer p_is_integer [] := T.F_is_integer.binds fun _ _ _ _ _ _ us hl => match us, hl with | [_], _ => rfl
theorem b_is_count (T : Txt w K mg) : Binds K T.d_is_count p_is_count [] := T.F_is_count.binds fun _ _ _ _ _ _ us hl => match us, hl with | [_], _ => rfl
theorem b_is_name (T : Txt w K mg) : Binds K T.d_is_name p_is_name [] := T.F_is_name.binds fun _ _ _ _ _ _ us hl => match us, hl with | [_], _ => rfl
theorem bk_is_name (T : Txt w K mg) : ∀ (s : Shared) (ws : List Value), K.In s.heap → ws.length = p_is_name.length → BindsTo s T.d_is_name ⟨[], p_is_name.zip ws⟩ (p_is_name.zip ws) := fun s ws _ hl => binds_kw T.F_is_name s ws hl fun _ _ _ _ _ _ us hl => match us, hl with | [_], _ => rfl
theorem b_is_told (T : Txt w K mg) : Binds K T.d_is_told p_is_told [] := T.F_is_told.binds fun _ _ _ _ _ _ us hl => match us, hl with | [_, _, _], _ => rfl
theorem b_parts_of (T : Txt w K mg) : Binds K T.d_parts_of p_parts_of [] := T.F_parts_of.binds fun _ _ _ _ _ _ us hl => match us, hl with | [_], _ => rfl
theorem b_is_worded (T : Txt w K mg) : Binds K T.d_is_worded p_is_worded [] := T.F_is_worded.binds fun _ _ _ _ _ _ us hl => match us, hl with | [_], _ => rfl
theorem b_is_call (T : Txt w K mg) : Binds K T.d_is_call p_is_call [] := T.F_is_call.binds fun _ _ _ _ _ _ us hl => match us, hl with | [_], _ => rfl
theorem b_is_leaf (T : Txt w K mg) : Binds K T.d_is_leaf p_is_leaf [] := T.F_is_leaf.binds fun _ _ _ _ _ _ us hl => match us, hl with | [_], _ => rfl
theorem b_is_letter (T : Txt w K mg) : Binds K T.d_is_letter p_is_letter [] := T.F_is_letter.binds fun _ _ _ _ _ _ us hl => match us, hl with | [_, _], _ => rfl
theorem b_is_formula (T : Txt w K mg) : Binds K T.d_is_formula p_is_formula [] := T.F_is_formula.binds fun _ _ _ _ _ _ us hl => match us, hl with | [_], _ => rfl
theorem bk_is_formula (T : Txt w K mg) : ∀ (s : Shared) (ws : List Value), K.In s.heap → ws.length = p_is_formula.length → BindsTo s T.d_is_formula ⟨[], p_is_formula.zip ws⟩ (p_is_formula.zip ws) := fun s ws _ hl => binds_kw T.F_is_formula s ws hl fun _ _ _ _ _ _ us hl => match us, hl with | [_], _ => rfl
theorem b_below (T : Txt w K mg) : Binds K T.d_below p_below [] := T.F_below.binds fun _ _ _ _ _ _ us hl => match us, hl with | [_, _], _ => rfl
theorem b_is_simple_by (T : Txt w K mg) : Binds K T.d_is_simple_by p_is_simple_by [] := T.F_is_simple_by.binds fun _ _ _ _ _ _ us hl => match us, hl with | [_, _], _ => rfl
theorem b_is_simple (T : Txt w K mg) : Binds K T.d_is_simple p_is_simple [] := T.F_is_simple.binds fun _ _ _ _ _ _ us hl => match us, hl with | [_], _ => rfl
theorem bk_is_simple (T : Txt w K mg) : ∀ (s : Shared) (ws : List Value), K.In s.heap → ws.length = p_is_simple.length → BindsTo s T.d_is_simple ⟨[], p_is_simple.zip ws⟩ (p_is_simple.zip ws) := fun s ws _ hl => binds_kw T.F_is_simple s ws hl fun _ _ _ _ _ _ us hl => match us, hl with | [_], _ => rfl
theorem b__law_pot (T : Txt w K mg) : Binds K T.d__law_pot p__law_pot [] := T.F__law_pot.binds fun _ _ _ _ _ _ us hl => match us, hl with | [_, _], _ => rfl
theorem b__law_draw (T : Txt w K mg) : Binds K T.d__law_draw p__law_draw [] := T.F__law_draw.binds fun _ _ _ _ _ _ us hl => match us, hl with | [_, _], _ => rfl
theorem b__law_pick (T : Txt w K mg) : Binds K T.d__law_pick p__law_pick [] := T.F__law_pick.binds fun _ _ _ _ _ _ us hl => match us, hl with | [_, _], _ => rfl
theorem b__law_formula (T : Txt w K mg) : Binds K T.d__law_formula p__law_formula [] := T.F__law_formula.binds fun _ _ _ _ _ _ us hl => match us, hl with | [_, _, _], _ => rfl
theorem b__law_simple (T : Txt w K mg) : Binds K T.d__law_simple p__law_simple [] := T.F__law_simple.binds fun _ _ _ _ _ _ us hl => match us, hl with | [_, _, _], _ => rfl
theorem b__law_is_name (T : Txt w K mg) : Binds K T.d__law_is_name p__law_is_name [] := T.F__law_is_name.binds fun _ _ _ _ _ _ us hl => match us, hl with | [_], _ => rfl
theorem b__law_measure (T : Txt w K mg) : Binds K T.d__law_measure p__law_measure [] := T.F__law_measure.binds fun _ _ _ _ _ _ us hl => match us, hl with | [_, _, _], _ => rfl
theorem b__law_is_formula (T : Txt w K mg) : Binds K T.d__law_is_formula p__law_is_formula [] := T.F__law_is_formula.binds fun _ _ _ _ _ _ us hl => match us, hl with | [_], _ => rfl
theorem b__law_is_simple (T : Txt w K mg) : Binds K T.d__law_is_simple p__law_is_simple [] := T.F__law_is_simple.binds fun _ _ _ _ _ _ us hl => match us, hl with | [_], _ => rfl
theorem b__law_bent (T : Txt w K mg) : Binds K T.d__law_bent p__law_bent [] := T.F__law_bent.binds fun _ _ _ _ _ _ us hl => match us, hl with | [_, _], _ => rfl
theorem b__law_long (T : Txt w K mg) : Binds K T.d__law_long p__law_long [] := T.F__law_long.binds fun _ _ _ _ _ _ us hl => match us, hl with | [_, _, _, _], _ => rfl
theorem b__law_wide (T : Txt w K mg) : Binds K T.d__law_wide p__law_wide [] := T.F__law_wide.binds fun _ _ _ _ _ _ us hl => match us, hl with | [_, _], _ => rfl
theorem b__law_are_right (T : Txt w K mg) : Binds K T.d__law_are_right p__law_are_right [] := T.F__law_are_right.binds fun _ _ _ _ _ _ us hl => match us, hl with | [_], _ => rfl
theorem b__law_right (T : Txt w K mg) : Binds K T.d__law_right p__law_right [] := T.F__law_right.binds fun _ _ _ _ _ _ us hl => match us, hl with | [_], _ => rfl
theorem b_law (T : Txt w K mg) : Binds K T.d_law p_law [] := T.F_law.binds fun _ _ _ _ _ _ us hl => match us, hl with | [_], _ => rfl
theorem ok_is_integer (T : Txt w K mg) : FnV PySem.Challenge.pw_partsight_k17_any_value_as_formula w K mg base 1 T.f_is_integer T.d_is_integer p_is_integer M_is_integer := fnv_of (k := 0) T.F_is_integer sc_is_integer fun cdv A outer s H E hr hG => by
    have C := (bod_of (P := PySem.Challenge.pw_partsight_k17_any_value_as_formula) (w := w) (K := K) (mg := mg) (base := base) (N := N_is_integer) (outer := outer) (H := H) (E := E) hr hG).toCnd
    exact vb_one (vs_ret (ve_and (ve_isi (t := .int) rfl T.z_isinstance ⟨rfl, T.z_int, PyProof.Rows.boot_int, by decide, by decide⟩ (ve_var 0)) (ve_one (ve_not (ve_isi (t := .bool) rfl T.z_isinstance ⟨rfl, T.z_bool, PyProof.Rows.boot_bool, by decide, by decide⟩ (ve_var 0))))))
theorem ok_is_count (T : Txt w K mg) : FnV PySem.Challenge.pw_partsight_k17_any_value_as_formula w K mg base 2 T.f_is_count T.d_is_count p_is_count M_is_count := fnv_of (k := 1) T.F_is_count sc_is_count fun cdv A outer s H E hr hG => by
    have C := (bod_of (P := PySem.Challenge.pw_partsight_k17_any_value_as_formula) (w := w) (K := K) (mg := mg) (base := base) (N := N_is_count) (outer := outer) (H := H) (E := E) hr hG).toCnd
    exact vb_one (vs_ret (ve_and (ve_call (ok_is_integer T) (hr.mono (by decide)) C rfl T.G_is_integer T.F_is_integer.kp (b_is_integer T) rfl (va_cons (ve_var 0) (va_nil)) (al_cons al_nil)) (ve_one (ve_cmp op_ge opB_ge (ve_var 0) (ve_int) (nomark _)))))
theorem ok_is_name (T : Txt w K mg) : FnV PySem.Challenge.pw_partsight_k17_any_value_as_formula w K mg base 1 T.f_is_name T.d_is_name p_is_name M_is_name := fnv_of (k := 0) T.F_is_name sc_is_name fun cdv A outer s H E hr hG => by
    have C := (bod_of (P := PySem.Challenge.pw_partsight_k17_any_value_as_formula) (w := w) (K := K) (mg := mg) (base := base) (N := N_is_name) (outer := outer) (H := H) (E := E) hr hG).toCnd
    exact vb_cons (vs_if (vt_w (vw_or (vt_not (vt_tr (ve_isi (t := .str) rfl T.z_isinstance ⟨rfl, T.z_str, PyProof.Rows.boot_str, by decide, by decide⟩ (ve_var 0)))) (vw_or (vt_not (vt_chain (op_leR (u0 hr)) opB_le (op_leR (u0 hr)) opB_le (ve_int) (ve_callB call_len callB_len rfl T.z_len PySem.boot_len (va_cons (ve_var 0) (va_nil))) (ve_gc T.c_MOST_NAME rfl) rfl)) (vw_or1 (vt_cmp (op_inR (u65 hr)) opB_in (ve_var 0) (ve_gc T.c_KEPT rfl) rfl))))) (vb_one (vs_ret (ve_bl))) (vb_nil)) (vb_one (vs_ret (ve_callB (cr_all rfl) callB_all rfl T.z_all PyProof.Rows.boot_all (va_cons (ve_lc (own := [("sign", 1)]) (g := (gName 1)) rfl sc_is_name.nd (vi_seq (ve_var 0)) (blkOk_by (own := [("sign", 1)]) (N := N_is_name) (sc := defScope s_is_name) (by decide +kernel)) (fun _ _ _ _ _ => (pg_name (i := 1) sc_is_name.nd rfl (by first | exact .inl rfl | exact .inr rfl))) (tg_name (i := 1) (vs := [1]) (by simp)) (fun _ _ _ _ _ => vts_nil) (fun _ _ _ _ _ => ve_cmp (op_inR (u65 hr)) opB_in (ve_var 1) (ve_gc T.c_LETTERS rfl) rfl)) (va_nil)))))
theorem ok_is_told (T : Txt w K mg) : FnV PySem.Challenge.pw_partsight_k17_any_value_as_formula w K mg base 1 T.f_is_told T.d_is_told p_is_told M_is_told := fnv_of (k := 0) T.F_is_told sc_is_told fun cdv A outer s H E hr hG => by
    have C := (bod_of (P := PySem.Challenge.pw_partsight_k17_any_value_as_formula) (w := w) (K := K) (mg := mg) (base := base) (N := N_is_told) (outer := outer) (H := H) (E := E) hr hG).toCnd
    exact vb_one (vs_ret (ve_and (ve_isi (t := .tup) rfl T.z_isinstance ⟨rfl, T.z_tuple, PyProof.Rows.boot_tuple, by decide, by decide⟩ (ve_var 0)) (ve_and (ve_cmp (op_eqD (u64 hr)) opB_eq (ve_callB call_len callB_len rfl T.z_len PySem.boot_len (va_cons (ve_var 0) (va_nil))) (ve_var 2) (nomark _)) (ve_and (ve_isi (t := .str) rfl T.z_isinstance ⟨rfl, T.z_str, PyProof.Rows.boot_str, by decide, by decide⟩ (ve_ix (ve_var 0) (ve_int))) (ve_one (ve_cmp (op_eqD (u64 hr)) opB_eq (ve_ix (ve_var 0) (ve_int)) (ve_var 1) (nomark _)))))))
theorem ok_parts_of (T : Txt w K mg) : FnV PySem.Challenge.pw_partsight_k17_any_value_as_formula w K mg base 1 T.f_parts_of T.d_parts_of p_parts_of M_parts_of := fnv_of (k := 0) T.F_parts_of sc_parts_of fun cdv A outer s H E hr hG => by
    have C := (bod_of (P := PySem.Challenge.pw_partsight_k17_any_value_as_formula) (w := w) (K := K) (mg := mg) (base := base) (N := N_parts_of) (outer := outer) (H := H) (E := E) hr hG).toCnd
    exact vb_cons (vs_if (vt_cmp (op_inR (u65 hr)) opB_in (ve_ix (ve_var 0) (ve_int)) (ve_tup (va_cons (ve_gc T.c_IS rfl) (va_cons (ve_gc T.c_AT rfl) (va_nil)))) rfl) (vb_one (vs_ret (ve_tup (va_nil)))) (vb_nil)) (vb_one (vs_ret (ve_if (vt_cmp (op_eqD (u64 hr)) opB_eq (ve_ix (ve_var 0) (ve_int)) (ve_gc T.c_CALL rfl) (nomark _)) (ve_ix (ve_var 0) (ve_int)) (ve_sl (ve_var 0) (vo_some (ve_int)) (vo_no)))))
theorem ok_is_worded (T : Txt w K mg) : FnV PySem.Challenge.pw_partsight_k17_any_value_as_formula w K mg base 1 T.f_is_worded T.d_is_worded p_is_worded M_is_worded := fnv_of (k := 0) T.F_is_worded sc_is_worded fun cdv A outer s H E hr hG => by
    have C := (bod_of (P := PySem.Challenge.pw_partsight_k17_any_value_as_formula) (w := w) (K := K) (mg := mg) (base := base) (N := N_is_worded) (outer := outer) (H := H) (E := E) hr hG).toCnd
    exact vb_cons (vs_if (vt_w (vw_or (vt_not (vt_tr (ve_isi (t := .tup) rfl T.z_isinstance ⟨rfl, T.z_tuple, PyProof.Rows.boot_tuple, by decide, by decide⟩ (ve_var 0)))) (vw_or (vt_cmp (op_eqD (u64 hr)) opB_eq (ve_var 0) (ve_tup (va_nil)) (nomark _)) (vw_or1 (vt_not (vt_tr (ve_isi (t := .str) rfl T.z_isinstance ⟨rfl, T.z_str, PyProof.Rows.boot_str, by decide, by decide⟩ (ve_ix (ve_var 0) (ve_int))))))))) (vb_one (vs_ret (ve_bl))) (vb_nil)) (vb_one (vs_ret (ve_and (ve_tabIn T.t_PARTS.2 rfl T.t_PARTS.1 (ve_ix (ve_var 0) (ve_int))) (ve_one (ve_cmp (op_eqD (u64 hr)) opB_eq (ve_callB call_len callB_len rfl T.z_len PySem.boot_len (va_cons (ve_var 0) (va_nil))) (ve_op op_addR opB_add (ve_tabGet T.t_PARTS.2 rfl T.t_PARTS.1 (ve_ix (ve_var 0) (ve_int))) (ve_int)) (nomark _))))))
theorem ok_is_call (T : Txt w K mg) : FnV PySem.Challenge.pw_partsight_k17_any_value_as_formula w K mg base 2 T.f_is_call T.d_is_call p_is_call M_is_call := fnv_of (k := 1) T.F_is_call sc_is_call fun cdv A outer s H E hr hG => by
    have C := (bod_of (P := PySem.Challenge.pw_partsight_k17_any_value_as_formula) (w := w) (K := K) (mg := mg) (base := base) (N := N_is_call) (outer := outer) (H := H) (E := E) hr hG).toCnd
    exact vb_one (vs_ret (ve_and (ve_call (ok_is_told T) (hr.mono (by decide)) C rfl T.G_is_told T.F_is_told.kp (b_is_told T) rfl (va_cons (ve_var 0) (va_cons (ve_gc T.c_CALL rfl) (va_cons (ve_int) (va_nil)))) (al_cons (al_cons (al_cons al_nil)))) (ve_and (ve_call (ok_is_name T) (hr.mono (by decide)) C rfl T.G_is_name T.F_is_name.kp (b_is_name T) rfl (va_cons (ve_ix (ve_var 0) (ve_int)) (va_nil)) (al_cons al_nil)) (ve_and (ve_isi (t := .tup) rfl T.z_isinstance ⟨rfl, T.z_tuple, PyProof.Rows.boot_tuple, by decide, by decide⟩ (ve_ix (ve_var 0) (ve_int))) (ve_one (ve_cmp (op_neD (u64 hr)) opB_ne (ve_ix (ve_var 0) (ve_int)) (ve_tup (va_nil)) (nomark _)))))))
theorem ok_is_leaf (T : Txt w K mg) : FnV PySem.Challenge.pw_partsight_k17_any_value_as_formula w K mg base 2 T.f_is_leaf T.d_is_leaf p_is_leaf M_is_leaf := fnv_of (k := 1) T.F_is_leaf sc_is_leaf fun cdv A outer s H E hr hG => by
    have C := (bod_of (P := PySem.Challenge.pw_partsight_k17_any_value_as_formula) (w := w) (K := K) (mg := mg) (base := base) (N := N_is_leaf) (outer := outer) (H := H) (E := E) hr hG).toCnd
    exact vb_one (vs_ret (ve_and (ve_call (ok_is_told T) (hr.mono (by decide)) C rfl T.G_is_told T.F_is_told.kp (b_is_told T) rfl (va_cons (ve_var 0) (va_cons (ve_gc T.c_IS rfl) (va_cons (ve_int) (va_nil)))) (al_cons (al_cons (al_cons al_nil)))) (ve_one (ve_call (ok_is_name T) (hr.mono (by decide)) C rfl T.G_is_name T.F_is_name.kp (b_is_name T) rfl (va_cons (ve_ix (ve_var 0) (ve_int)) (va_nil)) (al_cons al_nil)))))
theorem ok_is_letter (T : Txt w K mg) : FnV PySem.Challenge.pw_partsight_k17_any_value_as_formula w K mg base 3 T.f_is_letter T.d_is_letter p_is_letter M_is_letter := fnv_of (k := 2) T.F_is_letter sc_is_letter fun cdv A outer s H E hr hG => by
    have C := (bod_of (P := PySem.Challenge.pw_partsight_k17_any_value_as_formula) (w := w) (K := K) (mg := mg) (base := base) (N := N_is_letter) (outer := outer) (H := H) (E := E) hr hG).toCnd
    exact vb_one (vs_ret (ve_and (ve_call (ok_is_told T) (hr.mono (by decide)) C rfl T.G_is_told T.F_is_told.kp (b_is_told T) rfl (va_cons (ve_var 0) (va_cons (ve_gc T.c_AT rfl) (va_cons (ve_int) (va_nil)))) (al_cons (al_cons (al_cons al_nil)))) (ve_and (ve_call (ok_is_count T) (hr.mono (by decide)) C rfl T.G_is_count T.F_is_count.kp (b_is_count T) rfl (va_cons (ve_ix (ve_var 0) (ve_int)) (va_nil)) (al_cons al_nil)) (ve_one (ve_or (ve_cmp op_isN opB_is (ve_var 1) (ve_non) (nomark _)) (ve_one (ve_cmp (op_ltR (u0 hr)) opB_lt (ve_ix (ve_var 0) (ve_int)) (ve_var 1) (nomark _))))))))
theorem ok_is_formula (T : Txt w K mg) : FnV PySem.Challenge.pw_partsight_k17_any_value_as_formula w K mg base 3 T.f_is_formula T.d_is_formula p_is_formula M_is_formula := fnv_of (k := 2) T.F_is_formula sc_is_formula fun cdv A outer s H E hr hG => by
    have C := (bod_of (P := PySem.Challenge.pw_partsight_k17_any_value_as_formula) (w := w) (K := K) (mg := mg) (base := base) (N := N_is_formula) (outer := outer) (H := H) (E := E) hr hG).toCnd
    exact vb_cons (vs_par rfl sc_is_formula.nd (i := 1) (j := 2) rfl rfl (by decide) rfl rfl (ve_lst (va_cons (ve_tup (va_cons (ve_var 0) (va_cons (ve_int) (va_nil)))) (va_nil))) (ve_int) rfl) (vb_cons (vs_while 203 (passes_of rfl) (vt_cmp (op_neD (u64 hr)) opB_ne (ve_var 1) (ve_lst (va_nil)) (nomark _)) (vb_cons (vs_tg (g := (gTup K 2 (gCons (gName 3) (gCons (gName 4) gNil)))) (ve_pop (pv 1)) (pg_tup rfl (pgs_cons (pg_name (i := 3) sc_is_formula.nd rfl (by first | exact .inl rfl | exact .inr rfl)) (pgs_cons (pg_name (i := 4) sc_is_formula.nd rfl (by first | exact .inl rfl | exact .inr rfl)) pgs_nil))) (tg_tup (tgs_cons (tg_name (i := 3) (vs := [3, 4]) (by simp)) (tgs_cons (tg_name (i := 4) (vs := [3, 4]) (by simp)) tgs_nil)))) (vb_cons (vs_aug sc_is_formula.nd (i := 2) rfl (by first | exact .inl rfl | exact .inr rfl) iop_add (opB_int0 fun _ _ _ => by simp only [Dv]) (ve_int)) (vb_cons (vs_if (vt_w (vw_or (vt_cmp op_gt opB_gt (ve_var 2) (ve_gc T.c_MOST_TOLD rfl) (nomark _)) (vw_or (vt_cmp op_gt opB_gt (ve_var 4) (ve_gc T.c_MOST_TOLD_DEEP rfl) (nomark _)) (vw_or1 (vt_w (vw_and (vt_not (vt_tr (ve_call (ok_is_leaf T) (hr.mono (by decide)) C rfl T.G_is_leaf T.F_is_leaf.kp (b_is_leaf T) rfl (va_cons (ve_var 3) (va_nil)) (al_cons al_nil)))) (vw_and (vt_not (vt_tr (ve_call (ok_is_worded T) (hr.mono (by decide)) C rfl T.G_is_worded T.F_is_worded.kp (b_is_worded T) rfl (va_cons (ve_var 3) (va_nil)) (al_cons al_nil)))) (vw_and1 (vt_not (vt_tr (ve_call (ok_is_call T) (hr.mono (by decide)) C rfl T.G_is_call T.F_is_call.kp (b_is_call T) rfl (va_cons (ve_var 3) (va_nil)) (al_cons al_nil)))))))))))) (vb_one (vs_ret (ve_bl))) (vb_nil)) (vb_cons (vs_if (vt_cmp op_gt opB_gt (ve_op op_addR opB_add (ve_callB call_len callB_len rfl T.z_len PySem.boot_len (va_cons (ve_var 1) (va_nil))) (ve_callB call_len callB_len rfl T.z_len PySem.boot_len (va_cons (ve_call (ok_parts_of T) (hr.mono (by decide)) C rfl T.G_parts_of T.F_parts_of.kp (b_parts_of T) rfl (va_cons (ve_var 3) (va_nil)) (al_cons al_nil)) (va_nil)))) (ve_gc T.c_MOST_TOLD rfl) (nomark _)) (vb_one (vs_ret (ve_bl))) (vb_nil)) (vb_one (vs_ex (ve_ext (pv 1) (ve_lc (own := [("part", 5)]) (g := (gName 5)) rfl sc_is_formula.nd (vi_seq (ve_call (ok_parts_of T) (hr.mono (by decide)) C rfl T.G_parts_of T.F_parts_of.kp (b_parts_of T) rfl (va_cons (ve_var 3) (va_nil)) (al_cons al_nil))) (blkOk_by (own := [("part", 5)]) (N := N_is_formula) (sc := defScope s_is_formula) (by decide +kernel)) (fun _ _ _ _ _ => (pg_name (i := 5) sc_is_formula.nd rfl (by first | exact .inl rfl | exact .inr rfl))) (tg_name (i := 5) (vs := [5]) (by simp)) (fun _ _ _ _ _ => vts_nil) (fun _ _ _ _ _ => ve_tup (va_cons (ve_var 5) (va_cons (ve_op op_addR opB_add (ve_var 4) (ve_int)) (va_nil))))))))))))) (vb_one (vs_ret (ve_bl))))
theorem ok_below (T : Txt w K mg) : FnV PySem.Challenge.pw_partsight_k17_any_value_as_formula w K mg base 2 T.f_below T.d_below p_below M_below := fnv_of (k := 1) T.F_below sc_below fun cdv A outer s H E hr hG => by
    have C := (bod_of (P := PySem.Challenge.pw_partsight_k17_any_value_as_formula) (w := w) (K := K) (mg := mg) (base := base) (N := N_below) (outer := outer) (H := H) (E := E) hr hG).toCnd
    exact vb_cons (vs_set sc_below.nd (i := 2) rfl (by first | exact .inl rfl | exact .inr rfl) (ve_if (vt_cmp (op_eqD (u64 hr)) opB_eq (ve_ix (ve_var 0) (ve_int)) (ve_str) (nomark _)) (ve_lst (va_cons (ve_int) (va_cons (ve_int) (va_cons (ve_int) (va_nil))))) (ve_lst (va_cons (ve_int) (va_cons (ve_int) (va_nil)))))) (vb_one (vs_fz 2 (vs_ret (ve_lc (own := [("part", 3), ("step", 4)]) (g := (gTup K 2 (gCons (gName 3) (gCons (gName 4) gNil)))) rfl sc_below.nd (vi_zip rfl T.z_zip (va_cons (ve_call (ok_parts_of T) (hr.mono (by decide)) C rfl T.G_parts_of T.F_parts_of.kp (b_parts_of T) rfl (va_cons (ve_var 0) (va_nil)) (al_cons al_nil)) (va_cons (ve_var 2) (va_nil)))) (blkOk_by (own := [("part", 3), ("step", 4)]) (N := N_below) (sc := defScope s_below) (by decide +kernel)) (fun _ _ _ _ _ => (pg_tup rfl (pgs_cons (pg_name (i := 3) sc_below.nd rfl (by first | exact .inl rfl | exact .inr rfl)) (pgs_cons (pg_name (i := 4) sc_below.nd rfl (by first | exact .inl rfl | exact .inr rfl)) pgs_nil)))) (tg_tup (tgs_cons (tg_name (i := 3) (vs := [3, 4]) (by simp)) (tgs_cons (tg_name (i := 4) (vs := [3, 4]) (by simp)) tgs_nil))) (fun _ _ _ _ _ => vts_nil) (fun _ _ _ _ _ => ve_tup (va_cons (ve_var 3) (va_cons (ve_op op_addR opB_add (ve_var 1) (ve_var 4)) (va_nil))))))))
theorem ok_is_simple_by (T : Txt w K mg) : FnV PySem.Challenge.pw_partsight_k17_any_value_as_formula w K mg base 4 T.f_is_simple_by T.d_is_simple_by p_is_simple_by M_is_simple_by := fnv_of (k := 3) T.F_is_simple_by sc_is_simple_by fun cdv A outer s H E hr hG => by
    have C := (bod_of (P := PySem.Challenge.pw_partsight_k17_any_value_as_formula) (w := w) (K := K) (mg := mg) (base := base) (N := N_is_simple_by) (outer := outer) (H := H) (E := E) hr hG).toCnd
    exact vb_cons (vs_par rfl sc_is_simple_by.nd (i := 2) (j := 3) rfl rfl (by decide) rfl rfl (ve_lst (va_cons (ve_tup (va_cons (ve_var 0) (va_cons (ve_int) (va_nil)))) (va_nil))) (ve_int) rfl) (vb_cons (vs_while 403 (passes_of rfl) (vt_cmp (op_neD (u64 hr)) opB_ne (ve_var 2) (ve_lst (va_nil)) (nomark _)) (vb_cons (vs_tg (g := (gTup K 2 (gCons (gName 4) (gCons (gName 5) gNil)))) (ve_pop (pv 2)) (pg_tup rfl (pgs_cons (pg_name (i := 4) sc_is_simple_by.nd rfl (by first | exact .inl rfl | exact .inr rfl)) (pgs_cons (pg_name (i := 5) sc_is_simple_by.nd rfl (by first | exact .inl rfl | exact .inr rfl)) pgs_nil))) (tg_tup (tgs_cons (tg_name (i := 4) (vs := [4, 5]) (by simp)) (tgs_cons (tg_name (i := 5) (vs := [4, 5]) (by simp)) tgs_nil)))) (vb_cons (vs_aug sc_is_simple_by.nd (i := 3) rfl (by first | exact .inl rfl | exact .inr rfl) iop_add (opB_int0 fun _ _ _ => by simp only [Dv]) (ve_int)) (vb_cons (vs_if (vt_w (vw_or (vt_cmp op_gt opB_gt (ve_var 3) (ve_gc T.c_MOST_SIZE rfl) (nomark _)) (vw_or (vt_cmp op_gt opB_gt (ve_var 5) (ve_gc T.c_MOST_DEEP rfl) (nomark _)) (vw_or1 (vt_w (vw_and (vt_not (vt_tr (ve_call (ok_is_letter T) (hr.mono (by decide)) C rfl T.G_is_letter T.F_is_letter.kp (b_is_letter T) rfl (va_cons (ve_var 4) (va_cons (ve_var 1) (va_nil))) (al_cons (al_cons al_nil))))) (vw_and1 (vt_not (vt_tr (ve_call (ok_is_worded T) (hr.mono (by decide)) C rfl T.G_is_worded T.F_is_worded.kp (b_is_worded T) rfl (va_cons (ve_var 4) (va_nil)) (al_cons al_nil))))))))))) (vb_one (vs_ret (ve_bl))) (vb_nil)) (vb_one (vs_ex (ve_ext (pv 2) (ve_call (ok_below T) (hr.mono (by decide)) C rfl T.G_below T.F_below.kp (b_below T) rfl (va_cons (ve_var 4) (va_cons (ve_var 5) (va_nil))) (al_cons (al_cons al_nil)))))))))) (vb_one (vs_ret (ve_bl))))
theorem ok_is_simple (T : Txt w K mg) : FnV PySem.Challenge.pw_partsight_k17_any_value_as_formula w K mg base 5 T.f_is_simple T.d_is_simple p_is_simple M_is_simple := fnv_of (k := 4) T.F_is_simple sc_is_simple fun cdv A outer s H E hr hG => by
    have C := (bod_of (P := PySem.Challenge.pw_partsight_k17_any_value_as_formula) (w := w) (K := K) (mg := mg) (base := base) (N := N_is_simple) (outer := outer) (H := H) (E := E) hr hG).toCnd
    exact vb_one (vs_ret (ve_call (ok_is_simple_by T) (hr.mono (by decide)) C rfl T.G_is_simple_by T.F_is_simple_by.kp (b_is_simple_by T) rfl (va_cons (ve_var 0) (va_cons (ve_non) (va_nil))) (al_cons (al_cons al_nil))))
theorem ok__law_pot (T : Txt w K mg) : FnV PySem.Challenge.pw_partsight_k17_any_value_as_formula w K mg base 1 T.f__law_pot T.d__law_pot p__law_pot M__law_pot := fnv_of (k := 0) T.F__law_pot sc__law_pot fun cdv A outer s H E hr hG => by
    have C := (bod_of (P := PySem.Challenge.pw_partsight_k17_any_value_as_formula) (w := w) (K := K) (mg := mg) (base := base) (N := N__law_pot) (outer := outer) (H := H) (E := E) hr hG).toCnd
    exact vb_cons (vs_set sc__law_pot.nd (i := 2) rfl (by first | exact .inl rfl | exact .inr rfl) (ve_if (vt_cmp (op_ltR (u0 hr)) opB_lt (ve_var 1) (ve_callB call_len callB_len rfl T.z_len PySem.boot_len (va_cons (ve_var 0) (va_nil))) (nomark _)) (ve_callB call_abs callB_abs rfl T.z_abs PyProof.Rows.boot_abs (va_cons (ve_ix (ve_var 0) (ve_var 1)) (va_nil))) (ve_op op_addR opB_add (ve_op op_mulR opB_mul (ve_int) (ve_var 1)) (ve_int)))) (vb_one (vs_ret (ve_lst (va_cons (ve_callB (call_maxR rfl) callB_max rfl T.z_max PyProof.Rows.boot_max (va_cons (ve_int) (va_cons (ve_op op_sub opB_sub (ve_var 2) (ve_op op_pow opB_pow (ve_int) (ve_int))) (va_nil)))) (va_cons (ve_op op_addR opB_add (ve_op op_mod opB_mod (ve_callTy call_intR callB_int rfl T.z_int PyProof.Rows.boot_int (va_cons (ve_op op_addR opB_add (ve_op op_addR opB_add (ve_op op_mulR opB_mul (ve_op op_mod opB_mod (ve_callTy call_intR callB_int rfl T.z_int PyProof.Rows.boot_int (va_cons (ve_var 2) (va_nil))) (ve_int)) (ve_int)) (ve_op op_mulR opB_mul (ve_int) (ve_var 1))) (ve_int)) (va_nil))) (ve_int)) (ve_int)) (va_nil))))))
theorem ok__law_draw (T : Txt w K mg) : FnV PySem.Challenge.pw_partsight_k17_any_value_as_formula w K mg base 1 T.f__law_draw T.d__law_draw p__law_draw M__law_draw := fnv_of (k := 0) T.F__law_draw sc__law_draw fun cdv A outer s H E hr hG => by
    have C := (bod_of (P := PySem.Challenge.pw_partsight_k17_any_value_as_formula) (w := w) (K := K) (mg := mg) (base := base) (N := N__law_draw) (outer := outer) (H := H) (E := E) hr hG).toCnd
    exact vb_cons (vs_if (vt_cmp op_gt opB_gt (ve_ix (ve_var 0) (ve_int)) (ve_int) (nomark _)) (vb_cons (vs_dvm rfl rfl T.z_divmod (pv 0) sc__law_draw.nd rfl (by first | exact .inl rfl | exact .inr rfl) (va_cons (ve_ix (ve_var 0) (ve_int)) (va_cons (ve_var 1) (va_nil))) (by decide)) (vb_one (vs_ret (ve_var 2)))) (vb_nil)) (vb_cons (vs_st (pv 0) (ve_int) (ve_op op_mod opB_mod (ve_callTy call_intR callB_int rfl T.z_int PyProof.Rows.boot_int (va_cons (ve_op op_addR opB_add (ve_op op_mulR opB_mul (ve_ix (ve_var 0) (ve_int)) (ve_int)) (ve_int)) (va_nil))) (ve_int))) (vb_one (vs_ret (ve_op op_mod opB_mod (ve_callTy call_intR callB_int rfl T.z_int PyProof.Rows.boot_int (va_cons (ve_op op_fdiv opB_fdiv (ve_op op_mod opB_mod (ve_callTy call_intR callB_int rfl T.z_int PyProof.Rows.boot_int (va_cons (ve_op op_mulR opB_mul (ve_ix (ve_var 0) (ve_int)) (ve_ix (ve_var 0) (ve_int))) (va_nil))) (ve_int)) (ve_int)) (va_nil))) (ve_var 1)))))
theorem ok__law_pick (T : Txt w K mg) : FnV PySem.Challenge.pw_partsight_k17_any_value_as_formula w K mg base 2 T.f__law_pick T.d__law_pick p__law_pick M__law_pick := fnv_of (k := 1) T.F__law_pick sc__law_pick fun cdv A outer s H E hr hG => by
    have C := (bod_of (P := PySem.Challenge.pw_partsight_k17_any_value_as_formula) (w := w) (K := K) (mg := mg) (base := base) (N := N__law_pick) (outer := outer) (H := H) (E := E) hr hG).toCnd
    exact vb_one (vs_ret (ve_ix (ve_var 1) (ve_call (ok__law_draw T) (hr.mono (by decide)) C rfl T.G__law_draw T.F__law_draw.kp (b__law_draw T) rfl (va_cons (ve_var 0) (va_cons (ve_callB call_len callB_len rfl T.z_len PySem.boot_len (va_cons (ve_var 1) (va_nil))) (va_nil))) (al_cons (al_cons al_nil)))))
theorem ok__law_formula (T : Txt w K mg) : ∀ n : Nat, FnV PySem.Challenge.pw_partsight_k17_any_value_as_formula w K mg base (n + 2) T.f__law_formula T.d__law_formula p__law_formula (M__law_formula n)
  | 0 => fnv_stuck
  | n + 1 => FnV.mono (fnv_of (k := n + 2) T.F__law_formula sc__law_formula fun cdv A outer s H E hr hG => by
    have ih := ok__law_formula T n
    have C := (bod_of (P := PySem.Challenge.pw_partsight_k17_any_value_as_formula) (w := w) (K := K) (mg := mg) (base := base) (N := N__law_formula) (outer := outer) (H := H) (E := E) hr hG).toCnd
    exact vb_cons (vs_set sc__law_formula.nd (i := 3) rfl (by first | exact .inl rfl | exact .inr rfl) (ve_if (vt_cmp op_gt opB_gt (ve_var 2) (ve_int) (nomark _)) (ve_call (ok__law_draw T) (hr.mono (by omega)) C rfl T.G__law_draw T.F__law_draw.kp (b__law_draw T) rfl (va_cons (ve_var 0) (va_cons (ve_int) (va_nil))) (al_cons (al_cons al_nil))) (ve_int))) (vb_cons (vs_if (vt_cmp (op_ltR (u0 hr)) opB_lt (ve_var 3) (ve_int) (nomark _)) (vb_one (vs_ret (ve_if (vt_cmp (op_eqD (u64 hr)) opB_eq (ve_call (ok__law_draw T) (hr.mono (by omega)) C rfl T.G__law_draw T.F__law_draw.kp (b__law_draw T) rfl (va_cons (ve_var 0) (va_cons (ve_int) (va_nil))) (al_cons (al_cons al_nil))) (ve_int) (nomark _)) (ve_tup (va_cons (ve_call (ok__law_pick T) (hr.mono (by omega)) C rfl T.G__law_pick T.F__law_pick.kp (b__law_pick T) rfl (va_cons (ve_var 0) (va_cons (ve_lst (va_cons (ve_str) (va_cons (ve_str) (va_nil)))) (va_nil))) (al_cons (al_cons al_nil))) (va_nil))) (ve_tup (va_cons (ve_str) (va_cons (ve_call (ok__law_pick T) (hr.mono (by omega)) C rfl T.G__law_pick T.F__law_pick.kp (b__law_pick T) rfl (va_cons (ve_var 0) (va_cons (ve_var 1) (va_nil))) (al_cons (al_cons al_nil))) (va_nil))))))) (vb_nil)) (vb_cons (vs_if (vt_cmp (op_ltR (u0 hr)) opB_lt (ve_var 3) (ve_int) (nomark _)) (vb_one (vs_ret (ve_tup (va_cons (ve_str) (va_cons (ve_call ih hr C rfl T.G__law_formula T.F__law_formula.kp (b__law_formula T) rfl (va_cons (ve_var 0) (va_cons (ve_var 1) (va_cons (ve_op op_sub opB_sub (ve_var 2) (ve_int)) (va_nil)))) (al_cons (al_cons (al_cons al_nil)))) (va_nil)))))) (vb_nil)) (vb_cons (vs_if (vt_cmp (op_ltR (u0 hr)) opB_lt (ve_var 3) (ve_int) (nomark _)) (vb_cons (vs_set sc__law_formula.nd (i := 4) rfl (by first | exact .inl rfl | exact .inr rfl) (ve_call (ok__law_pick T) (hr.mono (by omega)) C rfl T.G__law_pick T.F__law_pick.kp (b__law_pick T) rfl (va_cons (ve_var 0) (va_cons (ve_lst (va_cons (ve_str) (va_cons (ve_str) (va_cons (ve_str) (va_nil))))) (va_nil))) (al_cons (al_cons al_nil)))) (vb_one (vs_ret (ve_tup (va_cons (ve_var 4) (va_cons (ve_call ih hr C rfl T.G__law_formula T.F__law_formula.kp (b__law_formula T) rfl (va_cons (ve_var 0) (va_cons (ve_var 1) (va_cons (ve_op op_sub opB_sub (ve_var 2) (ve_int)) (va_nil)))) (al_cons (al_cons (al_cons al_nil)))) (va_cons (ve_call ih hr C rfl T.G__law_formula T.F__law_formula.kp (b__law_formula T) rfl (va_cons (ve_var 0) (va_cons (ve_var 1) (va_cons (ve_op op_sub opB_sub (ve_var 2) (ve_int)) (va_nil)))) (al_cons (al_cons (al_cons al_nil)))) (va_nil)))))))) (vb_nil)) (vb_cons (vs_set sc__law_formula.nd (i := 5) rfl (by first | exact .inl rfl | exact .inr rfl) (ve_callTy call_tuple_of callB_tuple rfl T.z_tuple PyProof.Rows.boot_tuple (va_cons (ve_lc (own := [("turn", 6)]) (g := (gName 6)) rfl sc__law_formula.nd (vi_range1 rfl T.z_range (va_cons (ve_int) (va_nil))) (blkOk_by (own := [("turn", 6)]) (N := N__law_formula) (sc := defScope s__law_formula) (by decide +kernel)) (fun _ _ _ _ _ => (pg_name (i := 6) sc__law_formula.nd rfl (by first | exact .inl rfl | exact .inr rfl))) (tg_name (i := 6) (vs := [6]) (by simp)) (fun _ _ _ _ _ => vts_nil) (fun _ _ _ _ _ => ve_call ih hr ⟨takes0, hG, rfl⟩ rfl T.G__law_formula T.F__law_formula.kp (b__law_formula T) rfl (va_cons (ve_var 0) (va_cons (ve_var 1) (va_cons (ve_op op_sub opB_sub (ve_var 2) (ve_int)) (va_nil)))) (al_cons (al_cons (al_cons al_nil))))) (va_nil)))) (vb_one (vs_ret (ve_if (vt_cmp (op_eqD (u64 hr)) opB_eq (ve_var 3) (ve_int) (nomark _)) (ve_op op_addR opB_add (ve_tup (va_cons (ve_str) (va_nil))) (ve_var 5)) (ve_tup (va_cons (ve_str) (va_cons (ve_call (ok__law_pick T) (hr.mono (by omega)) C rfl T.G__law_pick T.F__law_pick.kp (b__law_pick T) rfl (va_cons (ve_var 0) (va_cons (ve_var 1) (va_nil))) (al_cons (al_cons al_nil))) (va_cons (ve_sl (ve_var 5) (vo_no) (vo_some (ve_op op_addR opB_add (ve_int) (ve_call (ok__law_draw T) (hr.mono (by omega)) C rfl T.G__law_draw T.F__law_draw.kp (b__law_draw T) rfl (va_cons (ve_var 0) (va_cons (ve_int) (va_nil))) (al_cons (al_cons al_nil)))))) (va_nil))))))))))))) (by omega)
theorem ok__law_simple (T : Txt w K mg) : ∀ n : Nat, FnV PySem.Challenge.pw_partsight_k17_any_value_as_formula w K mg base (n + 2) T.f__law_simple T.d__law_simple p__law_simple (M__law_simple n)
  | 0 => fnv_stuck
  | n + 1 => FnV.mono (fnv_of (k := n + 2) T.F__law_simple sc__law_simple fun cdv A outer s H E hr hG => by
    have ih := ok__law_simple T n
    have C := (bod_of (P := PySem.Challenge.pw_partsight_k17_any_value_as_formula) (w := w) (K := K) (mg := mg) (base := base) (N := N__law_simple) (outer := outer) (H := H) (E := E) hr hG).toCnd
    exact vb_cons (vs_set sc__law_simple.nd (i := 3) rfl (by first | exact .inl rfl | exact .inr rfl) (ve_if (vt_cmp op_gt opB_gt (ve_var 2) (ve_int) (nomark _)) (ve_call (ok__law_draw T) (hr.mono (by omega)) C rfl T.G__law_draw T.F__law_draw.kp (b__law_draw T) rfl (va_cons (ve_var 0) (va_cons (ve_int) (va_nil))) (al_cons (al_cons al_nil))) (ve_int))) (vb_cons (vs_if (vt_cmp (op_ltR (u0 hr)) opB_lt (ve_var 3) (ve_int) (nomark _)) (vb_one (vs_ret (ve_if (vt_w (vw_or (vt_cmp (op_eqD (u64 hr)) opB_eq (ve_var 1) (ve_int) (nomark _)) (vw_or1 (vt_cmp (op_eqD (u64 hr)) opB_eq (ve_call (ok__law_draw T) (hr.mono (by omega)) C rfl T.G__law_draw T.F__law_draw.kp (b__law_draw T) rfl (va_cons (ve_var 0) (va_cons (ve_int) (va_nil))) (al_cons (al_cons al_nil))) (ve_int) (nomark _))))) (ve_tup (va_cons (ve_call (ok__law_pick T) (hr.mono (by omega)) C rfl T.G__law_pick T.F__law_pick.kp (b__law_pick T) rfl (va_cons (ve_var 0) (va_cons (ve_lst (va_cons (ve_str) (va_cons (ve_str) (va_nil)))) (va_nil))) (al_cons (al_cons al_nil))) (va_nil))) (ve_tup (va_cons (ve_str) (va_cons (ve_call (ok__law_draw T) (hr.mono (by omega)) C rfl T.G__law_draw T.F__law_draw.kp (b__law_draw T) rfl (va_cons (ve_var 0) (va_cons (ve_var 1) (va_nil))) (al_cons (al_cons al_nil))) (va_nil))))))) (vb_nil)) (vb_cons (vs_if (vt_cmp (op_ltR (u0 hr)) opB_lt (ve_var 3) (ve_int) (nomark _)) (vb_one (vs_ret (ve_tup (va_cons (ve_str) (va_cons (ve_call ih hr C rfl T.G__law_simple T.F__law_simple.kp (b__law_simple T) rfl (va_cons (ve_var 0) (va_cons (ve_var 1) (va_cons (ve_op op_sub opB_sub (ve_var 2) (ve_int)) (va_nil)))) (al_cons (al_cons (al_cons al_nil)))) (va_nil)))))) (vb_nil)) (vb_cons (vs_if (vt_cmp (op_ltR (u0 hr)) opB_lt (ve_var 3) (ve_int) (nomark _)) (vb_one (vs_ret (ve_tup (va_cons (ve_call (ok__law_pick T) (hr.mono (by omega)) C rfl T.G__law_pick T.F__law_pick.kp (b__law_pick T) rfl (va_cons (ve_var 0) (va_cons (ve_lst (va_cons (ve_str) (va_cons (ve_str) (va_cons (ve_str) (va_nil))))) (va_nil))) (al_cons (al_cons al_nil))) (va_cons (ve_call ih hr C rfl T.G__law_simple T.F__law_simple.kp (b__law_simple T) rfl (va_cons (ve_var 0) (va_cons (ve_var 1) (va_cons (ve_op op_sub opB_sub (ve_var 2) (ve_int)) (va_nil)))) (al_cons (al_cons (al_cons al_nil)))) (va_cons (ve_call ih hr C rfl T.G__law_simple T.F__law_simple.kp (b__law_simple T) rfl (va_cons (ve_var 0) (va_cons (ve_var 1) (va_cons (ve_op op_sub opB_sub (ve_var 2) (ve_int)) (va_nil)))) (al_cons (al_cons (al_cons al_nil)))) (va_nil))))))) (vb_nil)) (vb_one (vs_ret (ve_op op_addR opB_add (ve_tup (va_cons (ve_str) (va_nil))) (ve_callTy call_tuple_of callB_tuple rfl T.z_tuple PyProof.Rows.boot_tuple (va_cons (ve_lc (own := [("turn", 4)]) (g := (gName 4)) rfl sc__law_simple.nd (vi_range1 rfl T.z_range (va_cons (ve_int) (va_nil))) (blkOk_by (own := [("turn", 4)]) (N := N__law_simple) (sc := defScope s__law_simple) (by decide +kernel)) (fun _ _ _ _ _ => (pg_name (i := 4) sc__law_simple.nd rfl (by first | exact .inl rfl | exact .inr rfl))) (tg_name (i := 4) (vs := [4]) (by simp)) (fun _ _ _ _ _ => vts_nil) (fun _ _ _ _ _ => ve_call ih hr ⟨takes0, hG, rfl⟩ rfl T.G__law_simple T.F__law_simple.kp (b__law_simple T) rfl (va_cons (ve_var 0) (va_cons (ve_var 1) (va_cons (ve_op op_sub opB_sub (ve_var 2) (ve_int)) (va_nil)))) (al_cons (al_cons (al_cons al_nil))))) (va_nil)))))))))) (by omega)
theorem ok__law_is_name (T : Txt w K mg) : FnV PySem.Challenge.pw_partsight_k17_any_value_as_formula w K mg base 1 T.f__law_is_name T.d__law_is_name p__law_is_name M__law_is_name := fnv_of (k := 0) T.F__law_is_name sc__law_is_name fun cdv A outer s H E hr hG => by
    have C := (bod_of (P := PySem.Challenge.pw_partsight_k17_any_value_as_formula) (w := w) (K := K) (mg := mg) (base := base) (N := N__law_is_name) (outer := outer) (H := H) (E := E) hr hG).toCnd
    exact vb_cons (vs_set sc__law_is_name.nd (i := 1) rfl (by first | exact .inl rfl | exact .inr rfl) (ve_lst (va_cons (ve_str) (va_cons (ve_str) (va_cons (ve_str) (va_cons (ve_str) (va_cons (ve_str) (va_cons (ve_str) (va_cons (ve_str) (va_cons (ve_str) (va_cons (ve_str) (va_cons (ve_str) (va_cons (ve_str) (va_cons (ve_str) (va_cons (ve_str) (va_cons (ve_str) (va_cons (ve_str) (va_nil)))))))))))))))))) (vb_cons (vs_if (vt_w (vw_or (vt_not (vt_tr (ve_isi (t := .str) rfl T.z_isinstance ⟨rfl, T.z_str, PyProof.Rows.boot_str, by decide, by decide⟩ (ve_var 0)))) (vw_or (vt_cmp (op_inR (u65 hr)) opB_in (ve_var 0) (ve_var 1) rfl) (vw_or1 (vt_not (vt_chain (op_leR (u0 hr)) opB_le (op_leR (u0 hr)) opB_le (ve_int) (ve_callB call_len callB_len rfl T.z_len PySem.boot_len (va_cons (ve_var 0) (va_nil))) (ve_int) rfl)))))) (vb_one (vs_ret (ve_bl))) (vb_nil)) (vb_one (vs_ret (ve_callB (cr_all rfl) callB_all rfl T.z_all PyProof.Rows.boot_all (va_cons (ve_lc (own := [("sign", 2)]) (g := (gName 2)) rfl sc__law_is_name.nd (vi_seq (ve_var 0)) (blkOk_by (own := [("sign", 2)]) (N := N__law_is_name) (sc := defScope s__law_is_name) (by decide +kernel)) (fun _ _ _ _ _ => (pg_name (i := 2) sc__law_is_name.nd rfl (by first | exact .inl rfl | exact .inr rfl))) (tg_name (i := 2) (vs := [2]) (by simp)) (fun _ _ _ _ _ => vts_nil) (fun _ _ _ _ _ => ve_cmp (op_inR (u65 hr)) opB_in (ve_var 2) (ve_str) rfl)) (va_nil))))))
theorem ok__law_measure (T : Txt w K mg) : ∀ n : Nat, FnV PySem.Challenge.pw_partsight_k17_any_value_as_formula w K mg base (n + 1) T.f__law_measure T.d__law_measure p__law_measure (M__law_measure n)
  | 0 => fnv_stuck
  | n + 1 => FnV.mono (fnv_of (k := n + 1) T.F__law_measure sc__law_measure fun cdv A outer s H E hr hG => by
    have ih := ok__law_measure T n
    have C := (bod_of (P := PySem.Challenge.pw_partsight_k17_any_value_as_formula) (w := w) (K := K) (mg := mg) (base := base) (N := N__law_measure) (outer := outer) (H := H) (E := E) hr hG).toCnd
    exact vb_cons (vs_if (vt_w (vw_or (vt_cmp (op_ltR (u0 hr)) opB_lt (ve_var 2) (ve_int) (nomark _)) (vw_or (vt_not (vt_tr (ve_isi (t := .tup) rfl T.z_isinstance ⟨rfl, T.z_tuple, PyProof.Rows.boot_tuple, by decide, by decide⟩ (ve_var 0)))) (vw_or (vt_cmp (op_eqD (u64 hr)) opB_eq (ve_callB call_len callB_len rfl T.z_len PySem.boot_len (va_cons (ve_var 0) (va_nil))) (ve_int) (nomark _)) (vw_or1 (vt_not (vt_tr (ve_isi (t := .str) rfl T.z_isinstance ⟨rfl, T.z_str, PyProof.Rows.boot_str, by decide, by decide⟩ (ve_ix (ve_var 0) (ve_int)))))))))) (vb_one (vs_ret (ve_non))) (vb_nil)) (vb_cons (vs_par rfl sc__law_measure.nd (i := 3) (j := 4) rfl rfl (by decide) rfl rfl (ve_ix (ve_var 0) (ve_int)) (ve_sl (ve_var 0) (vo_some (ve_int)) (vo_no)) rfl) (vb_cons (vs_if (vt_w (vw_and (vt_cmp (op_eqD (u64 hr)) opB_eq (ve_var 3) (ve_str) (nomark _)) (vw_and1 (vt_tr (ve_var 1))))) (vb_cons (vs_set sc__law_measure.nd (i := 5) rfl (by first | exact .inl rfl | exact .inr rfl) (ve_and (ve_cmp (op_eqD (u64 hr)) opB_eq (ve_callB call_len callB_len rfl T.z_len PySem.boot_len (va_cons (ve_var 0) (va_nil))) (ve_int) (nomark _)) (ve_and (ve_isi (t := .int) rfl T.z_isinstance ⟨rfl, T.z_int, PyProof.Rows.boot_int, by decide, by decide⟩ (ve_ix (ve_var 0) (ve_int))) (ve_and (ve_not (ve_isi (t := .bool) rfl T.z_isinstance ⟨rfl, T.z_bool, PyProof.Rows.boot_bool, by decide, by decide⟩ (ve_ix (ve_var 0) (ve_int)))) (ve_one (ve_cmp op_ge opB_ge (ve_ix (ve_var 0) (ve_int)) (ve_int) (nomark _))))))) (vb_one (vs_ret (ve_if (vt_tr (ve_var 5)) (ve_tup (va_cons (ve_int) (va_cons (ve_int) (va_nil)))) (ve_non))))) (vb_nil)) (vb_cons (vs_if (vt_w (vw_and (vt_cmp (op_eqD (u64 hr)) opB_eq (ve_var 3) (ve_str) (nomark _)) (vw_and1 (vt_not (vt_tr (ve_var 1)))))) (vb_one (vs_ret (ve_if (vt_w (vw_and (vt_cmp (op_eqD (u64 hr)) opB_eq (ve_callB call_len callB_len rfl T.z_len PySem.boot_len (va_cons (ve_var 0) (va_nil))) (ve_int) (nomark _)) (vw_and1 (vt_tr (ve_call (ok__law_is_name T) (hr.mono (by omega)) C rfl T.G__law_is_name T.F__law_is_name.kp (b__law_is_name T) rfl (va_cons (ve_ix (ve_var 0) (ve_int)) (va_nil)) (al_cons al_nil)))))) (ve_tup (va_cons (ve_int) (va_cons (ve_int) (va_nil)))) (ve_non)))) (vb_nil)) (vb_cons (vs_if (vt_w (vw_and (vt_cmp (op_eqD (u64 hr)) opB_eq (ve_var 3) (ve_str) (nomark _)) (vw_and1 (vt_not (vt_tr (ve_var 1)))))) (vb_cons (vs_if (vt_w (vw_or (vt_cmp (op_neD (u64 hr)) opB_ne (ve_callB call_len callB_len rfl T.z_len PySem.boot_len (va_cons (ve_var 0) (va_nil))) (ve_int) (nomark _)) (vw_or (vt_not (vt_tr (ve_call (ok__law_is_name T) (hr.mono (by omega)) C rfl T.G__law_is_name T.F__law_is_name.kp (b__law_is_name T) rfl (va_cons (ve_ix (ve_var 0) (ve_int)) (va_nil)) (al_cons al_nil)))) (vw_or (vt_not (vt_tr (ve_isi (t := .tup) rfl T.z_isinstance ⟨rfl, T.z_tuple, PyProof.Rows.boot_tuple, by decide, by decide⟩ (ve_ix (ve_var 0) (ve_int))))) (vw_or1 (vt_cmp (op_eqD (u64 hr)) opB_eq (ve_ix (ve_var 0) (ve_int)) (ve_tup (va_nil)) (nomark _))))))) (vb_one (vs_ret (ve_non))) (vb_nil)) (vb_one (vs_set sc__law_measure.nd (i := 4) rfl (by first | exact .inl rfl | exact .inr rfl) (ve_ix (ve_var 0) (ve_int))))) (vb_one (vs_if (vt_cmp (op_neD (u64 hr)) opB_ne (ve_dget [("yes", 0), ("no", 0), ("not", 1), ("and", 2), ("or", 2), ("same", 2), ("if", 3)] (u1 hr) (pps_cons pe_str pe_int (pps_cons pe_str pe_int (pps_cons pe_str pe_int (pps_cons pe_str pe_int (pps_cons pe_str pe_int (pps_cons pe_str pe_int (pps_cons pe_str pe_int (pps_nil)))))))) (ve_var 3) (by decide) (by decide)) (ve_callB call_len callB_len rfl T.z_len PySem.boot_len (va_cons (ve_var 4) (va_nil))) (nomark _)) (vb_one (vs_ret (ve_non))) (vb_nil)))) (vb_cons (vs_tg (g := (gTup K 2 (gCons (gName 6) (gCons (gName 7) gNil)))) (ve_tup (va_cons (ve_int) (va_cons (ve_int) (va_nil)))) (pg_tup rfl (pgs_cons (pg_name (i := 6) sc__law_measure.nd rfl (by first | exact .inl rfl | exact .inr rfl)) (pgs_cons (pg_name (i := 7) sc__law_measure.nd rfl (by first | exact .inl rfl | exact .inr rfl)) pgs_nil))) (tg_tup (tgs_cons (tg_name (i := 6) (vs := [6, 7]) (by simp)) (tgs_cons (tg_name (i := 7) (vs := [6, 7]) (by simp)) tgs_nil)))) (vb_cons (vs_for (g := (gTup K 2 (gCons (gName 8) (gCons (gName 9) gNil)))) (passes_of rfl) rfl (vi_en rfl T.z_enumerate (va_cons (ve_var 4) (va_nil))) (pg_tup rfl (pgs_cons (pg_name (i := 8) sc__law_measure.nd rfl (by first | exact .inl rfl | exact .inr rfl)) (pgs_cons (pg_name (i := 9) sc__law_measure.nd rfl (by first | exact .inl rfl | exact .inr rfl)) pgs_nil))) (tg_tup (tgs_cons (tg_name (i := 8) (vs := [8, 9]) (by simp)) (tgs_cons (tg_name (i := 9) (vs := [8, 9]) (by simp)) tgs_nil))) (vb_cons (vs_set sc__law_measure.nd (i := 10) rfl (by first | exact .inl rfl | exact .inr rfl) (ve_call ih hr C rfl T.G__law_measure T.F__law_measure.kp (b__law_measure T) rfl (va_cons (ve_var 9) (va_cons (ve_var 1) (va_cons (ve_op op_sub opB_sub (ve_var 2) (ve_int)) (va_nil)))) (al_cons (al_cons (al_cons al_nil))))) (vb_cons (vs_if (vt_cmp op_isN opB_is (ve_var 10) (ve_non) (nomark _)) (vb_one (vs_ret (ve_non))) (vb_nil)) (vb_one (vs_par rfl sc__law_measure.nd (i := 6) (j := 7) rfl rfl (by decide) rfl rfl (ve_op op_addR opB_add (ve_var 6) (ve_ix (ve_var 10) (ve_int))) (ve_callB (call_maxR rfl) callB_max rfl T.z_max PyProof.Rows.boot_max (va_cons (ve_var 7) (va_cons (ve_op op_addR opB_add (ve_ix (ve_var 10) (ve_int)) (ve_if (vt_w (vw_and (vt_tr (ve_var 1)) (vw_and (vt_cmp (op_eqD (u64 hr)) opB_eq (ve_var 3) (ve_str) (nomark _)) (vw_and1 (vt_cmp (op_eqD (u64 hr)) opB_eq (ve_var 8) (ve_int) (nomark _)))))) (ve_int) (ve_int))) (va_nil)))) rfl))))) (vb_one (vs_ret (ve_tup (va_cons (ve_var 6) (va_cons (ve_var 7) (va_nil))))))))))))) (by omega)
theorem ok__law_is_formula (T : Txt w K mg) : FnV PySem.Challenge.pw_partsight_k17_any_value_as_formula w K mg base 45 T.f__law_is_formula T.d__law_is_formula p__law_is_formula M__law_is_formula := fnv_of (k := 44) T.F__law_is_formula sc__law_is_formula fun cdv A outer s H E hr hG => by
    have C := (bod_of (P := PySem.Challenge.pw_partsight_k17_any_value_as_formula) (w := w) (K := K) (mg := mg) (base := base) (N := N__law_is_formula) (outer := outer) (H := H) (E := E) hr hG).toCnd
    exact vb_cons (vs_set sc__law_is_formula.nd (i := 1) rfl (by first | exact .inl rfl | exact .inr rfl) (ve_call (ok__law_measure T 43) (hr.mono (by decide)) C rfl T.G__law_measure T.F__law_measure.kp (b__law_measure T) rfl (va_cons (ve_var 0) (va_cons (ve_bl) (va_cons (ve_int) (va_nil)))) (al_cons (al_cons (al_cons al_nil))))) (vb_one (vs_ret (ve_and (ve_cmp op_notN opB_isNot (ve_var 1) (ve_non) (nomark _)) (ve_and (ve_cmp (op_leR (u0 hr)) opB_le (ve_ix (ve_var 1) (ve_int)) (ve_int) (nomark _)) (ve_one (ve_cmp (op_leR (u0 hr)) opB_le (ve_ix (ve_var 1) (ve_int)) (ve_int) (nomark _)))))))
theorem ok__law_is_simple (T : Txt w K mg) : FnV PySem.Challenge.pw_partsight_k17_any_value_as_formula w K mg base 45 T.f__law_is_simple T.d__law_is_simple p__law_is_simple M__law_is_simple := fnv_of (k := 44) T.F__law_is_simple sc__law_is_simple fun cdv A outer s H E hr hG => by
    have C := (bod_of (P := PySem.Challenge.pw_partsight_k17_any_value_as_formula) (w := w) (K := K) (mg := mg) (base := base) (N := N__law_is_simple) (outer := outer) (H := H) (E := E) hr hG).toCnd
    exact vb_cons (vs_set sc__law_is_simple.nd (i := 1) rfl (by first | exact .inl rfl | exact .inr rfl) (ve_call (ok__law_measure T 43) (hr.mono (by decide)) C rfl T.G__law_measure T.F__law_measure.kp (b__law_measure T) rfl (va_cons (ve_var 0) (va_cons (ve_bl) (va_cons (ve_int) (va_nil)))) (al_cons (al_cons (al_cons al_nil))))) (vb_one (vs_ret (ve_and (ve_cmp op_notN opB_isNot (ve_var 1) (ve_non) (nomark _)) (ve_and (ve_cmp (op_leR (u0 hr)) opB_le (ve_ix (ve_var 1) (ve_int)) (ve_int) (nomark _)) (ve_one (ve_cmp (op_leR (u0 hr)) opB_le (ve_ix (ve_var 1) (ve_int)) (ve_int) (nomark _)))))))
theorem ok__law_bent (T : Txt w K mg) : ∀ n : Nat, FnV PySem.Challenge.pw_partsight_k17_any_value_as_formula w K mg base (n + 2) T.f__law_bent T.d__law_bent p__law_bent (M__law_bent n)
  | 0 => fnv_stuck
  | n + 1 => FnV.mono (fnv_of (k := n + 2) T.F__law_bent sc__law_bent fun cdv A outer s H E hr hG => by
    have ih := ok__law_bent T n
    have C := (bod_of (P := PySem.Challenge.pw_partsight_k17_any_value_as_formula) (w := w) (K := K) (mg := mg) (base := base) (N := N__law_bent) (outer := outer) (H := H) (E := E) hr hG).toCnd
    exact vb_cons (vs_if (vt_w (vw_and (vt_tr (ve_isi2 (t := .tup) (u := .lst) rfl T.z_isinstance ⟨rfl, T.z_tuple, PyProof.Rows.boot_tuple, by decide, by decide⟩ ⟨rfl, T.z_list, PyProof.Rows.boot_list, by decide, by decide⟩ (ve_var 1))) (vw_and (vt_cmp op_gt opB_gt (ve_callB call_len callB_len rfl T.z_len PySem.boot_len (va_cons (ve_var 1) (va_nil))) (ve_int) (nomark _)) (vw_and1 (vt_cmp op_gt opB_gt (ve_call (ok__law_draw T) (hr.mono (by omega)) C rfl T.G__law_draw T.F__law_draw.kp (b__law_draw T) rfl (va_cons (ve_var 0) (va_cons (ve_int) (va_nil))) (al_cons (al_cons al_nil))) (ve_int) (nomark _)))))) (vb_cons (vs_par rfl sc__law_bent.nd (i := 2) (j := 3) rfl rfl (by decide) rfl rfl (ve_call (ok__law_draw T) (hr.mono (by omega)) C rfl T.G__law_draw T.F__law_draw.kp (b__law_draw T) rfl (va_cons (ve_var 0) (va_cons (ve_callB call_len callB_len rfl T.z_len PySem.boot_len (va_cons (ve_var 1) (va_nil))) (va_nil))) (al_cons (al_cons al_nil))) (ve_call (ok__law_draw T) (hr.mono (by omega)) C rfl T.G__law_draw T.F__law_draw.kp (b__law_draw T) rfl (va_cons (ve_var 0) (va_cons (ve_int) (va_nil))) (al_cons (al_cons al_nil))) rfl) (vb_cons (vs_if (vt_cmp (op_eqD (u64 hr)) opB_eq (ve_var 3) (ve_int) (nomark _)) (vb_one (vs_ret (ve_op op_addR opB_add (ve_sl (ve_var 1) (vo_no) (vo_some (ve_var 2))) (ve_sl (ve_var 1) (vo_some (ve_op op_addR opB_add (ve_var 2) (ve_int))) (vo_no))))) (vb_nil)) (vb_cons (vs_if (vt_cmp (op_eqD (u64 hr)) opB_eq (ve_var 3) (ve_int) (nomark _)) (vb_one (vs_ret (ve_op op_addR opB_add (ve_sl (ve_var 1) (vo_no) (vo_some (ve_op op_addR opB_add (ve_var 2) (ve_int)))) (ve_sl (ve_var 1) (vo_some (ve_var 2)) (vo_no))))) (vb_nil)) (vb_cons (vs_if (vt_cmp (op_eqD (u64 hr)) opB_eq (ve_var 3) (ve_int) (nomark _)) (vb_one (vs_ret (ve_rev (ve_var 1)))) (vb_nil)) (vb_cons (vs_set sc__law_bent.nd (i := 4) rfl (by first | exact .inl rfl | exact .inr rfl) (ve_callTy call_list_of callB_list rfl T.z_list PyProof.Rows.boot_list (va_cons (ve_var 1) (va_nil)))) (vb_cons (vs_st (pv 4) (ve_var 2) (ve_call ih hr C rfl T.G__law_bent T.F__law_bent.kp (b__law_bent T) rfl (va_cons (ve_var 0) (va_cons (ve_ix (ve_var 1) (ve_var 2)) (va_nil))) (al_cons (al_cons al_nil)))) (vb_one (vs_ret (ve_if (vt_tr (ve_isi (t := .lst) rfl T.z_isinstance ⟨rfl, T.z_list, PyProof.Rows.boot_list, by decide, by decide⟩ (ve_var 1))) (ve_var 4) (ve_callTy call_tuple_of callB_tuple rfl T.z_tuple PyProof.Rows.boot_tuple (va_cons (ve_var 4) (va_nil)))))))))))) (vb_nil)) (vb_cons (vs_if (vt_w (vw_or (vt_tr (ve_isi (t := .bool) rfl T.z_isinstance ⟨rfl, T.z_bool, PyProof.Rows.boot_bool, by decide, by decide⟩ (ve_var 1))) (vw_or1 (vt_cmp op_isN opB_is (ve_var 1) (ve_non) (nomark _))))) (vb_one (vs_ret (ve_call (ok__law_pick T) (hr.mono (by omega)) C rfl T.G__law_pick T.F__law_pick.kp (b__law_pick T) rfl (va_cons (ve_var 0) (va_cons (ve_lst (va_cons (ve_int) (va_cons (ve_int) (va_cons (ve_non) (va_cons (ve_bl) (va_cons (ve_str) (va_nil))))))) (va_nil))) (al_cons (al_cons al_nil))))) (vb_nil)) (vb_cons (vs_if (vt_tr (ve_isi (t := .int) rfl T.z_isinstance ⟨rfl, T.z_int, PyProof.Rows.boot_int, by decide, by decide⟩ (ve_var 1))) (vb_one (vs_ret (ve_call (ok__law_pick T) (hr.mono (by omega)) C rfl T.G__law_pick T.F__law_pick.kp (b__law_pick T) rfl (va_cons (ve_var 0) (va_cons (ve_lst (va_cons (ve_op op_addR opB_add (ve_var 1) (ve_int)) (va_cons (ve_op op_sub opB_sub (ve_var 1) (ve_int)) (va_cons (ve_neg (ve_var 1)) (va_cons (ve_int) (va_cons (ve_int) (va_cons (ve_int) (va_cons (ve_bl) (va_cons (ve_bl) (va_cons (ve_non) (va_cons (ve_callTy call_str_int callB_str rfl T.z_str PyProof.Rows.boot_str (va_cons (ve_var 1) (va_nil))) (va_cons (ve_tup (va_cons (ve_var 1) (va_nil))) (va_nil))))))))))))) (va_nil))) (al_cons (al_cons al_nil))))) (vb_nil)) (vb_cons (vs_if (vt_tr (ve_isi (t := .str) rfl T.z_isinstance ⟨rfl, T.z_str, PyProof.Rows.boot_str, by decide, by decide⟩ (ve_var 1))) (vb_cons (vs_set sc__law_bent.nd (i := 4) rfl (by first | exact .inl rfl | exact .inr rfl) (ve_lst (va_cons (ve_str) (va_cons (ve_str) (va_cons (ve_str) (va_cons (ve_str) (va_cons (ve_str) (va_cons (ve_str) (va_cons (ve_str) (va_cons (ve_str) (va_cons (ve_str) (va_cons (ve_str) (va_cons (ve_str) (va_cons (ve_str) (va_cons (ve_str) (va_cons (ve_str) (va_cons (ve_str) (va_cons (ve_str) (va_cons (ve_non) (va_cons (ve_int) (va_nil))))))))))))))))))))) (vb_one (vs_ret (ve_call (ok__law_pick T) (hr.mono (by omega)) C rfl T.G__law_pick T.F__law_pick.kp (b__law_pick T) rfl (va_cons (ve_var 0) (va_cons (ve_op op_addR opB_add (ve_var 4) (ve_lst (va_cons (ve_op op_addR opB_add (ve_var 1) (ve_str)) (va_cons (ve_sl (ve_var 1) (vo_some (ve_int)) (vo_no)) (va_cons (ve_upper (ve_var 1)) (va_cons (ve_tup (va_cons (ve_var 1) (va_nil))) (va_nil))))))) (va_nil))) (al_cons (al_cons al_nil)))))) (vb_nil)) (vb_one (vs_ret (ve_call (ok__law_pick T) (hr.mono (by omega)) C rfl T.G__law_pick T.F__law_pick.kp (b__law_pick T) rfl (va_cons (ve_var 0) (va_cons (ve_lst (va_cons (ve_if (vt_tr (ve_isi (t := .tup) rfl T.z_isinstance ⟨rfl, T.z_tuple, PyProof.Rows.boot_tuple, by decide, by decide⟩ (ve_var 1))) (ve_callTy call_list_of callB_list rfl T.z_list PyProof.Rows.boot_list (va_cons (ve_var 1) (va_nil))) (ve_callTy call_tuple_of callB_tuple rfl T.z_tuple PyProof.Rows.boot_tuple (va_cons (ve_var 1) (va_nil)))) (va_cons (ve_tup (va_nil)) (va_cons (ve_lst (va_nil)) (va_cons (ve_non) (va_cons (ve_int) (va_cons (ve_str) (va_cons (ve_tup (va_cons (ve_str) (va_nil))) (va_cons (ve_tup (va_cons (ve_str) (va_cons (ve_str) (va_nil)))) (va_cons (ve_tup (va_cons (ve_str) (va_cons (ve_int) (va_nil)))) (va_nil))))))))))) (va_nil))) (al_cons (al_cons al_nil))))))))) (by omega)
theorem ok__law_long (T : Txt w K mg) : FnV PySem.Challenge.pw_partsight_k17_any_value_as_formula w K mg base 2 T.f__law_long T.d__law_long p__law_long M__law_long := fnv_of (k := 1) T.F__law_long sc__law_long fun cdv A outer s H E hr hG => by
    have C := (bod_of (P := PySem.Challenge.pw_partsight_k17_any_value_as_formula) (w := w) (K := K) (mg := mg) (base := base) (N := N__law_long) (outer := outer) (H := H) (E := E) hr hG).toCnd
    exact vb_cons (vs_par rfl sc__law_long.nd (i := 4) (j := 5) rfl rfl (by decide) rfl rfl (ve_var 1) (ve_int) rfl) (vb_cons (vs_while 50 (passes_of rfl) (vt_cmp (op_ltR (u0 hr)) opB_lt (ve_var 5) (ve_var 2) (nomark _)) (vb_cons (vs_set sc__law_long.nd (i := 6) rfl (by first | exact .inl rfl | exact .inr rfl) (ve_call (ok__law_draw T) (hr.mono (by decide)) C rfl T.G__law_draw T.F__law_draw.kp (b__law_draw T) rfl (va_cons (ve_var 0) (va_cons (ve_int) (va_nil))) (al_cons (al_cons al_nil)))) (vb_one (vs_if (vt_w (vw_and (vt_cmp (op_eqD (u64 hr)) opB_eq (ve_var 6) (ve_int) (nomark _)) (vw_and (vt_cmp (op_leR (u0 hr)) opB_le (ve_op op_addR opB_add (ve_var 5) (ve_int)) (ve_var 2) (nomark _)) (vw_and1 (vt_tr (ve_var 3)))))) (vb_one (vs_par rfl sc__law_long.nd (i := 4) (j := 5) rfl rfl (by decide) rfl rfl (ve_tup (va_cons (ve_str) (va_cons (ve_var 4) (va_cons (ve_var 1) (va_cons (ve_var 1) (va_nil)))))) (ve_op op_addR opB_add (ve_var 5) (ve_int)) rfl)) (vb_one (vs_par rfl sc__law_long.nd (i := 4) (j := 5) rfl rfl (by decide) rfl rfl (ve_ix (ve_lst (va_cons (ve_tup (va_cons (ve_str) (va_cons (ve_var 4) (va_nil)))) (va_cons (ve_tup (va_cons (ve_str) (va_cons (ve_var 1) (va_cons (ve_var 4) (va_nil))))) (va_cons (ve_tup (va_cons (ve_str) (va_cons (ve_var 4) (va_cons (ve_var 1) (va_nil))))) (va_cons (ve_tup (va_cons (ve_str) (va_cons (ve_var 1) (va_cons (ve_var 4) (va_cons (ve_var 1) (va_nil)))))) (va_nil)))))) (ve_var 6)) (ve_op op_addR opB_add (ve_var 5) (ve_int)) rfl)))))) (vb_one (vs_ret (ve_var 4))))
theorem ok__law_wide (T : Txt w K mg) : ∀ n : Nat, FnV PySem.Challenge.pw_partsight_k17_any_value_as_formula w K mg base (n + 0) T.f__law_wide T.d__law_wide p__law_wide (M__law_wide n)
  | 0 => fnv_stuck
  | n + 1 => FnV.mono (fnv_of (k := n + 0) T.F__law_wide sc__law_wide fun cdv A outer s H E hr hG => by
    have ih := ok__law_wide T n
    have C := (bod_of (P := PySem.Challenge.pw_partsight_k17_any_value_as_formula) (w := w) (K := K) (mg := mg) (base := base) (N := N__law_wide) (outer := outer) (H := H) (E := E) hr hG).toCnd
    exact vb_cons (vs_set sc__law_wide.nd (i := 2) rfl (by first | exact .inl rfl | exact .inr rfl) (ve_op op_mulR opB_mul (ve_lst (va_cons (ve_var 0) (va_nil))) (ve_callTy call_intR callB_int rfl T.z_int PyProof.Rows.boot_int (va_cons (ve_op op_fdiv opB_fdiv (ve_op op_addR opB_add (ve_var 1) (ve_int)) (ve_int)) (va_nil))))) (vb_cons (vs_while 20 (passes_of rfl) (vt_cmp op_gt opB_gt (ve_callB call_len callB_len rfl T.z_len PySem.boot_len (va_cons (ve_var 2) (va_nil))) (ve_int) (nomark _)) (vb_one (vs_set sc__law_wide.nd (i := 2) rfl (by first | exact .inl rfl | exact .inr rfl) (ve_lc (own := [("at", 3)]) (g := (gName 3)) rfl sc__law_wide.nd (vi_range3 rfl T.z_range (va_cons (ve_int) (va_cons (ve_callB call_len callB_len rfl T.z_len PySem.boot_len (va_cons (ve_var 2) (va_nil))) (va_cons (ve_int) (va_nil))))) (blkOk_by (own := [("at", 3)]) (N := N__law_wide) (sc := defScope s__law_wide) (by decide +kernel)) (fun _ _ _ _ _ => (pg_name (i := 3) sc__law_wide.nd rfl (by first | exact .inl rfl | exact .inr rfl))) (tg_name (i := 3) (vs := [3]) (by simp)) (fun _ _ _ _ _ => vts_nil) (fun _ _ _ _ _ => ve_if (vt_cmp (op_ltR (u0 hr)) opB_lt (ve_op op_addR opB_add (ve_var 3) (ve_int)) (ve_callB call_len callB_len rfl T.z_len PySem.boot_len (va_cons (ve_var 2) (va_nil))) (nomark _)) (ve_tup (va_cons (ve_str) (va_cons (ve_ix (ve_var 2) (ve_var 3)) (va_cons (ve_ix (ve_var 2) (ve_op op_addR opB_add (ve_var 3) (ve_int))) (va_nil))))) (ve_ix (ve_var 2) (ve_var 3))))))) (vb_one (vs_ret (ve_if (vt_cmp (op_eqD (u64 hr)) opB_eq (ve_op op_mod opB_mod (ve_callTy call_intR callB_int rfl T.z_int PyProof.Rows.boot_int (va_cons (ve_var 1) (va_nil))) (ve_int)) (ve_int) (nomark _)) (ve_ix (ve_var 2) (ve_int)) (ve_tup (va_cons (ve_str) (va_cons (ve_call ih hr C rfl T.G__law_wide T.F__law_wide.kp (b__law_wide T) rfl (va_cons (ve_var 0) (va_cons (ve_op op_sub opB_sub (ve_var 1) (ve_int)) (va_nil))) (al_cons (al_cons al_nil))) (va_nil))))))))) (by omega)
theorem ok__law_are_right (T : Txt w K mg) : FnV PySem.Challenge.pw_partsight_k17_any_value_as_formula w K mg base 46 T.f__law_are_right T.d__law_are_right p__law_are_right M__law_are_right := fnv_of (k := 45) T.F__law_are_right sc__law_are_right fun cdv A outer s H E hr hG => by
    have C := (bod_of (P := PySem.Challenge.pw_partsight_k17_any_value_as_formula) (w := w) (K := K) (mg := mg) (base := base) (N := N__law_are_right) (outer := outer) (H := H) (E := E) hr hG).toCnd
    exact vb_cons (vs_for (g := (gName 1)) (passes_of rfl) rfl (vi_seq (ve_var 0)) (pg_name (i := 1) sc__law_are_right.nd rfl (by first | exact .inl rfl | exact .inr rfl)) (tg_name (i := 1) (vs := [1]) (by simp)) (vb_cons (vs_par rfl sc__law_are_right.nd (i := 2) (j := 3) rfl rfl (by decide) rfl rfl (ve_lst (va_cons (ve_call (ok__law_is_formula T) (hr.mono (by decide)) C rfl T.G__law_is_formula T.F__law_is_formula.kp (b__law_is_formula T) rfl (va_cons (ve_var 1) (va_nil)) (al_cons al_nil)) (va_cons (ve_call (ok__law_is_simple T) (hr.mono (by decide)) C rfl T.G__law_is_simple T.F__law_is_simple.kp (b__law_is_simple T) rfl (va_cons (ve_var 1) (va_nil)) (al_cons al_nil)) (va_cons (ve_call (ok__law_is_name T) (hr.mono (by decide)) C rfl T.G__law_is_name T.F__law_is_name.kp (b__law_is_name T) rfl (va_cons (ve_var 1) (va_nil)) (al_cons al_nil)) (va_nil))))) (ve_callB (call_repr hG (u101 hr)) callB_repr rfl T.z_repr PyProof.Rows.boot_repr (va_cons (ve_var 1) (va_nil))) rfl) (vb_cons (vs_if (vt_w (vw_or (vt_cmp (op_neD (u64 hr)) opB_ne (ve_callB (call_repr hG (u101 hr)) callB_repr rfl T.z_repr PyProof.Rows.boot_repr (va_cons (ve_lst (va_cons (ve_call (ok_is_formula T) (hr.mono (by decide)) C rfl T.G_is_formula T.F_is_formula.kp (b_is_formula T) rfl (va_cons (ve_var 1) (va_nil)) (al_cons al_nil)) (va_cons (ve_call (ok_is_simple T) (hr.mono (by decide)) C rfl T.G_is_simple T.F_is_simple.kp (b_is_simple T) rfl (va_cons (ve_var 1) (va_nil)) (al_cons al_nil)) (va_cons (ve_call (ok_is_name T) (hr.mono (by decide)) C rfl T.G_is_name T.F_is_name.kp (b_is_name T) rfl (va_cons (ve_var 1) (va_nil)) (al_cons al_nil)) (va_nil))))) (va_nil))) (ve_callB (call_repr hG (u101 hr)) callB_repr rfl T.z_repr PyProof.Rows.boot_repr (va_cons (ve_var 2) (va_nil))) (nomark _)) (vw_or1 (vt_cmp (op_neD (u64 hr)) opB_ne (ve_callB (call_repr hG (u101 hr)) callB_repr rfl T.z_repr PyProof.Rows.boot_repr (va_cons (ve_var 1) (va_nil))) (ve_var 3) (nomark _))))) (vb_one (vs_ret (ve_bl))) (vb_nil)) (vb_one (vs_if (vt_cmp (op_neD (u64 hr)) opB_ne (ve_callB (call_repr hG (u101 hr)) callB_repr rfl T.z_repr PyProof.Rows.boot_repr (va_cons (ve_lst (va_cons (ve_callK (ok_is_formula T) (hr.mono (by decide)) C rfl T.G_is_formula T.F_is_formula.kp (bk_is_formula T) (vk_cons (ve_var 1) (vk_nil)) (al_cons al_nil)) (va_cons (ve_callK (ok_is_simple T) (hr.mono (by decide)) C rfl T.G_is_simple T.F_is_simple.kp (bk_is_simple T) (vk_cons (ve_var 1) (vk_nil)) (al_cons al_nil)) (va_cons (ve_callK (ok_is_name T) (hr.mono (by decide)) C rfl T.G_is_name T.F_is_name.kp (bk_is_name T) (vk_cons (ve_var 1) (vk_nil)) (al_cons al_nil)) (va_nil))))) (va_nil))) (ve_callB (call_repr hG (u101 hr)) callB_repr rfl T.z_repr PyProof.Rows.boot_repr (va_cons (ve_var 2) (va_nil))) (nomark _)) (vb_one (vs_ret (ve_bl))) (vb_nil)))))) (vb_one (vs_ret (ve_bl)))
theorem ok__law_right (T : Txt w K mg) : FnV PySem.Challenge.pw_partsight_k17_any_value_as_formula w K mg base 47 T.f__law_right T.d__law_right p__law_right M__law_right := fnv_of (k := 46) T.F__law_right sc__law_right fun cdv A outer s H E hr hG => by
    have C := (bod_of (P := PySem.Challenge.pw_partsight_k17_any_value_as_formula) (w := w) (K := K) (mg := mg) (base := base) (N := N__law_right) (outer := outer) (H := H) (E := E) hr hG).toCnd
    exact vb_cons (vs_par rfl sc__law_right.nd (i := 1) (j := 2) rfl rfl (by decide) rfl rfl (ve_call (ok__law_formula T 8) (hr.mono (by decide)) C rfl T.G__law_formula T.F__law_formula.kp (b__law_formula T) rfl (va_cons (ve_var 0) (va_cons (ve_lst (va_cons (ve_str) (va_cons (ve_str) (va_cons (ve_str) (va_nil))))) (va_cons (ve_op op_addR opB_add (ve_int) (ve_call (ok__law_draw T) (hr.mono (by decide)) C rfl T.G__law_draw T.F__law_draw.kp (b__law_draw T) rfl (va_cons (ve_var 0) (va_cons (ve_int) (va_nil))) (al_cons (al_cons al_nil)))) (va_nil)))) (al_cons (al_cons (al_cons al_nil)))) (ve_call (ok__law_simple T 8) (hr.mono (by decide)) C rfl T.G__law_simple T.F__law_simple.kp (b__law_simple T) rfl (va_cons (ve_var 0) (va_cons (ve_int) (va_cons (ve_op op_addR opB_add (ve_int) (ve_call (ok__law_draw T) (hr.mono (by decide)) C rfl T.G__law_draw T.F__law_draw.kp (b__law_draw T) rfl (va_cons (ve_var 0) (va_cons (ve_int) (va_nil))) (al_cons (al_cons al_nil)))) (va_nil)))) (al_cons (al_cons (al_cons al_nil)))) rfl) (vb_cons (vs_set sc__law_right.nd (i := 3) rfl (by first | exact .inl rfl | exact .inr rfl) (ve_lst (va_cons (ve_var 1) (va_cons (ve_var 2) (va_cons (ve_non) (va_cons (ve_int) (va_cons (ve_str) (va_cons (ve_tup (va_nil)) (va_cons (ve_lst (va_nil)) (va_cons (ve_str) (va_cons (ve_str) (va_cons (ve_str) (va_cons (ve_tup (va_cons (ve_str) (va_nil))) (va_cons (ve_tup (va_cons (ve_str) (va_cons (ve_int) (va_nil)))) (va_cons (ve_tup (va_cons (ve_str) (va_cons (ve_bl) (va_nil)))) (va_cons (ve_tup (va_cons (ve_str) (va_cons (ve_op op_pow opB_pow (ve_int) (ve_int)) (va_nil)))) (va_cons (ve_tup (va_cons (ve_str) (va_cons (ve_str) (va_nil)))) (va_cons (ve_tup (va_cons (ve_str) (va_cons (ve_str) (va_nil)))) (va_cons (ve_tup (va_cons (ve_str) (va_cons (ve_str) (va_cons (ve_tup (va_nil)) (va_nil))))) (va_cons (ve_tup (va_cons (ve_str) (va_cons (ve_str) (va_cons (ve_tup (va_cons (ve_str) (va_cons (ve_str) (va_nil)))) (va_nil))))) (va_nil))))))))))))))))))))) (vb_cons (vs_ex (ve_ext (pv 3) (ve_lst (va_cons (ve_str) (va_cons (ve_str) (va_cons (ve_str) (va_cons (ve_str) (va_cons (ve_tup (va_cons (ve_str) (va_cons (ve_str) (va_nil)))) (va_cons (ve_tup (va_cons (ve_str) (va_nil))) (va_cons (ve_lst (va_cons (ve_str) (va_nil))) (va_cons (ve_tup (va_cons (ve_str) (va_cons (ve_tup (va_cons (ve_str) (va_nil))) (va_cons (ve_tup (va_cons (ve_str) (va_nil))) (va_nil))))) (va_cons (ve_tup (va_cons (ve_str) (va_cons (ve_str) (va_cons (ve_lst (va_cons (ve_tup (va_cons (ve_str) (va_nil))) (va_nil))) (va_nil))))) (va_nil))))))))))))) (vb_cons (vs_for (g := (gName 4)) (passes_of rfl) rfl (vi_range1 rfl T.z_range (va_cons (ve_int) (va_nil))) (pg_name (i := 4) sc__law_right.nd rfl (by first | exact .inl rfl | exact .inr rfl)) (tg_name (i := 4) (vs := [4]) (by simp)) (vb_one (vs_ex (ve_ext (pv 3) (ve_lst (va_cons (ve_call (ok__law_bent T 12) (hr.mono (by decide)) C rfl T.G__law_bent T.F__law_bent.kp (b__law_bent T) rfl (va_cons (ve_var 0) (va_cons (ve_var 1) (va_nil))) (al_cons (al_cons al_nil))) (va_cons (ve_call (ok__law_bent T 12) (hr.mono (by decide)) C rfl T.G__law_bent T.F__law_bent.kp (b__law_bent T) rfl (va_cons (ve_var 0) (va_cons (ve_var 2) (va_nil))) (al_cons (al_cons al_nil))) (va_nil)))))))) (vb_cons (vs_set sc__law_right.nd (i := 5) rfl (by first | exact .inl rfl | exact .inr rfl) (ve_op op_sub opB_sub (ve_call (ok__law_draw T) (hr.mono (by decide)) C rfl T.G__law_draw T.F__law_draw.kp (b__law_draw T) rfl (va_cons (ve_var 0) (va_cons (ve_int) (va_nil))) (al_cons (al_cons al_nil))) (ve_int))) (vb_cons (vs_par rfl sc__law_right.nd (i := 6) (j := 7) rfl rfl (by decide) rfl rfl (ve_tup (va_cons (ve_str) (va_cons (ve_str) (va_nil)))) (ve_tup (va_cons (ve_str) (va_cons (ve_call (ok__law_draw T) (hr.mono (by decide)) C rfl T.G__law_draw T.F__law_draw.kp (b__law_draw T) rfl (va_cons (ve_var 0) (va_cons (ve_int) (va_nil))) (al_cons (al_cons al_nil))) (va_nil)))) rfl) (vb_cons (vs_ex (ve_ext (pv 3) (ve_lst (va_cons (ve_call (ok__law_long T) (hr.mono (by decide)) C rfl T.G__law_long T.F__law_long.kp (b__law_long T) rfl (va_cons (ve_var 0) (va_cons (ve_var 6) (va_cons (ve_op op_addR opB_add (ve_int) (ve_var 5)) (va_cons (ve_bl) (va_nil))))) (al_cons (al_cons (al_cons (al_cons al_nil))))) (va_cons (ve_call (ok__law_long T) (hr.mono (by decide)) C rfl T.G__law_long T.F__law_long.kp (b__law_long T) rfl (va_cons (ve_var 0) (va_cons (ve_var 7) (va_cons (ve_op op_addR opB_add (ve_int) (ve_var 5)) (va_cons (ve_bl) (va_nil))))) (al_cons (al_cons (al_cons (al_cons al_nil))))) (va_cons (ve_call (ok__law_wide T 3) (hr.mono (by decide)) C rfl T.G__law_wide T.F__law_wide.kp (b__law_wide T) rfl (va_cons (ve_var 6) (va_cons (ve_op op_addR opB_add (ve_int) (ve_var 5)) (va_nil))) (al_cons (al_cons al_nil))) (va_cons (ve_call (ok__law_wide T 3) (hr.mono (by decide)) C rfl T.G__law_wide T.F__law_wide.kp (b__law_wide T) rfl (va_cons (ve_var 7) (va_cons (ve_op op_addR opB_add (ve_int) (ve_var 5)) (va_nil))) (al_cons (al_cons al_nil))) (va_nil)))))))) (vb_cons (vs_ex (ve_ext (pv 3) (ve_lst (va_cons (ve_tup (va_cons (ve_str) (va_cons (ve_str) (va_cons (ve_op op_mulR opB_mul (ve_tup (va_cons (ve_var 6) (va_nil))) (ve_op op_addR opB_add (ve_int) (ve_var 5))) (va_nil))))) (va_cons (ve_tup (va_cons (ve_str) (va_cons (ve_call (ok__law_long T) (hr.mono (by decide)) C rfl T.G__law_long T.F__law_long.kp (b__law_long T) rfl (va_cons (ve_var 0) (va_cons (ve_var 7) (va_cons (ve_int) (va_cons (ve_bl) (va_nil))))) (al_cons (al_cons (al_cons (al_cons al_nil))))) (va_nil)))) (va_cons (ve_tup (va_cons (ve_str) (va_cons (ve_call (ok__law_long T) (hr.mono (by decide)) C rfl T.G__law_long T.F__law_long.kp (b__law_long T) rfl (va_cons (ve_var 0) (va_cons (ve_var 7) (va_cons (ve_int) (va_cons (ve_bl) (va_nil))))) (al_cons (al_cons (al_cons (al_cons al_nil))))) (va_cons (ve_var 7) (va_cons (ve_var 7) (va_nil)))))) (va_nil))))))) (vb_one (vs_fz 3 (vs_ret (ve_call (ok__law_are_right T) (hr.mono (by decide)) C rfl T.G__law_are_right T.F__law_are_right.kp (b__law_are_right T) rfl (va_cons (ve_var 3) (va_nil)) (al_cons al_nil))))))))))))
theorem ok_law (T : Txt w K mg) : FnV PySem.Challenge.pw_partsight_k17_any_value_as_formula w K mg base 48 T.f_law T.d_law p_law M_law := fnv_of (k := 47) T.F_law sc_law fun cdv A outer s H E hr hG => by
    have C := (bod_of (P := PySem.Challenge.pw_partsight_k17_any_value_as_formula) (w := w) (K := K) (mg := mg) (base := base) (N := N_law) (outer := outer) (H := H) (E := E) hr hG).toCnd
    exact vb_one (vs_ret (ve_callB (cr_all rfl) callB_all rfl T.z_all PyProof.Rows.boot_all (va_cons (ve_lc (own := [("k", 1)]) (g := (gName 1)) rfl sc_law.nd (vi_range1 rfl T.z_range (va_cons (ve_callB (call_maxR rfl) callB_max rfl T.z_max PyProof.Rows.boot_max (va_cons (ve_int) (va_cons (ve_callB (call_minR rfl) callB_min rfl T.z_min PyProof.Rows.boot_min (va_cons (ve_int) (va_cons (ve_callB call_len callB_len rfl T.z_len PySem.boot_len (va_cons (ve_var 0) (va_nil))) (va_nil)))) (va_nil)))) (va_nil))) (blkOk_by (own := [("k", 1)]) (N := N_law) (sc := defScope s_law) (by decide +kernel)) (fun _ _ _ _ _ => (pg_name (i := 1) sc_law.nd rfl (by first | exact .inl rfl | exact .inr rfl))) (tg_name (i := 1) (vs := [1]) (by simp)) (fun _ _ _ _ _ => vts_nil) (fun _ _ _ _ _ => ve_callF (ok__law_right T) (hr.mono (by decide)) ⟨takes0, hG, rfl⟩ rfl T.G__law_right T.F__law_right.kp (b__law_right T) (ve_call (ok__law_pot T) (hr.mono (by decide)) ⟨takes0, hG, rfl⟩ rfl T.G__law_pot T.F__law_pot.kp (b__law_pot T) rfl (va_cons (ve_var 0) (va_cons (ve_var 1) (va_nil))) (al_cons (al_cons al_nil))))) (va_nil))))
end
theorem all_mk {w : World} {K : PySem.W.Frag} {mg : Str → Option Value} {fa : Addr} (hfa : mg "law" = some (.ref fa)) (H_is_integer : ∃ f d, L2.Fun K "is_integer" "is_integer" s_is_integer f d ∧ mg "is_integer" = some (.ref f)) (H_is_count : ∃ f d, L2.Fun K "is_count" "is_count" s_is_count f d ∧ mg "is_count" = some (.ref f)) (H_is_name : ∃ f d, L2.Fun K "is_name" "is_name" s_is_name f d ∧ mg "is_name" = some (.ref f)) (H_is_told : ∃ f d, L2.Fun K "is_told" "is_told" s_is_told f d ∧ mg "is_told" = some (.ref f)) (H_parts_of : ∃ f d, L2.Fun K "parts_of" "parts_of" s_parts_of f d ∧ mg "parts_of" = some (.ref f)) (H_is_worded : ∃ f d, L2.Fun K "is_worded" "is_worded" s_is_worded f d ∧ mg "is_worded" = some (.ref f)) (H_is_call : ∃ f d, L2.Fun K "is_call" "is_call" s_is_call f d ∧ mg "is_call" = some (.ref f)) (H_is_leaf : ∃ f d, L2.Fun K "is_leaf" "is_leaf" s_is_leaf f d ∧ mg "is_leaf" = some (.ref f)) (H_is_letter : ∃ f d, L2.Fun K "is_letter" "is_letter" s_is_letter f d ∧ mg "is_letter" = some (.ref f)) (H_is_formula : ∃ f d, L2.Fun K "is_formula" "is_formula" s_is_formula f d ∧ mg "is_formula" = some (.ref f)) (H_below : ∃ f d, L2.Fun K "below" "below" s_below f d ∧ mg "below" = some (.ref f)) (H_is_simple_by : ∃ f d, L2.Fun K "is_simple_by" "is_simple_by" s_is_simple_by f d ∧ mg "is_simple_by" = some (.ref f)) (H_is_simple : ∃ f d, L2.Fun K "is_simple" "is_simple" s_is_simple f d ∧ mg "is_simple" = some (.ref f)) (H__law_pot : ∃ f d, L2.Fun K "_law_pot" "_law_pot" s__law_pot f d ∧ mg "_law_pot" = some (.ref f)) (H__law_draw : ∃ f d, L2.Fun K "_law_draw" "_law_draw" s__law_draw f d ∧ mg "_law_draw" = some (.ref f)) (H__law_pick : ∃ f d, L2.Fun K "_law_pick" "_law_pick" s__law_pick f d ∧ mg "_law_pick" = some (.ref f)) (H__law_formula : ∃ f d, L2.Fun K "_law_formula" "_law_formula" s__law_formula f d ∧ mg "_law_formula" = some (.ref f)) (H__law_simple : ∃ f d, L2.Fun K "_law_simple" "_law_simple" s__law_simple f d ∧ mg "_law_simple" = some (.ref f)) (H__law_is_name : ∃ f d, L2.Fun K "_law_is_name" "_law_is_name" s__law_is_name f d ∧ mg "_law_is_name" = some (.ref f)) (H__law_measure : ∃ f d, L2.Fun K "_law_measure" "_law_measure" s__law_measure f d ∧ mg "_law_measure" = some (.ref f)) (H__law_is_formula : ∃ f d, L2.Fun K "_law_is_formula" "_law_is_formula" s__law_is_formula f d ∧ mg "_law_is_formula" = some (.ref f)) (H__law_is_simple : ∃ f d, L2.Fun K "_law_is_simple" "_law_is_simple" s__law_is_simple f d ∧ mg "_law_is_simple" = some (.ref f)) (H__law_bent : ∃ f d, L2.Fun K "_law_bent" "_law_bent" s__law_bent f d ∧ mg "_law_bent" = some (.ref f)) (H__law_long : ∃ f d, L2.Fun K "_law_long" "_law_long" s__law_long f d ∧ mg "_law_long" = some (.ref f)) (H__law_wide : ∃ f d, L2.Fun K "_law_wide" "_law_wide" s__law_wide f d ∧ mg "_law_wide" = some (.ref f)) (H__law_are_right : ∃ f d, L2.Fun K "_law_are_right" "_law_are_right" s__law_are_right f d ∧ mg "_law_are_right" = some (.ref f)) (H__law_right : ∃ f d, L2.Fun K "_law_right" "_law_right" s__law_right f d ∧ mg "_law_right" = some (.ref f)) (H_law : ∃ f d, L2.Fun K "law" "law" s_law f d ∧ mg "law" = some (.ref f)) (z_abs : mg "abs" = none) (z_all : mg "all" = none) (z_bool : mg "bool" = none) (z_divmod : mg "divmod" = none) (z_enumerate : mg "enumerate" = none) (z_int : mg "int" = none) (z_isinstance : mg "isinstance" = none) (z_len : mg "len" = none) (z_list : mg "list" = none) (z_max : mg "max" = none) (z_min : mg "min" = none) (z_range : mg "range" = none) (z_repr : mg "repr" = none) (z_str : mg "str" = none) (z_tuple : mg "tuple" = none) (z_zip : mg "zip" = none) (c_AT : GC K mg "AT" (.str "at")) (c_CALL : GC K mg "CALL" (.str "call")) (c_IS : GC K mg "IS" (.str "is")) (c_KEPT : GC K mg "KEPT" (.tuple [(.str "and"), (.str "answer"), (.str "asked"), (.str "define"), (.str "else"), (.str "if"), (.str "no"), (.str "not"), (.str "nothing"), (.str "or"), (.str "riddle"), (.str "sees"), (.str "then"), (.str "wish"), (.str "yes")])) (c_LETTERS : GC K mg "LETTERS" (.str "abcdefghijklmnopqrstuvwxyz")) (c_MOST_DEEP : GC K mg "MOST_DEEP" (.int 40)) (c_MOST_NAME : GC K mg "MOST_NAME" (.int 12)) (c_MOST_SIZE : GC K mg "MOST_SIZE" (.int 400)) (c_MOST_TOLD : GC K mg "MOST_TOLD" (.int 200)) (c_MOST_TOLD_DEEP : GC K mg "MOST_TOLD_DEEP" (.int 20)) (t_PARTS : ∃ a, mg "PARTS" = some (.ref a) ∧ KTab K w a tb_PARTS) :
    ∃ fd : FuncData, (∀ (s : Shared) (u : Value), BindsTo s fd ⟨[u], []⟩ [("script", u)]) ∧ ∀ base : Heap, K.In base → base.Ns mainGlobals mg → FnV PySem.Challenge.pw_partsight_k17_any_value_as_formula w K mg base 48 fa fd ["script"] M_law := by
  obtain ⟨f_is_integer, d_is_integer, F_is_integer, G_is_integer⟩ := H_is_integer
  obtain ⟨f_is_count, d_is_count, F_is_count, G_is_count⟩ := H_is_count
  obtain ⟨f_is_name, d_is_name, F_is_name, G_is_name⟩ := H_is_name
  obtain ⟨f_is_told, d_is_told, F_is_told, G_is_told⟩ := H_is_told
  obtain ⟨f_parts_of, d_parts_of, F_parts_of, G_parts_of⟩ := H_parts_of
  obtain ⟨f_is_worded, d_is_worded, F_is_worded, G_is_worded⟩ := H_is_worded
  obtain ⟨f_is_call, d_is_call, F_is_call, G_is_call⟩ := H_is_call
  obtain ⟨f_is_leaf, d_is_leaf, F_is_leaf, G_is_leaf⟩ := H_is_leaf
  obtain ⟨f_is_letter, d_is_letter, F_is_letter, G_is_letter⟩ := H_is_letter
  obtain ⟨f_is_formula, d_is_formula, F_is_formula, G_is_formula⟩ := H_is_formula
  obtain ⟨f_below, d_below, F_below, G_below⟩ := H_below
  obtain ⟨f_is_simple_by, d_is_simple_by, F_is_simple_by, G_is_simple_by⟩ := H_is_simple_by
  obtain ⟨f_is_simple, d_is_simple, F_is_simple, G_is_simple⟩ := H_is_simple
  obtain ⟨f__law_pot, d__law_pot, F__law_pot, G__law_pot⟩ := H__law_pot
  obtain ⟨f__law_draw, d__law_draw, F__law_draw, G__law_draw⟩ := H__law_draw
  obtain ⟨f__law_pick, d__law_pick, F__law_pick, G__law_pick⟩ := H__law_pick
  obtain ⟨f__law_formula, d__law_formula, F__law_formula, G__law_formula⟩ := H__law_formula
  obtain ⟨f__law_simple, d__law_simple, F__law_simple, G__law_simple⟩ := H__law_simple
  obtain ⟨f__law_is_name, d__law_is_name, F__law_is_name, G__law_is_name⟩ := H__law_is_name
  obtain ⟨f__law_measure, d__law_measure, F__law_measure, G__law_measure⟩ := H__law_measure
  obtain ⟨f__law_is_formula, d__law_is_formula, F__law_is_formula, G__law_is_formula⟩ := H__law_is_formula
  obtain ⟨f__law_is_simple, d__law_is_simple, F__law_is_simple, G__law_is_simple⟩ := H__law_is_simple
  obtain ⟨f__law_bent, d__law_bent, F__law_bent, G__law_bent⟩ := H__law_bent
  obtain ⟨f__law_long, d__law_long, F__law_long, G__law_long⟩ := H__law_long
  obtain ⟨f__law_wide, d__law_wide, F__law_wide, G__law_wide⟩ := H__law_wide
  obtain ⟨f__law_are_right, d__law_are_right, F__law_are_right, G__law_are_right⟩ := H__law_are_right
  obtain ⟨f__law_right, d__law_right, F__law_right, G__law_right⟩ := H__law_right
  obtain ⟨f_law, d_law, F_law, G_law⟩ := H_law
  obtain ⟨a_PARTS, t_PARTS⟩ := t_PARTS
  have e : f_law = fa := Value.ref.inj (Option.some.inj (G_law.symm.trans hfa))
  subst e
  exact ⟨d_law, binds_top F_law "script" (fun _ _ _ _ _ _ _ => rfl), fun base _ _ => ok_law ⟨f_is_integer, d_is_integer, F_is_integer, G_is_integer, f_is_count, d_is_count, F_is_count, G_is_count, f_is_name, d_is_name, F_is_name, G_is_name, f_is_told, d_is_told, F_is_told, G_is_told, f_parts_of, d_parts_of, F_parts_of, G_parts_of, f_is_worded, d_is_worded, F_is_worded, G_is_worded, f_is_call, d_is_call, F_is_call, G_is_call, f_is_leaf, d_is_leaf, F_is_leaf, G_is_leaf, f_is_letter, d_is_letter, F_is_letter, G_is_letter, f_is_formula, d_is_formula, F_is_formula, G_is_formula, f_below, d_below, F_below, G_below, f_is_simple_by, d_is_simple_by, F_is_simple_by, G_is_simple_by, f_is_simple, d_is_simple, F_is_simple, G_is_simple, f__law_pot, d__law_pot, F__law_pot, G__law_pot, f__law_draw, d__law_draw, F__law_draw, G__law_draw, f__law_pick, d__law_pick, F__law_pick, G__law_pick, f__law_formula, d__law_formula, F__law_formula, G__law_formula, f__law_simple, d__law_simple, F__law_simple, G__law_simple, f__law_is_name, d__law_is_name, F__law_is_name, G__law_is_name, f__law_measure, d__law_measure, F__law_measure, G__law_measure, f__law_is_formula, d__law_is_formula, F__law_is_formula, G__law_is_formula, f__law_is_simple, d__law_is_simple, F__law_is_simple, G__law_is_simple, f__law_bent, d__law_bent, F__law_bent, G__law_bent, f__law_long, d__law_long, F__law_long, G__law_long, f__law_wide, d__law_wide, F__law_wide, G__law_wide, f__law_are_right, d__law_are_right, F__law_are_right, G__law_are_right, f__law_right, d__law_right, F__law_right, G__law_right, f_law, d_law, F_law, G_law, z_abs, z_all, z_bool, z_divmod, z_enumerate, z_int, z_isinstance, z_len, z_list, z_max, z_min, z_range, z_repr, z_str, z_tuple, z_zip, c_AT, c_CALL, c_IS, c_KEPT, c_LETTERS, c_MOST_DEEP, c_MOST_NAME, c_MOST_SIZE, c_MOST_TOLD, c_MOST_TOLD_DEEP, a_PARTS, t_PARTS⟩⟩

end Lw
end Vl

set_option Elab.async false
set_option linter.all false
set_option maxRecDepth 100000
namespace Vl
namespace Lw
open PySem PySem.Spec PyProof.Rows L2

theorem ixN_nat {n k : Nat} (h : k < n) : ixN n (k : Int) = some k := by
  unfold ixN
  have : 0 ≤ (k : Int) := Int.natCast_nonneg _
  simp [this, h]
theorem ixN0 {n : Nat} (h : 0 < n) : ixN n 0 = some 0 := ixN_nat h
theorem ixN1 {n : Nat} (h : 1 < n) : ixN n 1 = some 1 := ixN_nat h
theorem ixN2 {n : Nat} (h : 2 < n) : ixN n 2 = some 2 := ixN_nat h
theorem ixN_20 : ixN 2 0 = some 0 := rfl
theorem ixN_21 : ixN 2 1 = some 1 := rfl
theorem ixN_10 : ixN 1 0 = some 0 := rfl
theorem le_sz {n : Nat} (h : n ≤ 1000) : (n ≤ sizeLine) = True := by rw [sizeLine_eq]; simp; omega
theorem lt_sz {n : Nat} (h : n ≤ 1000) : (n < sizeLine) = True := by rw [sizeLine_eq]; simp; omega
theorem atI0 {α : Type} (a : α) (l : List α) : L2.atI (a :: l) 0 = some a := by
  unfold L2.atI; rw [ixN0 (by simp)]; rfl
theorem atI1 {α : Type} (a b : α) (l : List α) : L2.atI (a :: b :: l) 1 = some b := by
  unfold L2.atI; rw [ixN1 (by simp)]; rfl
theorem atI2 {α : Type} (a b c : α) (l : List α) : L2.atI (a :: b :: c :: l) 2 = some c := by
  unfold L2.atI; rw [ixN2 (by simp)]; rfl
theorem mod_bd (x : Int) {m : Int} (h : 0 < m) : 0 ≤ x % m ∧ x % m < m := ⟨Int.emod_nonneg _ (by omega), Int.emod_lt_of_pos _ h⟩
theorem fMul_r {i j : Int} (h : -1000000000000000 < j ∧ j < 1000000000000000) : fMul (.int i) (.int j) = some (.dat (.int (i * j))) := by
  have e : (2 : Int) ^ 64 = 18446744073709551616 := by decide
  unfold fMul
  simp only [e]
  rw [if_pos (.inr (by omega))]
theorem fMul_l {i j : Int} (h : -1000000000000000 < i ∧ i < 1000000000000000) : fMul (.int i) (.int j) = some (.dat (.int (i * j))) := by
  have e : (2 : Int) ^ 64 = 18446744073709551616 := by decide
  unfold fMul
  simp only [e]
  rw [if_pos (.inl (by omega))]
theorem fMod_p {i j : Int} (h : 0 < j) : fMod (.int i) (.int j) = some (.dat (.int (i % j))) := if_pos (decide_eq_true h)
theorem fFdiv_p {i j : Int} (h : 0 < j ∧ j < 1073741824) : fFdiv (.int i) (.int j) = some (.dat (.int (i / j))) := if_pos (decide_eq_true h)
theorem fLt_i {i j : Int} : fLt (.int i) (.int j) = some (.dat (.bool (decide (i < j)))) := rfl
theorem fLe_i {i j : Int} : fLe (.int i) (.int j) = some (.dat (.bool (decide (i ≤ j)))) := rfl
theorem shp_i {i : Int} : SeqAt.shaped (.int i) = true := by
  unfold SeqAt.shaped
  simp [PyData.canLay0, PyData.depth]
theorem eqv_i {i j : Int} : PyData.eqv (.int i) (.int j) = decide (i = j) := by
  first | rfl | simp [PyData.eqv] | (unfold PyData.eqv; rfl)
theorem fEq_i {i j : Int} : fEq (.int i) (.int j) = some (.dat (.bool (decide (i = j)))) := by
  unfold fEq
  rw [if_pos ⟨shp_i, shp_i⟩, eqv_i]
theorem fNe_i {i j : Int} : fNe (.int i) (.int j) = some (.dat (.bool (!decide (i = j)))) := by
  unfold fNe
  rw [if_pos ⟨shp_i, shp_i⟩, eqv_i]
theorem dec0 {p : Prop} [Decidable p] : (decide p = true) = p := by simp
theorem ws_cut {a b : SM} {ρ : List Sl} {M N : List Sl → Prop} {R : Res → List Sl → Prop} (h : Ws (a ρ) M fun _ _ => False) (g : ∀ ρ', M ρ' → Ws (b ρ') N R) : Ws (sSeq a b ρ) N R := by
  rw [ws_seq]
  exact h.mono g fun _ _ k => k.elim
theorem ws_rtc {a b : SM} {ρ : List Sl} {N : List Sl → Prop} {R : Res → List Sl → Prop} (h : Ws (a ρ) (fun _ => False) R) : Ws (sSeq a b ρ) N R := by
  rw [ws_seq]
  exact h.mono (fun _ k => k.elim) fun _ _ k => k
theorem ws_nxc {a b : SM} {ρ ρ1 : List Sl} {N : List Sl → Prop} {R : Res → List Sl → Prop} (h : Ws (a ρ) (fun ρ' => ρ' = ρ1) fun _ _ => False) (g : Ws (b ρ1) N R) : Ws (sSeq a b ρ) N R :=
  ws_cut h fun ρ' e => by rw [e]; exact g
theorem draw_ok {m : Int} (h0 : 0 < m) (h1 : m < 1073741824) : Pf M__law_draw [.int m] (fun r => ∃ x, r = .dat (.int x) ∧ 0 ≤ x ∧ x < m) := by
  intro a s hs
  obtain ⟨s0, s1⟩ := hs
  unfold M__law_draw
  refine wp_fn ?_
  rw [ws_seq]
  by_cases ha : 0 < a
  · simp only [sIf, ws_ofE, wp_bind, wp_noX, mTB, mTr, mNotT, mAndT, mOrT, mAnd, mOr, mNot, mIf, mNeg, mBin, bin2, mChain, mVar, mK, mB, mCall_eq, aNil, aCons, mTup, mLst, mSl, oNo, oSome, mIsi, anyT, isT, truD, sSet, setR, sRet, retR, sNil, sEx, sDvm, sSt, lstAt, putLst, drefs, dats, List.map_cons, List.map_nil, List.cons_append, List.nil_append, List.append_nil, List.replicate, List.getElem?_cons_zero, List.getElem?_cons_succ, List.set_cons_zero, List.set_cons_succ, List.length_cons, List.length_nil, bind_ok, ofO_some, ofE_ok, oS_some, noX_ok, wp_ok, ws_nx, ws_rt, fz, dref, fIx, atI0, atI1, atI2, ixN_20, ixN_21, ixN_10, Option.map_some, fGt, fGe, fSub, fI, fI0, fAdd, fInt, fLen, lenD, outsOf, parOnly, notSlt, List.take_succ_cons, List.take_zero, if_true, if_false, Bool.false_eq_true, decide_true, decide_false, Bool.not_true, Bool.not_false, fIs, fIsNot, isNoneD, sTg, gmT, gmCons, gmN, gmNil, mPop, sAug, mExt, sPar, and_true, true_and, List.isEmpty_nil, List.isEmpty_cons, Nat.reduceAdd, Nat.reduceLeDiff, Nat.reduceLT, le_sz, lt_sz, fLt_i, fEq_i, fNe_i, fLe_i, dec0, if_pos ha, ws_seq, if_pos (And.intro h0 h1)]
    exact ⟨⟨_, rfl, mod_bd a h0⟩, _, _, _, ⟨s0, s1⟩, rfl⟩
  · have e1 := mod_bd (s * 40014 + 10343) (show (0 : Int) < 2147483587 by decide)
    simp only [sIf, ws_ofE, wp_bind, wp_noX, mTB, mTr, mNotT, mAndT, mOrT, mAnd, mOr, mNot, mIf, mNeg, mBin, bin2, mChain, mVar, mK, mB, mCall_eq, aNil, aCons, mTup, mLst, mSl, oNo, oSome, mIsi, anyT, isT, truD, sSet, setR, sRet, retR, sNil, sEx, sDvm, sSt, lstAt, putLst, drefs, dats, List.map_cons, List.map_nil, List.cons_append, List.nil_append, List.append_nil, List.replicate, List.getElem?_cons_zero, List.getElem?_cons_succ, List.set_cons_zero, List.set_cons_succ, List.length_cons, List.length_nil, bind_ok, ofO_some, ofE_ok, oS_some, noX_ok, wp_ok, ws_nx, ws_rt, fz, dref, fIx, atI0, atI1, atI2, ixN_20, ixN_21, ixN_10, Option.map_some, fGt, fGe, fSub, fI, fI0, fAdd, fInt, fLen, lenD, outsOf, parOnly, notSlt, List.take_succ_cons, List.take_zero, if_true, if_false, Bool.false_eq_true, decide_true, decide_false, Bool.not_true, Bool.not_false, fIs, fIsNot, isNoneD, sTg, gmT, gmCons, gmN, gmNil, mPop, sAug, mExt, sPar, and_true, true_and, List.isEmpty_nil, List.isEmpty_cons, Nat.reduceAdd, Nat.reduceLeDiff, Nat.reduceLT, le_sz, lt_sz, fLt_i, fEq_i, fNe_i, fLe_i, dec0, if_neg ha, ws_seq, fMul_r (i := s) (j := 40014) (by decide), fMod_p (i := s * 40014 + 10343) (j := 2147483587) (by decide)]
    rw [fMul_l (by omega)]
    simp only [sIf, ws_ofE, wp_bind, wp_noX, mTB, mTr, mNotT, mAndT, mOrT, mAnd, mOr, mNot, mIf, mNeg, mBin, bin2, mChain, mVar, mK, mB, mCall_eq, aNil, aCons, mTup, mLst, mSl, oNo, oSome, mIsi, anyT, isT, truD, sSet, setR, sRet, retR, sNil, sEx, sDvm, sSt, lstAt, putLst, drefs, dats, List.map_cons, List.map_nil, List.cons_append, List.nil_append, List.append_nil, List.replicate, List.getElem?_cons_zero, List.getElem?_cons_succ, List.set_cons_zero, List.set_cons_succ, List.length_cons, List.length_nil, bind_ok, ofO_some, ofE_ok, oS_some, noX_ok, wp_ok, ws_nx, ws_rt, fz, dref, fIx, atI0, atI1, atI2, ixN_20, ixN_21, ixN_10, Option.map_some, fGt, fGe, fSub, fI, fI0, fAdd, fInt, fLen, lenD, outsOf, parOnly, notSlt, List.take_succ_cons, List.take_zero, if_true, if_false, Bool.false_eq_true, decide_true, decide_false, Bool.not_true, Bool.not_false, fIs, fIsNot, isNoneD, sTg, gmT, gmCons, gmN, gmNil, mPop, sAug, mExt, sPar, and_true, true_and, List.isEmpty_nil, List.isEmpty_cons, Nat.reduceAdd, Nat.reduceLeDiff, Nat.reduceLT, le_sz, lt_sz, fLt_i, fEq_i, fNe_i, fLe_i, dec0]
    rw [fMod_p (by decide)]
    simp only [sIf, ws_ofE, wp_bind, wp_noX, mTB, mTr, mNotT, mAndT, mOrT, mAnd, mOr, mNot, mIf, mNeg, mBin, bin2, mChain, mVar, mK, mB, mCall_eq, aNil, aCons, mTup, mLst, mSl, oNo, oSome, mIsi, anyT, isT, truD, sSet, setR, sRet, retR, sNil, sEx, sDvm, sSt, lstAt, putLst, drefs, dats, List.map_cons, List.map_nil, List.cons_append, List.nil_append, List.append_nil, List.replicate, List.getElem?_cons_zero, List.getElem?_cons_succ, List.set_cons_zero, List.set_cons_succ, List.length_cons, List.length_nil, bind_ok, ofO_some, ofE_ok, oS_some, noX_ok, wp_ok, ws_nx, ws_rt, fz, dref, fIx, atI0, atI1, atI2, ixN_20, ixN_21, ixN_10, Option.map_some, fGt, fGe, fSub, fI, fI0, fAdd, fInt, fLen, lenD, outsOf, parOnly, notSlt, List.take_succ_cons, List.take_zero, if_true, if_false, Bool.false_eq_true, decide_true, decide_false, Bool.not_true, Bool.not_false, fIs, fIsNot, isNoneD, sTg, gmT, gmCons, gmN, gmNil, mPop, sAug, mExt, sPar, and_true, true_and, List.isEmpty_nil, List.isEmpty_cons, Nat.reduceAdd, Nat.reduceLeDiff, Nat.reduceLT, le_sz, lt_sz, fLt_i, fEq_i, fNe_i, fLe_i, dec0]
    rw [fFdiv_p (by decide)]
    simp only [sIf, ws_ofE, wp_bind, wp_noX, mTB, mTr, mNotT, mAndT, mOrT, mAnd, mOr, mNot, mIf, mNeg, mBin, bin2, mChain, mVar, mK, mB, mCall_eq, aNil, aCons, mTup, mLst, mSl, oNo, oSome, mIsi, anyT, isT, truD, sSet, setR, sRet, retR, sNil, sEx, sDvm, sSt, lstAt, putLst, drefs, dats, List.map_cons, List.map_nil, List.cons_append, List.nil_append, List.append_nil, List.replicate, List.getElem?_cons_zero, List.getElem?_cons_succ, List.set_cons_zero, List.set_cons_succ, List.length_cons, List.length_nil, bind_ok, ofO_some, ofE_ok, oS_some, noX_ok, wp_ok, ws_nx, ws_rt, fz, dref, fIx, atI0, atI1, atI2, ixN_20, ixN_21, ixN_10, Option.map_some, fGt, fGe, fSub, fI, fI0, fAdd, fInt, fLen, lenD, outsOf, parOnly, notSlt, List.take_succ_cons, List.take_zero, if_true, if_false, Bool.false_eq_true, decide_true, decide_false, Bool.not_true, Bool.not_false, fIs, fIsNot, isNoneD, sTg, gmT, gmCons, gmN, gmNil, mPop, sAug, mExt, sPar, and_true, true_and, List.isEmpty_nil, List.isEmpty_cons, Nat.reduceAdd, Nat.reduceLeDiff, Nat.reduceLT, le_sz, lt_sz, fLt_i, fEq_i, fNe_i, fLe_i, dec0]
    rw [fMod_p h0]
    simp only [sIf, ws_ofE, wp_bind, wp_noX, mTB, mTr, mNotT, mAndT, mOrT, mAnd, mOr, mNot, mIf, mNeg, mBin, bin2, mChain, mVar, mK, mB, mCall_eq, aNil, aCons, mTup, mLst, mSl, oNo, oSome, mIsi, anyT, isT, truD, sSet, setR, sRet, retR, sNil, sEx, sDvm, sSt, lstAt, putLst, drefs, dats, List.map_cons, List.map_nil, List.cons_append, List.nil_append, List.append_nil, List.replicate, List.getElem?_cons_zero, List.getElem?_cons_succ, List.set_cons_zero, List.set_cons_succ, List.length_cons, List.length_nil, bind_ok, ofO_some, ofE_ok, oS_some, noX_ok, wp_ok, ws_nx, ws_rt, fz, dref, fIx, atI0, atI1, atI2, ixN_20, ixN_21, ixN_10, Option.map_some, fGt, fGe, fSub, fI, fI0, fAdd, fInt, fLen, lenD, outsOf, parOnly, notSlt, List.take_succ_cons, List.take_zero, if_true, if_false, Bool.false_eq_true, decide_true, decide_false, Bool.not_true, Bool.not_false, fIs, fIsNot, isNoneD, sTg, gmT, gmCons, gmN, gmNil, mPop, sAug, mExt, sPar, and_true, true_and, List.isEmpty_nil, List.isEmpty_cons, Nat.reduceAdd, Nat.reduceLeDiff, Nat.reduceLT, le_sz, lt_sz, fLt_i, fEq_i, fNe_i, fLe_i, dec0]
    exact ⟨⟨_, rfl, mod_bd _ h0⟩, _, _, _, ⟨by omega, by omega⟩, rfl⟩
theorem atI_in {α : Type} {ds : List α} {x : Int} (h0 : 0 ≤ x) (h1 : x < ds.length) : ∃ d, L2.atI ds x = some d ∧ d ∈ ds := by
  unfold L2.atI
  have e : x = ((x.toNat : Nat) : Int) := by omega
  have hl : x.toNat < ds.length := by omega
  rw [e, ixN_nat hl]
  exact ⟨ds[x.toNat], List.getElem?_eq_getElem hl, List.getElem_mem hl⟩
theorem pick_ok {ds : List D} (h0 : 0 < ds.length) (h1 : ds.length < 1073741824) : Pf M__law_pick [.list ds] (fun r => ∃ d, r = .dat d ∧ d ∈ ds) := by
  intro a s hs
  unfold M__law_pick
  refine wp_fn ?_
  simp only [sIf, ws_ofE, wp_bind, wp_noX, mTB, mTr, mNotT, mAndT, mOrT, mAnd, mOr, mNot, mIf, mNeg, mBin, bin2, mChain, mVar, mK, mB, mCall_eq, aNil, aCons, mTup, mLst, mSl, oNo, oSome, mIsi, anyT, isT, truD, sSet, setR, sRet, retR, sNil, sEx, sDvm, sSt, lstAt, putLst, drefs, dats, List.map_cons, List.map_nil, List.cons_append, List.nil_append, List.append_nil, List.replicate, List.getElem?_cons_zero, List.getElem?_cons_succ, List.set_cons_zero, List.set_cons_succ, List.length_cons, List.length_nil, bind_ok, ofO_some, ofE_ok, oS_some, noX_ok, wp_ok, ws_nx, ws_rt, fz, dref, fIx, atI0, atI1, atI2, ixN_20, ixN_21, ixN_10, Option.map_some, fGt, fGe, fSub, fI, fI0, fAdd, fInt, fLen, lenD, outsOf, parOnly, notSlt, List.take_succ_cons, List.take_zero, if_true, if_false, Bool.false_eq_true, decide_true, decide_false, Bool.not_true, Bool.not_false, fIs, fIsNot, isNoneD, sTg, gmT, gmCons, gmN, gmNil, mPop, sAug, mExt, sPar, and_true, true_and, List.isEmpty_nil, List.isEmpty_cons, Nat.reduceAdd, Nat.reduceLeDiff, Nat.reduceLT, le_sz, lt_sz, fLt_i, fEq_i, fNe_i, fLe_i, dec0]
  refine call_pot (ds := [.int ds.length]) (draw_ok (by omega) (by omega)) hs fun a' s' r hs' hr => ?_
  obtain ⟨x, rfl, x0, x1⟩ := hr
  obtain ⟨d, e, hd⟩ := atI_in x0 x1
  simp only [sIf, ws_ofE, wp_bind, wp_noX, mTB, mTr, mNotT, mAndT, mOrT, mAnd, mOr, mNot, mIf, mNeg, mBin, bin2, mChain, mVar, mK, mB, mCall_eq, aNil, aCons, mTup, mLst, mSl, oNo, oSome, mIsi, anyT, isT, truD, sSet, setR, sRet, retR, sNil, sEx, sDvm, sSt, lstAt, putLst, drefs, dats, List.map_cons, List.map_nil, List.cons_append, List.nil_append, List.append_nil, List.replicate, List.getElem?_cons_zero, List.getElem?_cons_succ, List.set_cons_zero, List.set_cons_succ, List.length_cons, List.length_nil, bind_ok, ofO_some, ofE_ok, oS_some, noX_ok, wp_ok, ws_nx, ws_rt, fz, dref, fIx, atI0, atI1, atI2, ixN_20, ixN_21, ixN_10, Option.map_some, fGt, fGe, fSub, fI, fI0, fAdd, fInt, fLen, lenD, outsOf, parOnly, notSlt, List.take_succ_cons, List.take_zero, if_true, if_false, Bool.false_eq_true, decide_true, decide_false, Bool.not_true, Bool.not_false, fIs, fIsNot, isNoneD, sTg, gmT, gmCons, gmN, gmNil, mPop, sAug, mExt, sPar, and_true, true_and, List.isEmpty_nil, List.isEmpty_cons, Nat.reduceAdd, Nat.reduceLeDiff, Nat.reduceLT, le_sz, lt_sz, fLt_i, fEq_i, fNe_i, fLe_i, dec0, e]
  exact ⟨⟨d, rfl, hd⟩, _, _, _, hs', rfl⟩
/-- a comprehension of draws -/
theorem lc_pot {i : Nat} {tm : TM} {em : EM} {G : D → Prop} {ρ : List Sl} (hi : ρ[i]? = some .non) (ht : ∀ ρ, tm ρ = .ok true ρ) : ∀ (ds acc : List D) (a s : Int), PotOk s → (∀ a s d, PotOk s → Wp (em (Pt a s :: ρ.set i (.dat d))) fun r ρ' => ∃ a' s' y, PotOk s' ∧ r = .dat y ∧ G y ∧ ρ' = Pt a' s' :: ρ.set i (.dat d)) → acc.length + ds.length ≤ sizeLine →
    Wp (lcL (gmN (i + 1)) (fun ρ => noX (tm ρ)) (fun ρ => noX (em ρ)) [i + 1] ds (Pt a s :: ρ) acc) fun r ρ' => ∃ a' s' es, PotOk s' ∧ r = .frs (.lst (acc ++ es)) ∧ es.length = ds.length ∧ (∀ y ∈ es, G y) ∧ ρ' = Pt a' s' :: ρ
  | [], acc, a, s, hs, _, _ => ⟨a, s, [], hs, by rw [List.append_nil], rfl, (fun _ h => nomatch h), rfl⟩
  | d :: ds, acc, a, s, hs, h, hl => by
    unfold lcL
    have e0 : gmN (i + 1) d (Pt a s :: ρ) = some (Pt a s :: ρ.set i (.dat d)) := rfl
    rw [e0, ofO_some, ht, noX_ok, bind_ok, if_pos rfl, wp_bind, wp_noX]
    refine (h a s d hs).mono fun r ρ' hr => ?_
    obtain ⟨a', s', y, hs', rfl, hy, rfl⟩ := hr
    rw [List.length_cons] at hl
    show Wp (if acc.length < sizeLine then lcL (gmN (i + 1)) (fun ρ => noX (tm ρ)) (fun ρ => noX (em ρ)) [i + 1] ds (wipeS (Pt a' s' :: ρ.set i (.dat d)) [i + 1]) (acc ++ [y]) else .stuck) _
    rw [if_pos (by omega)]
    have e1 : wipeS (Pt a' s' :: ρ.set i (.dat d)) [i + 1] = Pt a' s' :: ρ := by
      show Pt a' s' :: (ρ.set i (.dat d)).set i .non = _
      rw [List.set_set]
      congr 1
      apply List.ext_getElem?
      intro k
      by_cases e : i = k
      · subst e; rw [List.getElem?_set_self (List.getElem?_eq_some_iff.mp hi).1, hi]
      · rw [List.getElem?_set_ne e]
    rw [e1]
    refine (lc_pot hi ht ds (acc ++ [y]) a' s' hs' h (by rw [List.length_append]; show acc.length + 1 + ds.length ≤ _; omega)).mono fun r ρ' hr => ?_
    obtain ⟨a2, s2, es, h1, rfl, h2, h3, rfl⟩ := hr
    refine ⟨a2, s2, y :: es, h1, by rw [List.append_assoc]; rfl, by rw [List.length_cons, List.length_cons, h2], fun z hz => ?_, rfl⟩
    rcases List.mem_cons.mp hz with rfl | hz
    · exact hy
    · exact h3 z hz
end Lw
end Vl

set_option Elab.async false
set_option linter.all false
set_option maxRecDepth 100000
namespace Vl
open PySem PySem.Spec PyProof.Rows L2

/-! ### data that are small: what the walk asks of them -/
def okS (x : Str) : Bool := PyData.strOk x && decide (x.length ≤ 40) && decide ((reprText x).length ≤ 60) && PyData.strOk (reprText x)
def okI (i : Int) : Bool := decide (-100 ≤ i ∧ i ≤ 100) || decide (i = 10000000000000000000000000)
def hdOk : List D → Bool
  | .str _ :: r => decide (r.length < 9)
  | _ => true
mutual
def okD : D → Bool
  | .none => true
  | .bool _ => true
  | .int i => okI i
  | .str x => okS x
  | .list ds => okAll ds
  | .tuple ds => okAll ds && hdOk ds
  | .dict _ => false
def okAll : List D → Bool
  | [] => true
  | d :: ds => okD d && okAll ds
end
mutual
def wt : D → Nat
  | .list ds => 1 + wtAll ds
  | .tuple ds => 1 + wtAll ds
  | _ => 1
def wtAll : List D → Nat
  | [] => 0
  | d :: ds => wt d + wtAll ds
end
theorem okI_lay {i : Int} (h : okI i = true) : PyData.strOk (toString i : Str) = true := by
  unfold okI at h
  rw [Bool.or_eq_true, decide_eq_true_eq, decide_eq_true_eq] at h
  rcases h with h | h
  · have key : ∀ k : Fin 201, PyData.strOk (toString ((k.val : Int) - 100) : Str) = true := by decide +kernel
    have := key ⟨(i + 100).toNat, by omega⟩
    have e : (((i + 100).toNat : Nat) : Int) - 100 = i := by omega
    simpa only [e] using this
  · subst h; decide +kernel
theorem okI_str {i : Int} (h : okI i = true) : (toString i : Str).length ≤ 60 ∧ i.natAbs.log2 < 1920 := by
  unfold okI at h
  rw [Bool.or_eq_true, decide_eq_true_eq, decide_eq_true_eq] at h
  rcases h with h | h
  · have key : ∀ k : Fin 201, ((toString ((k.val : Int) - 100) : Str).length ≤ 60 ∧ ((k.val : Int) - 100).natAbs.log2 < 1920) := by decide +kernel
    have := key ⟨(i + 100).toNat, by omega⟩
    have e : (((i + 100).toNat : Nat) : Int) - 100 = i := by omega
    simpa only [e] using this
  · subst h; decide +kernel
mutual
theorem ok_lay : ∀ d : D, okD d = true → d.canLay0 = true
  | .none, _ => by simp only [PyData.canLay0]
  | .bool _, _ => by simp only [PyData.canLay0]
  | .int _, _ => by simp only [PyData.canLay0]
  | .str x, h => by
    simp only [okD, okS, Bool.and_eq_true] at h
    simp only [PyData.canLay0]
    exact h.1.1.1
  | .list ds, h => by
    simp only [okD] at h
    simp only [PyData.canLay0]
    exact okAll_lay ds h
  | .tuple ds, h => by
    simp only [okD, Bool.and_eq_true] at h
    simp only [PyData.canLay0]
    exact okAll_lay ds h.1
  | .dict _, h => by simp [okD] at h
theorem okAll_lay : ∀ ds : List D, okAll ds = true → PyData.canLayAll0 ds = true
  | [], _ => by simp only [PyData.canLayAll0]
  | d :: ds, h => by
    simp only [okAll, Bool.and_eq_true] at h
    simp only [PyData.canLayAll0, ok_lay d h.1, okAll_lay ds h.2, Bool.and_self]
end
mutual
theorem ok_show : ∀ d : D, okD d = true → d.showable = true
  | .none, _ => by simp only [PyData.showable]
  | .bool _, _ => by simp only [PyData.showable]
  | .int i, h => by
    simp only [okD] at h
    simp only [PyData.showable, decide_eq_true_eq]
    exact (okI_str h).2
  | .str x, h => by simp only [PyData.showable]
  | .list ds, h => by
    simp only [okD] at h
    simp only [PyData.showable]
    exact okAll_show ds h
  | .tuple ds, h => by
    simp only [okD, Bool.and_eq_true] at h
    simp only [PyData.showable]
    exact okAll_show ds h.1
  | .dict _, h => by simp [okD] at h
theorem okAll_show : ∀ ds : List D, okAll ds = true → PyData.showableAll ds = true
  | [], _ => by simp only [PyData.showableAll]
  | d :: ds, h => by
    simp only [okAll, Bool.and_eq_true] at h
    simp only [PyData.showableAll, ok_show d h.1, okAll_show ds h.2, Bool.and_self]
end
mutual
theorem dep_wt : ∀ d : D, okD d = true → d.depth < wt d + 1
  | .none, _ => by simp [PyData.depth, wt]
  | .bool _, _ => by simp [PyData.depth, wt]
  | .int _, _ => by simp [PyData.depth, wt]
  | .str _, _ => by simp [PyData.depth, wt]
  | .list ds, h => by
    simp only [okD] at h
    have := depAll_wt ds h
    simp only [PyData.depth, wt]; omega
  | .tuple ds, h => by
    simp only [okD, Bool.and_eq_true] at h
    have := depAll_wt ds h.1
    simp only [PyData.depth, wt]; omega
  | .dict _, h => by simp [okD] at h
theorem depAll_wt : ∀ ds : List D, okAll ds = true → PyData.depthAll ds ≤ wtAll ds
  | [], _ => by simp [PyData.depthAll, wtAll]
  | d :: ds, h => by
    simp only [okAll, Bool.and_eq_true] at h
    have h1 := dep_wt d h.1
    have h2 := depAll_wt ds h.2
    simp only [PyData.depthAll, wtAll]; omega
end

theorem piled_cons (t : Str) (ts : List Str) : piled (t :: ts) = t.length + 2 + piled ts := by simp [piled]
theorem from_le : ∀ (ts : List Str) (k : Nat) (acc : Str), (textFrom k acc ts).length ≤ acc.length + piled ts
  | [], k, acc => by show acc.length ≤ acc.length + _; omega
  | t :: r, k, acc => by
    have ih := from_le r (k + 1) (acc ++ (if k > 0 then ", " else "" : String) ++ t)
    have e : (acc ++ (if k > 0 then ", " else "" : String) ++ t).length ≤ acc.length + 2 + t.length := by
      rw [strLen_append, strLen_append]
      split
      · exact Nat.le_refl _
      · show acc.length + 0 + t.length ≤ _; omega
    show (textFrom (k + 1) (acc ++ (if k > 0 then ", " else "" : String) ++ t) r).length ≤ _
    rw [piled_cons]; omega
theorem join_le (ts : List Str) : (Str.join ", " ts).length ≤ piled ts := by
  by_cases h : ts = []
  · subst h; exact Nat.zero_le _
  · have := join_length_add ts h; omega
mutual
theorem shown_wt : ∀ d : D, okD d = true → d.shown.length + 2 ≤ 64 * wt d
  | .none, _ => by simp only [PyData.shown, wt]; decide +kernel
  | .bool true, _ => by simp only [PyData.shown, wt]; decide +kernel
  | .bool false, _ => by simp only [PyData.shown, wt]; decide +kernel
  | .int i, h => by
    simp only [okD] at h
    have := (okI_str h).1
    simp only [PyData.shown, wt]; omega
  | .str x, h => by
    simp only [okD, okS, Bool.and_eq_true, decide_eq_true_eq] at h
    simp only [PyData.shown, wt]; omega
  | .list ds, h => by
    simp only [okD] at h
    have := shownAll_wt ds h
    have h2 := from_le (PyData.shownAll ds) 0 "["
    simp only [PyData.shown, wt, listText, strLen_append]
    have e1 : (("[" : String) : Str).length = 1 := rfl
    have e2 : (("]" : String) : Str).length = 1 := rfl
    omega
  | .tuple ds, h => by
    simp only [okD, Bool.and_eq_true] at h
    have := shownAll_wt ds h.1
    have h2 := join_le (PyData.shownAll ds)
    simp only [PyData.shown, wt, tupleText, strLen_append]
    have e1 : ((if (PyData.shownAll ds).length == 1 then ",)" else ")" : String) : Str).length ≤ 2 := by split <;> decide +kernel
    have e2 : ("(" : Str).length = 1 := rfl
    omega
  | .dict _, h => by simp [okD] at h
theorem shownAll_wt : ∀ ds : List D, okAll ds = true → piled (PyData.shownAll ds) ≤ 64 * wtAll ds
  | [], _ => by simp only [PyData.shownAll, wtAll]; exact Nat.le_refl _
  | d :: ds, h => by
    simp only [okAll, Bool.and_eq_true] at h
    have h1 := shown_wt d h.1
    have h2 := shownAll_wt ds h.2
    simp only [PyData.shownAll, wtAll]
    rw [piled_cons]; omega
end
theorem lay_app (a b : Str) : PyData.strOk (a ++ b) = (PyData.strOk a && PyData.strOk b) := by
  unfold PyData.strOk
  rw [Str.cps_append, Array.all_append]
theorem from_lay : ∀ (ts : List Str) (k : Nat) (acc : Str), PyData.strOk acc = true → (∀ t ∈ ts, PyData.strOk t = true) → PyData.strOk (textFrom k acc ts) = true
  | [], _, _, h, _ => h
  | t :: r, k, acc, h, g => from_lay r (k + 1) (acc ++ (if k > 0 then ", " else "" : String) ++ t) (by
      rw [lay_app, lay_app, h, g t List.mem_cons_self]
      split <;> decide +kernel) fun u hu => g u (List.mem_cons_of_mem _ hu)
theorem join_lay : ∀ (ts : List Str), (∀ t ∈ ts, PyData.strOk t = true) → PyData.strOk (Str.join ", " ts) = true
  | [], _ => by decide +kernel
  | [t], g => g t List.mem_cons_self
  | t :: u :: r, g => by
    have ih := join_lay (u :: r) fun v hv => g v (List.mem_cons_of_mem _ hv)
    show PyData.strOk (t ++ ", " ++ Str.join ", " (u :: r)) = true
    rw [lay_app, lay_app, ih, g t List.mem_cons_self]
    decide +kernel
mutual
theorem shown_lay : ∀ d : D, okD d = true → PyData.strOk d.shown = true
  | .none, _ => by simp only [PyData.shown]; decide +kernel
  | .bool true, _ => by simp only [PyData.shown]; decide +kernel
  | .bool false, _ => by simp only [PyData.shown]; decide +kernel
  | .int i, h => by
    simp only [okD] at h
    simp only [PyData.shown]; exact okI_lay h
  | .str x, h => by
    simp only [okD, okS, Bool.and_eq_true] at h
    simp only [PyData.shown]; exact h.2
  | .list ds, h => by
    simp only [okD] at h
    simp only [PyData.shown, listText]
    rw [lay_app, from_lay _ 0 "[" (by decide +kernel) (shownAll_lay ds h)]
    decide +kernel
  | .tuple ds, h => by
    simp only [okD, Bool.and_eq_true] at h
    simp only [PyData.shown, tupleText]
    rw [lay_app, lay_app, join_lay _ (shownAll_lay ds h.1)]
    split <;> decide +kernel
  | .dict _, h => by simp [okD] at h
theorem shownAll_lay : ∀ ds : List D, okAll ds = true → ∀ t ∈ PyData.shownAll ds, PyData.strOk t = true
  | [], _, t, ht => by simp [PyData.shownAll] at ht
  | d :: ds, h, t, ht => by
    simp only [okAll, Bool.and_eq_true] at h
    simp only [PyData.shownAll] at ht
    rcases List.mem_cons.mp ht with rfl | ht
    · exact shown_lay d h.1
    · exact shownAll_lay ds h.2 t ht
end
/-- small: the whole -/
def Gd (d : D) : Prop := okD d = true ∧ wt d ≤ 100000 ∧ d.depth ≤ 60
theorem Gd.shaped {d : D} (h : Gd d) : SeqAt.shaped d = true := by
  unfold SeqAt.shaped
  rw [ok_lay d h.1, Bool.true_and, decide_eq_true_eq]
  have := h.2.2; omega
theorem Gd.repr {d : D} (h : Gd d) : PyData.showable d = true ∧ d.hasDict = false ∧ d.depth ≤ 100 ∧ d.shown.length ≤ sizeLine := by
  refine ⟨ok_show d h.1, PyData.hasDict_of_canLay d (ok_lay d h.1), by have := h.2.2; omega, ?_⟩
  have h1 := shown_wt d h.1
  have h2 := h.2.1
  rw [sizeLine_eq]; omega

/-! ### drawn formulas: words, few parts -/
def wds : List Str := ["yes", "no", "is", "at", "not", "and", "or", "same", "if", "call", "a", "b", "f"]
def isW (x : Str) : Bool := wds.contains x
mutual
def nb : D → Bool
  | .int i => decide (-50 ≤ i ∧ i ≤ 50)
  | .str x => isW x
  | .tuple ds => decide (ds.length ≤ 4) && nbAll ds
  | _ => false
def nbAll : List D → Bool
  | [] => true
  | d :: ds => nb d && nbAll ds
end
theorem nbw : isW "yes" = true ∧ isW "no" = true ∧ isW "is" = true ∧ isW "at" = true ∧ isW "not" = true ∧ isW "and" = true ∧ isW "or" = true ∧ isW "same" = true ∧ isW "if" = true ∧ isW "call" = true ∧ isW "a" = true ∧ isW "b" = true ∧ isW "f" = true := by decide +kernel
theorem okI_small {i : Int} (h0 : -100 ≤ i) (h1 : i ≤ 100) : okI i = true := by
  unfold okI
  rw [decide_eq_true (And.intro h0 h1)]; rfl
/-- what is made of a word -/
theorem words_ok : ∀ w ∈ wds, okS w = true ∧ w.length ≤ 4 ∧ okS (w ++ ("x" : Str)) = true ∧ okS (L2.cutS w (some 1) none) = true ∧ okS (Txt.upper w) = true := by decide +kernel
theorem isW_mem {x : Str} (h : isW x = true) : x ∈ wds := by
  unfold isW at h
  exact List.elem_iff.mp h
theorem str_ok {i : Int} (h0 : -100 ≤ i) (h1 : i ≤ 100) : okS (toString i : Str) = true ∧ i.natAbs.log2 < 1920 := by
  have key : ∀ k : Fin 201, (okS (toString ((k.val : Int) - 100) : Str) = true ∧ ((k.val : Int) - 100).natAbs.log2 < 1920) := by decide +kernel
  have := key ⟨(i + 100).toNat, by omega⟩
  have e : (((i + 100).toNat : Nat) : Int) - 100 = i := by omega
  simpa only [e] using this
theorem hd_short {ds : List D} (h : ds.length ≤ 9) : hdOk ds = true := by
  cases ds with
  | nil => rfl
  | cons d r => cases d <;> simp [hdOk]; simp at h; omega
mutual
theorem nb_ok : ∀ d : D, nb d = true → okD d = true
  | .int i, h => by
    simp only [nb, decide_eq_true_eq] at h
    simp only [okD]
    exact okI_small (by omega) (by omega)
  | .str x, h => by
    simp only [nb] at h
    simp only [okD]
    exact (words_ok x (isW_mem h)).1
  | .tuple ds, h => by
    simp only [nb, Bool.and_eq_true, decide_eq_true_eq] at h
    simp only [okD, nbAll_ok ds h.2, hd_short (show ds.length ≤ 9 by omega), Bool.and_self]
  | .none, h => by simp [nb] at h
  | .bool _, h => by simp [nb] at h
  | .list _, h => by simp [nb] at h
  | .dict _, h => by simp [nb] at h
theorem nbAll_ok : ∀ ds : List D, nbAll ds = true → okAll ds = true
  | [], _ => by simp only [okAll]
  | d :: ds, h => by
    simp only [nbAll, Bool.and_eq_true] at h
    simp only [okAll, nb_ok d h.1, nbAll_ok ds h.2, Bool.and_self]
end
end Vl

set_option Elab.async false
set_option linter.all false
set_option maxRecDepth 100000
namespace Vl
namespace Lw
open PySem PySem.Spec PyProof.Rows L2

def Gk (k : Nat) (d : D) : Prop := nb d = true ∧ wt d ≤ 4 ^ (k + 1) ∧ d.depth ≤ 2 * k + 1
def Gr (G : D → Prop) (r : Res) : Prop := ∃ d, r = .dat d ∧ G d
abbrev nms : D := .list [.str "a", .str "b", .str "f"]
theorem two_le (k : Nat) (h : 0 < k) : 4 ≤ 4 ^ k := by
  cases k with
  | zero => omega
  | succ k => rw [Nat.pow_succ]; have := Nat.pow_pos (n := k) (show 0 < 4 by decide); omega
theorem sz3 : 3 ≤ sizeLine := by rw [sizeLine_eq]; omega
theorem sz20 : 20 ≤ sizeLine := by rw [sizeLine_eq]; omega
theorem okw : okS "yes" = true ∧ okS "no" = true ∧ okS "is" = true ∧ okS "at" = true ∧ okS "not" = true ∧ okS "and" = true ∧ okS "or" = true ∧ okS "same" = true ∧ okS "if" = true ∧ okS "call" = true ∧ okS "a" = true ∧ okS "b" = true ∧ okS "f" = true := by decide +kernel
theorem formula_ok : ∀ n k : Nat, k < n → Pf (M__law_formula n) [nms, .int k] (Gr (Gk k))
  | 0, k, h => by omega
  | n + 1, k, h => by
    have ih := formula_ok n
    intro a s hs
    show Wp (fnM _ _ _ _) _
    refine wp_fn (ws_cut (M := fun ρ => ∃ a s x, PotOk s ∧ 0 ≤ x ∧ x < 11 ∧ (2 ≤ x → 0 < k) ∧ ρ = [Pt a s, .dat nms, .dat (.int k), .dat (.int x), .non, .non, .non]) ?_ fun ρ hρ => ?_)
    · simp only [sIf, ws_ofE, wp_bind, wp_noX, mTB, mTr, mNotT, mAndT, mOrT, mAnd, mOr, mNot, mIf, mNeg, mBin, bin2, mChain, mVar, mK, mB, mCall_eq, aNil, aCons, mTup, mLst, mSl, oNo, oSome, mIsi, anyT, isT, truD, sSet, setR, sRet, retR, sNil, sEx, sDvm, sSt, lstAt, putLst, drefs, dats, List.map_cons, List.map_nil, List.cons_append, List.nil_append, List.append_nil, List.replicate, List.getElem?_cons_zero, List.getElem?_cons_succ, List.set_cons_zero, List.set_cons_succ, List.length_cons, List.length_nil, bind_ok, ofO_some, ofE_ok, oS_some, noX_ok, wp_ok, ws_nx, ws_rt, fz, dref, fIx, atI0, atI1, atI2, ixN_20, ixN_21, ixN_10, Option.map_some, fGt, fGe, fSub, fI, fI0, fAdd, fInt, fLen, lenD, outsOf, parOnly, notSlt, List.take_succ_cons, List.take_zero, if_true, if_false, Bool.false_eq_true, decide_true, decide_false, Bool.not_true, Bool.not_false, fIs, fIsNot, isNoneD, sTg, gmT, gmCons, gmN, gmNil, mPop, sAug, mExt, sPar, and_true, true_and, List.isEmpty_nil, List.isEmpty_cons, Nat.reduceAdd, Nat.reduceLeDiff, Nat.reduceLT, le_sz, lt_sz, fLt_i, fEq_i, fNe_i, fLe_i, dec0]
      by_cases hk : 0 < k
      · simp only [sIf, ws_ofE, wp_bind, wp_noX, mTB, mTr, mNotT, mAndT, mOrT, mAnd, mOr, mNot, mIf, mNeg, mBin, bin2, mChain, mVar, mK, mB, mCall_eq, aNil, aCons, mTup, mLst, mSl, oNo, oSome, mIsi, anyT, isT, truD, sSet, setR, sRet, retR, sNil, sEx, sDvm, sSt, lstAt, putLst, drefs, dats, List.map_cons, List.map_nil, List.cons_append, List.nil_append, List.append_nil, List.replicate, List.getElem?_cons_zero, List.getElem?_cons_succ, List.set_cons_zero, List.set_cons_succ, List.length_cons, List.length_nil, bind_ok, ofO_some, ofE_ok, oS_some, noX_ok, wp_ok, ws_nx, ws_rt, fz, dref, fIx, atI0, atI1, atI2, ixN_20, ixN_21, ixN_10, Option.map_some, fGt, fGe, fSub, fI, fI0, fAdd, fInt, fLen, lenD, outsOf, parOnly, notSlt, List.take_succ_cons, List.take_zero, if_true, if_false, Bool.false_eq_true, decide_true, decide_false, Bool.not_true, Bool.not_false, fIs, fIsNot, isNoneD, sTg, gmT, gmCons, gmN, gmNil, mPop, sAug, mExt, sPar, and_true, true_and, List.isEmpty_nil, List.isEmpty_cons, Nat.reduceAdd, Nat.reduceLeDiff, Nat.reduceLT, le_sz, lt_sz, fLt_i, fEq_i, fNe_i, fLe_i, dec0, if_pos (show (0 : Int) < (k : Int) by omega)]
        refine call_pot (ds := [.int 11]) (draw_ok (by decide) (by decide)) hs fun a' s' r hs' hr => ?_
        obtain ⟨x, rfl, x0, x1⟩ := hr
        simp only [sIf, ws_ofE, wp_bind, wp_noX, mTB, mTr, mNotT, mAndT, mOrT, mAnd, mOr, mNot, mIf, mNeg, mBin, bin2, mChain, mVar, mK, mB, mCall_eq, aNil, aCons, mTup, mLst, mSl, oNo, oSome, mIsi, anyT, isT, truD, sSet, setR, sRet, retR, sNil, sEx, sDvm, sSt, lstAt, putLst, drefs, dats, List.map_cons, List.map_nil, List.cons_append, List.nil_append, List.append_nil, List.replicate, List.getElem?_cons_zero, List.getElem?_cons_succ, List.set_cons_zero, List.set_cons_succ, List.length_cons, List.length_nil, bind_ok, ofO_some, ofE_ok, oS_some, noX_ok, wp_ok, ws_nx, ws_rt, fz, dref, fIx, atI0, atI1, atI2, ixN_20, ixN_21, ixN_10, Option.map_some, fGt, fGe, fSub, fI, fI0, fAdd, fInt, fLen, lenD, outsOf, parOnly, notSlt, List.take_succ_cons, List.take_zero, if_true, if_false, Bool.false_eq_true, decide_true, decide_false, Bool.not_true, Bool.not_false, fIs, fIsNot, isNoneD, sTg, gmT, gmCons, gmN, gmNil, mPop, sAug, mExt, sPar, and_true, true_and, List.isEmpty_nil, List.isEmpty_cons, Nat.reduceAdd, Nat.reduceLeDiff, Nat.reduceLT, le_sz, lt_sz, fLt_i, fEq_i, fNe_i, fLe_i, dec0]
        exact ⟨a', s', x, hs', x0, x1, fun _ => hk, rfl⟩
      · simp only [sIf, ws_ofE, wp_bind, wp_noX, mTB, mTr, mNotT, mAndT, mOrT, mAnd, mOr, mNot, mIf, mNeg, mBin, bin2, mChain, mVar, mK, mB, mCall_eq, aNil, aCons, mTup, mLst, mSl, oNo, oSome, mIsi, anyT, isT, truD, sSet, setR, sRet, retR, sNil, sEx, sDvm, sSt, lstAt, putLst, drefs, dats, List.map_cons, List.map_nil, List.cons_append, List.nil_append, List.append_nil, List.replicate, List.getElem?_cons_zero, List.getElem?_cons_succ, List.set_cons_zero, List.set_cons_succ, List.length_cons, List.length_nil, bind_ok, ofO_some, ofE_ok, oS_some, noX_ok, wp_ok, ws_nx, ws_rt, fz, dref, fIx, atI0, atI1, atI2, ixN_20, ixN_21, ixN_10, Option.map_some, fGt, fGe, fSub, fI, fI0, fAdd, fInt, fLen, lenD, outsOf, parOnly, notSlt, List.take_succ_cons, List.take_zero, if_true, if_false, Bool.false_eq_true, decide_true, decide_false, Bool.not_true, Bool.not_false, fIs, fIsNot, isNoneD, sTg, gmT, gmCons, gmN, gmNil, mPop, sAug, mExt, sPar, and_true, true_and, List.isEmpty_nil, List.isEmpty_cons, Nat.reduceAdd, Nat.reduceLeDiff, Nat.reduceLT, le_sz, lt_sz, fLt_i, fEq_i, fNe_i, fLe_i, dec0, if_neg (show ¬ (0 : Int) < (k : Int) by omega)]
        exact ⟨a, s, 0, hs, by omega, by omega, fun h => by omega, rfl⟩
    · obtain ⟨a, s, x, hs, x0, x1, xk, rfl⟩ := hρ
      have e1 : 2 ≤ x → (k : Int) - 1 = ((k - 1 : Nat) : Int) := fun h => by have := xk h; omega
      have e2 : 2 ≤ x → k - 1 < n := fun h => by have := xk h; omega
      have rec_ : 2 ≤ x → Pf (M__law_formula n) [nms, .int ((k - 1 : Nat) : Int)] (Gr (Gk (k - 1))) := fun h => ih (k - 1) (e2 h)
      have e3 : 2 ≤ x → k - 1 + 1 = k := fun h => by have := xk h; omega
      by_cases h2 : x < 2
      · refine ws_rtc ?_
        simp only [sIf, ws_ofE, wp_bind, wp_noX, mTB, mTr, mNotT, mAndT, mOrT, mAnd, mOr, mNot, mIf, mNeg, mBin, bin2, mChain, mVar, mK, mB, mCall_eq, aNil, aCons, mTup, mLst, mSl, oNo, oSome, mIsi, anyT, isT, truD, sSet, setR, sRet, retR, sNil, sEx, sDvm, sSt, lstAt, putLst, drefs, dats, List.map_cons, List.map_nil, List.cons_append, List.nil_append, List.append_nil, List.replicate, List.getElem?_cons_zero, List.getElem?_cons_succ, List.set_cons_zero, List.set_cons_succ, List.length_cons, List.length_nil, bind_ok, ofO_some, ofE_ok, oS_some, noX_ok, wp_ok, ws_nx, ws_rt, fz, dref, fIx, atI0, atI1, atI2, ixN_20, ixN_21, ixN_10, Option.map_some, fGt, fGe, fSub, fI, fI0, fAdd, fInt, fLen, lenD, outsOf, parOnly, notSlt, List.take_succ_cons, List.take_zero, if_true, if_false, Bool.false_eq_true, decide_true, decide_false, Bool.not_true, Bool.not_false, fIs, fIsNot, isNoneD, sTg, gmT, gmCons, gmN, gmNil, mPop, sAug, mExt, sPar, and_true, true_and, List.isEmpty_nil, List.isEmpty_cons, Nat.reduceAdd, Nat.reduceLeDiff, Nat.reduceLT, le_sz, lt_sz, fLt_i, fEq_i, fNe_i, fLe_i, dec0, if_pos h2]
        refine call_pot (ds := [.int 6]) (draw_ok (by decide) (by decide)) hs fun a s r hs hr => ?_
        obtain ⟨y, rfl, y0, y1⟩ := hr
        simp only [sIf, ws_ofE, wp_bind, wp_noX, mTB, mTr, mNotT, mAndT, mOrT, mAnd, mOr, mNot, mIf, mNeg, mBin, bin2, mChain, mVar, mK, mB, mCall_eq, aNil, aCons, mTup, mLst, mSl, oNo, oSome, mIsi, anyT, isT, truD, sSet, setR, sRet, retR, sNil, sEx, sDvm, sSt, lstAt, putLst, drefs, dats, List.map_cons, List.map_nil, List.cons_append, List.nil_append, List.append_nil, List.replicate, List.getElem?_cons_zero, List.getElem?_cons_succ, List.set_cons_zero, List.set_cons_succ, List.length_cons, List.length_nil, bind_ok, ofO_some, ofE_ok, oS_some, noX_ok, wp_ok, ws_nx, ws_rt, fz, dref, fIx, atI0, atI1, atI2, ixN_20, ixN_21, ixN_10, Option.map_some, fGt, fGe, fSub, fI, fI0, fAdd, fInt, fLen, lenD, outsOf, parOnly, notSlt, List.take_succ_cons, List.take_zero, if_true, if_false, Bool.false_eq_true, decide_true, decide_false, Bool.not_true, Bool.not_false, fIs, fIsNot, isNoneD, sTg, gmT, gmCons, gmN, gmNil, mPop, sAug, mExt, sPar, and_true, true_and, List.isEmpty_nil, List.isEmpty_cons, Nat.reduceAdd, Nat.reduceLeDiff, Nat.reduceLT, le_sz, lt_sz, fLt_i, fEq_i, fNe_i, fLe_i, dec0]
        by_cases hy : y = 0
        · simp only [sIf, ws_ofE, wp_bind, wp_noX, mTB, mTr, mNotT, mAndT, mOrT, mAnd, mOr, mNot, mIf, mNeg, mBin, bin2, mChain, mVar, mK, mB, mCall_eq, aNil, aCons, mTup, mLst, mSl, oNo, oSome, mIsi, anyT, isT, truD, sSet, setR, sRet, retR, sNil, sEx, sDvm, sSt, lstAt, putLst, drefs, dats, List.map_cons, List.map_nil, List.cons_append, List.nil_append, List.append_nil, List.replicate, List.getElem?_cons_zero, List.getElem?_cons_succ, List.set_cons_zero, List.set_cons_succ, List.length_cons, List.length_nil, bind_ok, ofO_some, ofE_ok, oS_some, noX_ok, wp_ok, ws_nx, ws_rt, fz, dref, fIx, atI0, atI1, atI2, ixN_20, ixN_21, ixN_10, Option.map_some, fGt, fGe, fSub, fI, fI0, fAdd, fInt, fLen, lenD, outsOf, parOnly, notSlt, List.take_succ_cons, List.take_zero, if_true, if_false, Bool.false_eq_true, decide_true, decide_false, Bool.not_true, Bool.not_false, fIs, fIsNot, isNoneD, sTg, gmT, gmCons, gmN, gmNil, mPop, sAug, mExt, sPar, and_true, true_and, List.isEmpty_nil, List.isEmpty_cons, Nat.reduceAdd, Nat.reduceLeDiff, Nat.reduceLT, le_sz, lt_sz, fLt_i, fEq_i, fNe_i, fLe_i, dec0, if_pos hy]
          refine call_pot (ds := [.list [.str "yes", .str "no"]]) (pick_ok (by decide) (by decide)) hs fun a s r hs hr => ?_
          obtain ⟨d, rfl, hd⟩ := hr
          simp only [sIf, ws_ofE, wp_bind, wp_noX, mTB, mTr, mNotT, mAndT, mOrT, mAnd, mOr, mNot, mIf, mNeg, mBin, bin2, mChain, mVar, mK, mB, mCall_eq, aNil, aCons, mTup, mLst, mSl, oNo, oSome, mIsi, anyT, isT, truD, sSet, setR, sRet, retR, sNil, sEx, sDvm, sSt, lstAt, putLst, drefs, dats, List.map_cons, List.map_nil, List.cons_append, List.nil_append, List.append_nil, List.replicate, List.getElem?_cons_zero, List.getElem?_cons_succ, List.set_cons_zero, List.set_cons_succ, List.length_cons, List.length_nil, bind_ok, ofO_some, ofE_ok, oS_some, noX_ok, wp_ok, ws_nx, ws_rt, fz, dref, fIx, atI0, atI1, atI2, ixN_20, ixN_21, ixN_10, Option.map_some, fGt, fGe, fSub, fI, fI0, fAdd, fInt, fLen, lenD, outsOf, parOnly, notSlt, List.take_succ_cons, List.take_zero, if_true, if_false, Bool.false_eq_true, decide_true, decide_false, Bool.not_true, Bool.not_false, fIs, fIsNot, isNoneD, sTg, gmT, gmCons, gmN, gmNil, mPop, sAug, mExt, sPar, and_true, true_and, List.isEmpty_nil, List.isEmpty_cons, Nat.reduceAdd, Nat.reduceLeDiff, Nat.reduceLT, le_sz, lt_sz, fLt_i, fEq_i, fNe_i, fLe_i, dec0]
          refine ⟨⟨_, rfl, ?_⟩, a, s, _, hs, rfl⟩
          have p := Nat.pow_pos (n := k) (show 0 < 4 by decide)
          have hd : d = .str "yes" ∨ d = .str "no" := by simpa using hd
          rcases hd with rfl | rfl <;> refine ⟨by decide +kernel, ?_, ?_⟩ <;> simp [wt, wtAll, PyData.depth, PyData.depthAll, Nat.pow_succ] <;> omega
        · simp only [sIf, ws_ofE, wp_bind, wp_noX, mTB, mTr, mNotT, mAndT, mOrT, mAnd, mOr, mNot, mIf, mNeg, mBin, bin2, mChain, mVar, mK, mB, mCall_eq, aNil, aCons, mTup, mLst, mSl, oNo, oSome, mIsi, anyT, isT, truD, sSet, setR, sRet, retR, sNil, sEx, sDvm, sSt, lstAt, putLst, drefs, dats, List.map_cons, List.map_nil, List.cons_append, List.nil_append, List.append_nil, List.replicate, List.getElem?_cons_zero, List.getElem?_cons_succ, List.set_cons_zero, List.set_cons_succ, List.length_cons, List.length_nil, bind_ok, ofO_some, ofE_ok, oS_some, noX_ok, wp_ok, ws_nx, ws_rt, fz, dref, fIx, atI0, atI1, atI2, ixN_20, ixN_21, ixN_10, Option.map_some, fGt, fGe, fSub, fI, fI0, fAdd, fInt, fLen, lenD, outsOf, parOnly, notSlt, List.take_succ_cons, List.take_zero, if_true, if_false, Bool.false_eq_true, decide_true, decide_false, Bool.not_true, Bool.not_false, fIs, fIsNot, isNoneD, sTg, gmT, gmCons, gmN, gmNil, mPop, sAug, mExt, sPar, and_true, true_and, List.isEmpty_nil, List.isEmpty_cons, Nat.reduceAdd, Nat.reduceLeDiff, Nat.reduceLT, le_sz, lt_sz, fLt_i, fEq_i, fNe_i, fLe_i, dec0, if_neg hy]
          refine call_pot (ds := [nms]) (pick_ok (by decide) (by decide)) hs fun a s r hs hr => ?_
          obtain ⟨d, rfl, hd⟩ := hr
          simp only [sIf, ws_ofE, wp_bind, wp_noX, mTB, mTr, mNotT, mAndT, mOrT, mAnd, mOr, mNot, mIf, mNeg, mBin, bin2, mChain, mVar, mK, mB, mCall_eq, aNil, aCons, mTup, mLst, mSl, oNo, oSome, mIsi, anyT, isT, truD, sSet, setR, sRet, retR, sNil, sEx, sDvm, sSt, lstAt, putLst, drefs, dats, List.map_cons, List.map_nil, List.cons_append, List.nil_append, List.append_nil, List.replicate, List.getElem?_cons_zero, List.getElem?_cons_succ, List.set_cons_zero, List.set_cons_succ, List.length_cons, List.length_nil, bind_ok, ofO_some, ofE_ok, oS_some, noX_ok, wp_ok, ws_nx, ws_rt, fz, dref, fIx, atI0, atI1, atI2, ixN_20, ixN_21, ixN_10, Option.map_some, fGt, fGe, fSub, fI, fI0, fAdd, fInt, fLen, lenD, outsOf, parOnly, notSlt, List.take_succ_cons, List.take_zero, if_true, if_false, Bool.false_eq_true, decide_true, decide_false, Bool.not_true, Bool.not_false, fIs, fIsNot, isNoneD, sTg, gmT, gmCons, gmN, gmNil, mPop, sAug, mExt, sPar, and_true, true_and, List.isEmpty_nil, List.isEmpty_cons, Nat.reduceAdd, Nat.reduceLeDiff, Nat.reduceLT, le_sz, lt_sz, fLt_i, fEq_i, fNe_i, fLe_i, dec0]
          refine ⟨⟨_, rfl, ?_⟩, a, s, _, hs, rfl⟩
          have p := Nat.pow_pos (n := k) (show 0 < 4 by decide)
          have hd : d = .str "a" ∨ d = .str "b" ∨ d = .str "f" := by simpa using hd
          rcases hd with rfl | rfl | rfl <;> refine ⟨by decide +kernel, ?_, ?_⟩ <;> simp [wt, wtAll, PyData.depth, PyData.depthAll, Nat.pow_succ] <;> omega
      · have h2' : 2 ≤ x := by omega
        have p4 := two_le k (xk h2')
        refine ws_nxc (by simp only [sIf, ws_ofE, wp_bind, wp_noX, mTB, mTr, mNotT, mAndT, mOrT, mAnd, mOr, mNot, mIf, mNeg, mBin, bin2, mChain, mVar, mK, mB, mCall_eq, aNil, aCons, mTup, mLst, mSl, oNo, oSome, mIsi, anyT, isT, truD, sSet, setR, sRet, retR, sNil, sEx, sDvm, sSt, lstAt, putLst, drefs, dats, List.map_cons, List.map_nil, List.cons_append, List.nil_append, List.append_nil, List.replicate, List.getElem?_cons_zero, List.getElem?_cons_succ, List.set_cons_zero, List.set_cons_succ, List.length_cons, List.length_nil, bind_ok, ofO_some, ofE_ok, oS_some, noX_ok, wp_ok, ws_nx, ws_rt, fz, dref, fIx, atI0, atI1, atI2, ixN_20, ixN_21, ixN_10, Option.map_some, fGt, fGe, fSub, fI, fI0, fAdd, fInt, fLen, lenD, outsOf, parOnly, notSlt, List.take_succ_cons, List.take_zero, if_true, if_false, Bool.false_eq_true, decide_true, decide_false, Bool.not_true, Bool.not_false, fIs, fIsNot, isNoneD, sTg, gmT, gmCons, gmN, gmNil, mPop, sAug, mExt, sPar, and_true, true_and, List.isEmpty_nil, List.isEmpty_cons, Nat.reduceAdd, Nat.reduceLeDiff, Nat.reduceLT, le_sz, lt_sz, fLt_i, fEq_i, fNe_i, fLe_i, dec0, if_neg h2]; exact rfl) ?_
        by_cases h4 : x < 4
        · refine ws_rtc ?_
          simp only [sIf, ws_ofE, wp_bind, wp_noX, mTB, mTr, mNotT, mAndT, mOrT, mAnd, mOr, mNot, mIf, mNeg, mBin, bin2, mChain, mVar, mK, mB, mCall_eq, aNil, aCons, mTup, mLst, mSl, oNo, oSome, mIsi, anyT, isT, truD, sSet, setR, sRet, retR, sNil, sEx, sDvm, sSt, lstAt, putLst, drefs, dats, List.map_cons, List.map_nil, List.cons_append, List.nil_append, List.append_nil, List.replicate, List.getElem?_cons_zero, List.getElem?_cons_succ, List.set_cons_zero, List.set_cons_succ, List.length_cons, List.length_nil, bind_ok, ofO_some, ofE_ok, oS_some, noX_ok, wp_ok, ws_nx, ws_rt, fz, dref, fIx, atI0, atI1, atI2, ixN_20, ixN_21, ixN_10, Option.map_some, fGt, fGe, fSub, fI, fI0, fAdd, fInt, fLen, lenD, outsOf, parOnly, notSlt, List.take_succ_cons, List.take_zero, if_true, if_false, Bool.false_eq_true, decide_true, decide_false, Bool.not_true, Bool.not_false, fIs, fIsNot, isNoneD, sTg, gmT, gmCons, gmN, gmNil, mPop, sAug, mExt, sPar, and_true, true_and, List.isEmpty_nil, List.isEmpty_cons, Nat.reduceAdd, Nat.reduceLeDiff, Nat.reduceLT, le_sz, lt_sz, fLt_i, fEq_i, fNe_i, fLe_i, dec0, if_pos h4, e1 h2']
          refine call_pot (ds := [nms, .int ((k - 1 : Nat) : Int)]) (rec_ h2') hs fun a s r hs hr => ?_
          obtain ⟨d, rfl, g1, g2, g3⟩ := hr
          rw [e3 h2'] at g2
          simp only [sIf, ws_ofE, wp_bind, wp_noX, mTB, mTr, mNotT, mAndT, mOrT, mAnd, mOr, mNot, mIf, mNeg, mBin, bin2, mChain, mVar, mK, mB, mCall_eq, aNil, aCons, mTup, mLst, mSl, oNo, oSome, mIsi, anyT, isT, truD, sSet, setR, sRet, retR, sNil, sEx, sDvm, sSt, lstAt, putLst, drefs, dats, List.map_cons, List.map_nil, List.cons_append, List.nil_append, List.append_nil, List.replicate, List.getElem?_cons_zero, List.getElem?_cons_succ, List.set_cons_zero, List.set_cons_succ, List.length_cons, List.length_nil, bind_ok, ofO_some, ofE_ok, oS_some, noX_ok, wp_ok, ws_nx, ws_rt, fz, dref, fIx, atI0, atI1, atI2, ixN_20, ixN_21, ixN_10, Option.map_some, fGt, fGe, fSub, fI, fI0, fAdd, fInt, fLen, lenD, outsOf, parOnly, notSlt, List.take_succ_cons, List.take_zero, if_true, if_false, Bool.false_eq_true, decide_true, decide_false, Bool.not_true, Bool.not_false, fIs, fIsNot, isNoneD, sTg, gmT, gmCons, gmN, gmNil, mPop, sAug, mExt, sPar, and_true, true_and, List.isEmpty_nil, List.isEmpty_cons, Nat.reduceAdd, Nat.reduceLeDiff, Nat.reduceLT, le_sz, lt_sz, fLt_i, fEq_i, fNe_i, fLe_i, dec0]
          refine ⟨⟨_, rfl, ?_, ?_, ?_⟩, a, s, _, hs, rfl⟩
          · simp [nb, nbAll, g1, nbw]
          · simp only [wt, wtAll, Nat.pow_succ]; omega
          · simp only [PyData.depth, PyData.depthAll]; have := xk h2'; omega
        · refine ws_nxc (by simp only [sIf, ws_ofE, wp_bind, wp_noX, mTB, mTr, mNotT, mAndT, mOrT, mAnd, mOr, mNot, mIf, mNeg, mBin, bin2, mChain, mVar, mK, mB, mCall_eq, aNil, aCons, mTup, mLst, mSl, oNo, oSome, mIsi, anyT, isT, truD, sSet, setR, sRet, retR, sNil, sEx, sDvm, sSt, lstAt, putLst, drefs, dats, List.map_cons, List.map_nil, List.cons_append, List.nil_append, List.append_nil, List.replicate, List.getElem?_cons_zero, List.getElem?_cons_succ, List.set_cons_zero, List.set_cons_succ, List.length_cons, List.length_nil, bind_ok, ofO_some, ofE_ok, oS_some, noX_ok, wp_ok, ws_nx, ws_rt, fz, dref, fIx, atI0, atI1, atI2, ixN_20, ixN_21, ixN_10, Option.map_some, fGt, fGe, fSub, fI, fI0, fAdd, fInt, fLen, lenD, outsOf, parOnly, notSlt, List.take_succ_cons, List.take_zero, if_true, if_false, Bool.false_eq_true, decide_true, decide_false, Bool.not_true, Bool.not_false, fIs, fIsNot, isNoneD, sTg, gmT, gmCons, gmN, gmNil, mPop, sAug, mExt, sPar, and_true, true_and, List.isEmpty_nil, List.isEmpty_cons, Nat.reduceAdd, Nat.reduceLeDiff, Nat.reduceLT, le_sz, lt_sz, fLt_i, fEq_i, fNe_i, fLe_i, dec0, if_neg h4]; exact rfl) ?_
          by_cases h9 : x < 9
          · refine ws_rtc ?_
            simp only [sIf, ws_ofE, wp_bind, wp_noX, mTB, mTr, mNotT, mAndT, mOrT, mAnd, mOr, mNot, mIf, mNeg, mBin, bin2, mChain, mVar, mK, mB, mCall_eq, aNil, aCons, mTup, mLst, mSl, oNo, oSome, mIsi, anyT, isT, truD, sSet, setR, sRet, retR, sNil, sEx, sDvm, sSt, lstAt, putLst, drefs, dats, List.map_cons, List.map_nil, List.cons_append, List.nil_append, List.append_nil, List.replicate, List.getElem?_cons_zero, List.getElem?_cons_succ, List.set_cons_zero, List.set_cons_succ, List.length_cons, List.length_nil, bind_ok, ofO_some, ofE_ok, oS_some, noX_ok, wp_ok, ws_nx, ws_rt, fz, dref, fIx, atI0, atI1, atI2, ixN_20, ixN_21, ixN_10, Option.map_some, fGt, fGe, fSub, fI, fI0, fAdd, fInt, fLen, lenD, outsOf, parOnly, notSlt, List.take_succ_cons, List.take_zero, if_true, if_false, Bool.false_eq_true, decide_true, decide_false, Bool.not_true, Bool.not_false, fIs, fIsNot, isNoneD, sTg, gmT, gmCons, gmN, gmNil, mPop, sAug, mExt, sPar, and_true, true_and, List.isEmpty_nil, List.isEmpty_cons, Nat.reduceAdd, Nat.reduceLeDiff, Nat.reduceLT, le_sz, lt_sz, fLt_i, fEq_i, fNe_i, fLe_i, dec0, if_pos h9, ws_seq, e1 h2']
            refine call_pot (ds := [.list [.str "and", .str "or", .str "same"]]) (pick_ok (by decide) (by decide)) hs fun a s r hs hr => ?_
            obtain ⟨w, rfl, hw⟩ := hr
            simp only [sIf, ws_ofE, wp_bind, wp_noX, mTB, mTr, mNotT, mAndT, mOrT, mAnd, mOr, mNot, mIf, mNeg, mBin, bin2, mChain, mVar, mK, mB, mCall_eq, aNil, aCons, mTup, mLst, mSl, oNo, oSome, mIsi, anyT, isT, truD, sSet, setR, sRet, retR, sNil, sEx, sDvm, sSt, lstAt, putLst, drefs, dats, List.map_cons, List.map_nil, List.cons_append, List.nil_append, List.append_nil, List.replicate, List.getElem?_cons_zero, List.getElem?_cons_succ, List.set_cons_zero, List.set_cons_succ, List.length_cons, List.length_nil, bind_ok, ofO_some, ofE_ok, oS_some, noX_ok, wp_ok, ws_nx, ws_rt, fz, dref, fIx, atI0, atI1, atI2, ixN_20, ixN_21, ixN_10, Option.map_some, fGt, fGe, fSub, fI, fI0, fAdd, fInt, fLen, lenD, outsOf, parOnly, notSlt, List.take_succ_cons, List.take_zero, if_true, if_false, Bool.false_eq_true, decide_true, decide_false, Bool.not_true, Bool.not_false, fIs, fIsNot, isNoneD, sTg, gmT, gmCons, gmN, gmNil, mPop, sAug, mExt, sPar, and_true, true_and, List.isEmpty_nil, List.isEmpty_cons, Nat.reduceAdd, Nat.reduceLeDiff, Nat.reduceLT, le_sz, lt_sz, fLt_i, fEq_i, fNe_i, fLe_i, dec0, e1 h2']
            refine call_pot (ds := [nms, .int ((k - 1 : Nat) : Int)]) (rec_ h2') hs fun a s r hs hr => ?_
            obtain ⟨d, rfl, g1, g2, g3⟩ := hr
            simp only [sIf, ws_ofE, wp_bind, wp_noX, mTB, mTr, mNotT, mAndT, mOrT, mAnd, mOr, mNot, mIf, mNeg, mBin, bin2, mChain, mVar, mK, mB, mCall_eq, aNil, aCons, mTup, mLst, mSl, oNo, oSome, mIsi, anyT, isT, truD, sSet, setR, sRet, retR, sNil, sEx, sDvm, sSt, lstAt, putLst, drefs, dats, List.map_cons, List.map_nil, List.cons_append, List.nil_append, List.append_nil, List.replicate, List.getElem?_cons_zero, List.getElem?_cons_succ, List.set_cons_zero, List.set_cons_succ, List.length_cons, List.length_nil, bind_ok, ofO_some, ofE_ok, oS_some, noX_ok, wp_ok, ws_nx, ws_rt, fz, dref, fIx, atI0, atI1, atI2, ixN_20, ixN_21, ixN_10, Option.map_some, fGt, fGe, fSub, fI, fI0, fAdd, fInt, fLen, lenD, outsOf, parOnly, notSlt, List.take_succ_cons, List.take_zero, if_true, if_false, Bool.false_eq_true, decide_true, decide_false, Bool.not_true, Bool.not_false, fIs, fIsNot, isNoneD, sTg, gmT, gmCons, gmN, gmNil, mPop, sAug, mExt, sPar, and_true, true_and, List.isEmpty_nil, List.isEmpty_cons, Nat.reduceAdd, Nat.reduceLeDiff, Nat.reduceLT, le_sz, lt_sz, fLt_i, fEq_i, fNe_i, fLe_i, dec0, e1 h2']
            refine call_pot (ds := [nms, .int ((k - 1 : Nat) : Int)]) (rec_ h2') hs fun a s r hs hr => ?_
            obtain ⟨d', rfl, g1', g2', g3'⟩ := hr
            rw [e3 h2'] at g2 g2'
            simp only [sIf, ws_ofE, wp_bind, wp_noX, mTB, mTr, mNotT, mAndT, mOrT, mAnd, mOr, mNot, mIf, mNeg, mBin, bin2, mChain, mVar, mK, mB, mCall_eq, aNil, aCons, mTup, mLst, mSl, oNo, oSome, mIsi, anyT, isT, truD, sSet, setR, sRet, retR, sNil, sEx, sDvm, sSt, lstAt, putLst, drefs, dats, List.map_cons, List.map_nil, List.cons_append, List.nil_append, List.append_nil, List.replicate, List.getElem?_cons_zero, List.getElem?_cons_succ, List.set_cons_zero, List.set_cons_succ, List.length_cons, List.length_nil, bind_ok, ofO_some, ofE_ok, oS_some, noX_ok, wp_ok, ws_nx, ws_rt, fz, dref, fIx, atI0, atI1, atI2, ixN_20, ixN_21, ixN_10, Option.map_some, fGt, fGe, fSub, fI, fI0, fAdd, fInt, fLen, lenD, outsOf, parOnly, notSlt, List.take_succ_cons, List.take_zero, if_true, if_false, Bool.false_eq_true, decide_true, decide_false, Bool.not_true, Bool.not_false, fIs, fIsNot, isNoneD, sTg, gmT, gmCons, gmN, gmNil, mPop, sAug, mExt, sPar, and_true, true_and, List.isEmpty_nil, List.isEmpty_cons, Nat.reduceAdd, Nat.reduceLeDiff, Nat.reduceLT, le_sz, lt_sz, fLt_i, fEq_i, fNe_i, fLe_i, dec0]
            have hw : w = .str "and" ∨ w = .str "or" ∨ w = .str "same" := by simpa using hw
            refine ⟨⟨_, rfl, ?_, ?_, ?_⟩, a, s, _, hs, rfl⟩
            · rcases hw with rfl | rfl | rfl <;> simp [nb, nbAll, g1, g1', nbw]
            · rcases hw with rfl | rfl | rfl <;> simp only [wt, wtAll, Nat.pow_succ] <;> omega
            · have := xk h2'
              rcases hw with rfl | rfl | rfl <;> simp only [PyData.depth, PyData.depthAll] <;> omega
          · refine ws_nxc (by simp only [sIf, ws_ofE, wp_bind, wp_noX, mTB, mTr, mNotT, mAndT, mOrT, mAnd, mOr, mNot, mIf, mNeg, mBin, bin2, mChain, mVar, mK, mB, mCall_eq, aNil, aCons, mTup, mLst, mSl, oNo, oSome, mIsi, anyT, isT, truD, sSet, setR, sRet, retR, sNil, sEx, sDvm, sSt, lstAt, putLst, drefs, dats, List.map_cons, List.map_nil, List.cons_append, List.nil_append, List.append_nil, List.replicate, List.getElem?_cons_zero, List.getElem?_cons_succ, List.set_cons_zero, List.set_cons_succ, List.length_cons, List.length_nil, bind_ok, ofO_some, ofE_ok, oS_some, noX_ok, wp_ok, ws_nx, ws_rt, fz, dref, fIx, atI0, atI1, atI2, ixN_20, ixN_21, ixN_10, Option.map_some, fGt, fGe, fSub, fI, fI0, fAdd, fInt, fLen, lenD, outsOf, parOnly, notSlt, List.take_succ_cons, List.take_zero, if_true, if_false, Bool.false_eq_true, decide_true, decide_false, Bool.not_true, Bool.not_false, fIs, fIsNot, isNoneD, sTg, gmT, gmCons, gmN, gmNil, mPop, sAug, mExt, sPar, and_true, true_and, List.isEmpty_nil, List.isEmpty_cons, Nat.reduceAdd, Nat.reduceLeDiff, Nat.reduceLT, le_sz, lt_sz, fLt_i, fEq_i, fNe_i, fLe_i, dec0, if_neg h9]; exact rfl) ?_
            refine ws_cut (M := fun ρ => ∃ a s es, PotOk s ∧ es.length = 3 ∧ (∀ y ∈ es, Gk (k - 1) y) ∧ ρ = [Pt a s, .dat nms, .dat (.int k), .dat (.int x), .non, .dat (.tuple es), .non]) ?_ fun ρ hρ => ?_
            · simp only [sIf, ws_ofE, wp_bind, wp_noX, mTB, mTr, mNotT, mAndT, mOrT, mAnd, mOr, mNot, mIf, mNeg, mBin, bin2, mChain, mVar, mK, mB, mCall_eq, aNil, aCons, mTup, mLst, mSl, oNo, oSome, mIsi, anyT, isT, truD, sSet, setR, sRet, retR, sNil, sEx, sDvm, sSt, lstAt, putLst, drefs, dats, List.map_cons, List.map_nil, List.cons_append, List.nil_append, List.append_nil, List.replicate, List.getElem?_cons_zero, List.getElem?_cons_succ, List.set_cons_zero, List.set_cons_succ, List.length_cons, List.length_nil, bind_ok, ofO_some, ofE_ok, oS_some, noX_ok, wp_ok, ws_nx, ws_rt, fz, dref, fIx, atI0, atI1, atI2, ixN_20, ixN_21, ixN_10, Option.map_some, fGt, fGe, fSub, fI, fI0, fAdd, fInt, fLen, lenD, outsOf, parOnly, notSlt, List.take_succ_cons, List.take_zero, if_true, if_false, Bool.false_eq_true, decide_true, decide_false, Bool.not_true, Bool.not_false, fIs, fIsNot, isNoneD, sTg, gmT, gmCons, gmN, gmNil, mPop, sAug, mExt, sPar, and_true, true_and, List.isEmpty_nil, List.isEmpty_cons, Nat.reduceAdd, Nat.reduceLeDiff, Nat.reduceLT, le_sz, lt_sz, fLt_i, fEq_i, fNe_i, fLe_i, dec0, mLcV, mLc, mRng1]
              rw [if_pos (by decide)]
              simp only [sIf, ws_ofE, wp_bind, wp_noX, mTB, mTr, mNotT, mAndT, mOrT, mAnd, mOr, mNot, mIf, mNeg, mBin, bin2, mChain, mVar, mK, mB, mCall_eq, aNil, aCons, mTup, mLst, mSl, oNo, oSome, mIsi, anyT, isT, truD, sSet, setR, sRet, retR, sNil, sEx, sDvm, sSt, lstAt, putLst, drefs, dats, List.map_cons, List.map_nil, List.cons_append, List.nil_append, List.append_nil, List.replicate, List.getElem?_cons_zero, List.getElem?_cons_succ, List.set_cons_zero, List.set_cons_succ, List.length_cons, List.length_nil, bind_ok, ofO_some, ofE_ok, oS_some, noX_ok, wp_ok, ws_nx, ws_rt, fz, dref, fIx, atI0, atI1, atI2, ixN_20, ixN_21, ixN_10, Option.map_some, fGt, fGe, fSub, fI, fI0, fAdd, fInt, fLen, lenD, outsOf, parOnly, notSlt, List.take_succ_cons, List.take_zero, if_true, if_false, Bool.false_eq_true, decide_true, decide_false, Bool.not_true, Bool.not_false, fIs, fIsNot, isNoneD, sTg, gmT, gmCons, gmN, gmNil, mPop, sAug, mExt, sPar, and_true, true_and, List.isEmpty_nil, List.isEmpty_cons, Nat.reduceAdd, Nat.reduceLeDiff, Nat.reduceLT, le_sz, lt_sz, fLt_i, fEq_i, fNe_i, fLe_i, dec0]
              have e0 : intsD 0 (Int.toNat 3) = [.int 0, .int 1, .int 2] := rfl
              rw [e0]
              refine (lc_pot (i := 5) (ρ := [.dat nms, .dat (.int k), .dat (.int x), .non, .non, .non]) (G := Gk (k - 1)) rfl (fun _ => rfl) [.int 0, .int 1, .int 2] [] a s hs (fun a s d hs => ?_) (by rw [sizeLine_eq]; decide)).mono fun r ρ' hr => ?_
              · simp only [sIf, ws_ofE, wp_bind, wp_noX, mTB, mTr, mNotT, mAndT, mOrT, mAnd, mOr, mNot, mIf, mNeg, mBin, bin2, mChain, mVar, mK, mB, mCall_eq, aNil, aCons, mTup, mLst, mSl, oNo, oSome, mIsi, anyT, isT, truD, sSet, setR, sRet, retR, sNil, sEx, sDvm, sSt, lstAt, putLst, drefs, dats, List.map_cons, List.map_nil, List.cons_append, List.nil_append, List.append_nil, List.replicate, List.getElem?_cons_zero, List.getElem?_cons_succ, List.set_cons_zero, List.set_cons_succ, List.length_cons, List.length_nil, bind_ok, ofO_some, ofE_ok, oS_some, noX_ok, wp_ok, ws_nx, ws_rt, fz, dref, fIx, atI0, atI1, atI2, ixN_20, ixN_21, ixN_10, Option.map_some, fGt, fGe, fSub, fI, fI0, fAdd, fInt, fLen, lenD, outsOf, parOnly, notSlt, List.take_succ_cons, List.take_zero, if_true, if_false, Bool.false_eq_true, decide_true, decide_false, Bool.not_true, Bool.not_false, fIs, fIsNot, isNoneD, sTg, gmT, gmCons, gmN, gmNil, mPop, sAug, mExt, sPar, and_true, true_and, List.isEmpty_nil, List.isEmpty_cons, Nat.reduceAdd, Nat.reduceLeDiff, Nat.reduceLT, le_sz, lt_sz, fLt_i, fEq_i, fNe_i, fLe_i, dec0, e1 h2']
                refine call_pot (ds := [nms, .int ((k - 1 : Nat) : Int)]) (rec_ h2') hs fun a s r hs hr => ?_
                obtain ⟨d', rfl, g⟩ := hr
                exact ⟨a, s, d', hs, rfl, g, rfl⟩
              · obtain ⟨a, s, es, hs, rfl, hl, g, rfl⟩ := hr
                simp only [sIf, ws_ofE, wp_bind, wp_noX, mTB, mTr, mNotT, mAndT, mOrT, mAnd, mOr, mNot, mIf, mNeg, mBin, bin2, mChain, mVar, mK, mB, mCall_eq, aNil, aCons, mTup, mLst, mSl, oNo, oSome, mIsi, anyT, isT, truD, sSet, setR, sRet, retR, sNil, sEx, sDvm, sSt, lstAt, putLst, drefs, dats, List.map_cons, List.map_nil, List.cons_append, List.nil_append, List.append_nil, List.replicate, List.getElem?_cons_zero, List.getElem?_cons_succ, List.set_cons_zero, List.set_cons_succ, List.length_cons, List.length_nil, bind_ok, ofO_some, ofE_ok, oS_some, noX_ok, wp_ok, ws_nx, ws_rt, fz, dref, fIx, atI0, atI1, atI2, ixN_20, ixN_21, ixN_10, Option.map_some, fGt, fGe, fSub, fI, fI0, fAdd, fInt, fLen, lenD, outsOf, parOnly, notSlt, List.take_succ_cons, List.take_zero, if_true, if_false, Bool.false_eq_true, decide_true, decide_false, Bool.not_true, Bool.not_false, fIs, fIsNot, isNoneD, sTg, gmT, gmCons, gmN, gmNil, mPop, sAug, mExt, sPar, and_true, true_and, List.isEmpty_nil, List.isEmpty_cons, Nat.reduceAdd, Nat.reduceLeDiff, Nat.reduceLT, le_sz, lt_sz, fLt_i, fEq_i, fNe_i, fLe_i, dec0, fTuple]
                exact ⟨a, s, es, hs, hl, g, rfl⟩
            · obtain ⟨a, s, es, hs, hl, g, rfl⟩ := hρ
              obtain ⟨d1, d2, d3, rfl⟩ : ∃ d1 d2 d3, es = [d1, d2, d3] := by
                match es, hl with
                | [d1, d2, d3], _ => exact ⟨d1, d2, d3, rfl⟩
              obtain ⟨a1, b1, c1⟩ := g d1 (by simp)
              obtain ⟨a2, b2, c2⟩ := g d2 (by simp)
              obtain ⟨a3, b3, c3⟩ := g d3 (by simp)
              rw [e3 h2'] at b1 b2 b3
              have hk := xk h2'
              simp only [sIf, ws_ofE, wp_bind, wp_noX, mTB, mTr, mNotT, mAndT, mOrT, mAnd, mOr, mNot, mIf, mNeg, mBin, bin2, mChain, mVar, mK, mB, mCall_eq, aNil, aCons, mTup, mLst, mSl, oNo, oSome, mIsi, anyT, isT, truD, sSet, setR, sRet, retR, sNil, sEx, sDvm, sSt, lstAt, putLst, drefs, dats, List.map_cons, List.map_nil, List.cons_append, List.nil_append, List.append_nil, List.replicate, List.getElem?_cons_zero, List.getElem?_cons_succ, List.set_cons_zero, List.set_cons_succ, List.length_cons, List.length_nil, bind_ok, ofO_some, ofE_ok, oS_some, noX_ok, wp_ok, ws_nx, ws_rt, fz, dref, fIx, atI0, atI1, atI2, ixN_20, ixN_21, ixN_10, Option.map_some, fGt, fGe, fSub, fI, fI0, fAdd, fInt, fLen, lenD, outsOf, parOnly, notSlt, List.take_succ_cons, List.take_zero, if_true, if_false, Bool.false_eq_true, decide_true, decide_false, Bool.not_true, Bool.not_false, fIs, fIsNot, isNoneD, sTg, gmT, gmCons, gmN, gmNil, mPop, sAug, mExt, sPar, and_true, true_and, List.isEmpty_nil, List.isEmpty_cons, Nat.reduceAdd, Nat.reduceLeDiff, Nat.reduceLT, le_sz, lt_sz, fLt_i, fEq_i, fNe_i, fLe_i, dec0]
              by_cases h9' : x = 9
              · simp only [sIf, ws_ofE, wp_bind, wp_noX, mTB, mTr, mNotT, mAndT, mOrT, mAnd, mOr, mNot, mIf, mNeg, mBin, bin2, mChain, mVar, mK, mB, mCall_eq, aNil, aCons, mTup, mLst, mSl, oNo, oSome, mIsi, anyT, isT, truD, sSet, setR, sRet, retR, sNil, sEx, sDvm, sSt, lstAt, putLst, drefs, dats, List.map_cons, List.map_nil, List.cons_append, List.nil_append, List.append_nil, List.replicate, List.getElem?_cons_zero, List.getElem?_cons_succ, List.set_cons_zero, List.set_cons_succ, List.length_cons, List.length_nil, bind_ok, ofO_some, ofE_ok, oS_some, noX_ok, wp_ok, ws_nx, ws_rt, fz, dref, fIx, atI0, atI1, atI2, ixN_20, ixN_21, ixN_10, Option.map_some, fGt, fGe, fSub, fI, fI0, fAdd, fInt, fLen, lenD, outsOf, parOnly, notSlt, List.take_succ_cons, List.take_zero, if_true, if_false, Bool.false_eq_true, decide_true, decide_false, Bool.not_true, Bool.not_false, fIs, fIsNot, isNoneD, sTg, gmT, gmCons, gmN, gmNil, mPop, sAug, mExt, sPar, and_true, true_and, List.isEmpty_nil, List.isEmpty_cons, Nat.reduceAdd, Nat.reduceLeDiff, Nat.reduceLT, le_sz, lt_sz, fLt_i, fEq_i, fNe_i, fLe_i, dec0, if_pos h9']
                refine ⟨⟨_, rfl, ?_, ?_, ?_⟩, a, s, _, hs, rfl⟩
                · simp [nb, nbAll, a1, a2, a3, nbw]
                · simp only [wt, wtAll, Nat.pow_succ]; omega
                · simp only [PyData.depth, PyData.depthAll]; omega
              · simp only [sIf, ws_ofE, wp_bind, wp_noX, mTB, mTr, mNotT, mAndT, mOrT, mAnd, mOr, mNot, mIf, mNeg, mBin, bin2, mChain, mVar, mK, mB, mCall_eq, aNil, aCons, mTup, mLst, mSl, oNo, oSome, mIsi, anyT, isT, truD, sSet, setR, sRet, retR, sNil, sEx, sDvm, sSt, lstAt, putLst, drefs, dats, List.map_cons, List.map_nil, List.cons_append, List.nil_append, List.append_nil, List.replicate, List.getElem?_cons_zero, List.getElem?_cons_succ, List.set_cons_zero, List.set_cons_succ, List.length_cons, List.length_nil, bind_ok, ofO_some, ofE_ok, oS_some, noX_ok, wp_ok, ws_nx, ws_rt, fz, dref, fIx, atI0, atI1, atI2, ixN_20, ixN_21, ixN_10, Option.map_some, fGt, fGe, fSub, fI, fI0, fAdd, fInt, fLen, lenD, outsOf, parOnly, notSlt, List.take_succ_cons, List.take_zero, if_true, if_false, Bool.false_eq_true, decide_true, decide_false, Bool.not_true, Bool.not_false, fIs, fIsNot, isNoneD, sTg, gmT, gmCons, gmN, gmNil, mPop, sAug, mExt, sPar, and_true, true_and, List.isEmpty_nil, List.isEmpty_cons, Nat.reduceAdd, Nat.reduceLeDiff, Nat.reduceLT, le_sz, lt_sz, fLt_i, fEq_i, fNe_i, fLe_i, dec0, if_neg h9']
                refine call_pot (ds := [nms]) (pick_ok (by decide) (by decide)) hs fun a s r hs hr => ?_
                obtain ⟨w, rfl, hw⟩ := hr
                simp only [sIf, ws_ofE, wp_bind, wp_noX, mTB, mTr, mNotT, mAndT, mOrT, mAnd, mOr, mNot, mIf, mNeg, mBin, bin2, mChain, mVar, mK, mB, mCall_eq, aNil, aCons, mTup, mLst, mSl, oNo, oSome, mIsi, anyT, isT, truD, sSet, setR, sRet, retR, sNil, sEx, sDvm, sSt, lstAt, putLst, drefs, dats, List.map_cons, List.map_nil, List.cons_append, List.nil_append, List.append_nil, List.replicate, List.getElem?_cons_zero, List.getElem?_cons_succ, List.set_cons_zero, List.set_cons_succ, List.length_cons, List.length_nil, bind_ok, ofO_some, ofE_ok, oS_some, noX_ok, wp_ok, ws_nx, ws_rt, fz, dref, fIx, atI0, atI1, atI2, ixN_20, ixN_21, ixN_10, Option.map_some, fGt, fGe, fSub, fI, fI0, fAdd, fInt, fLen, lenD, outsOf, parOnly, notSlt, List.take_succ_cons, List.take_zero, if_true, if_false, Bool.false_eq_true, decide_true, decide_false, Bool.not_true, Bool.not_false, fIs, fIsNot, isNoneD, sTg, gmT, gmCons, gmN, gmNil, mPop, sAug, mExt, sPar, and_true, true_and, List.isEmpty_nil, List.isEmpty_cons, Nat.reduceAdd, Nat.reduceLeDiff, Nat.reduceLT, le_sz, lt_sz, fLt_i, fEq_i, fNe_i, fLe_i, dec0]
                refine call_pot (ds := [.int 3]) (draw_ok (by decide) (by decide)) hs fun a s r hs hr => ?_
                obtain ⟨y, rfl, y0, y1⟩ := hr
                have hw : w = .str "a" ∨ w = .str "b" ∨ w = .str "f" := by simpa using hw
                have hy : y = 0 ∨ y = 1 ∨ y = 2 := by omega
                have key : ∀ es : List D, (es = [d1] ∨ es = [d1, d2] ∨ es = [d1, d2, d3]) → Gk k (.tuple [.str "call", w, .tuple es]) := fun es hes => by
                  refine ⟨?_, ?_, ?_⟩
                  · rcases hw with rfl | rfl | rfl <;> rcases hes with rfl | rfl | rfl <;> simp [nb, nbAll, a1, a2, a3, nbw]
                  · rcases hw with rfl | rfl | rfl <;> rcases hes with rfl | rfl | rfl <;> simp only [wt, wtAll, Nat.pow_succ] <;> omega
                  · rcases hw with rfl | rfl | rfl <;> rcases hes with rfl | rfl | rfl <;> simp only [PyData.depth, PyData.depthAll] <;> omega
                rcases hy with rfl | rfl | rfl
                · simp only [sIf, ws_ofE, wp_bind, wp_noX, mTB, mTr, mNotT, mAndT, mOrT, mAnd, mOr, mNot, mIf, mNeg, mBin, bin2, mChain, mVar, mK, mB, mCall_eq, aNil, aCons, mTup, mLst, mSl, oNo, oSome, mIsi, anyT, isT, truD, sSet, setR, sRet, retR, sNil, sEx, sDvm, sSt, lstAt, putLst, drefs, dats, List.map_cons, List.map_nil, List.cons_append, List.nil_append, List.append_nil, List.replicate, List.getElem?_cons_zero, List.getElem?_cons_succ, List.set_cons_zero, List.set_cons_succ, List.length_cons, List.length_nil, bind_ok, ofO_some, ofE_ok, oS_some, noX_ok, wp_ok, ws_nx, ws_rt, fz, dref, fIx, atI0, atI1, atI2, ixN_20, ixN_21, ixN_10, Option.map_some, fGt, fGe, fSub, fI, fI0, fAdd, fInt, fLen, lenD, outsOf, parOnly, notSlt, List.take_succ_cons, List.take_zero, if_true, if_false, Bool.false_eq_true, decide_true, decide_false, Bool.not_true, Bool.not_false, fIs, fIsNot, isNoneD, sTg, gmT, gmCons, gmN, gmNil, mPop, sAug, mExt, sPar, and_true, true_and, List.isEmpty_nil, List.isEmpty_cons, Nat.reduceAdd, Nat.reduceLeDiff, Nat.reduceLT, le_sz, lt_sz, fLt_i, fEq_i, fNe_i, fLe_i, dec0, fSl]
                  exact ⟨⟨_, rfl, key _ (.inl rfl)⟩, a, s, _, hs, rfl⟩
                · simp only [sIf, ws_ofE, wp_bind, wp_noX, mTB, mTr, mNotT, mAndT, mOrT, mAnd, mOr, mNot, mIf, mNeg, mBin, bin2, mChain, mVar, mK, mB, mCall_eq, aNil, aCons, mTup, mLst, mSl, oNo, oSome, mIsi, anyT, isT, truD, sSet, setR, sRet, retR, sNil, sEx, sDvm, sSt, lstAt, putLst, drefs, dats, List.map_cons, List.map_nil, List.cons_append, List.nil_append, List.append_nil, List.replicate, List.getElem?_cons_zero, List.getElem?_cons_succ, List.set_cons_zero, List.set_cons_succ, List.length_cons, List.length_nil, bind_ok, ofO_some, ofE_ok, oS_some, noX_ok, wp_ok, ws_nx, ws_rt, fz, dref, fIx, atI0, atI1, atI2, ixN_20, ixN_21, ixN_10, Option.map_some, fGt, fGe, fSub, fI, fI0, fAdd, fInt, fLen, lenD, outsOf, parOnly, notSlt, List.take_succ_cons, List.take_zero, if_true, if_false, Bool.false_eq_true, decide_true, decide_false, Bool.not_true, Bool.not_false, fIs, fIsNot, isNoneD, sTg, gmT, gmCons, gmN, gmNil, mPop, sAug, mExt, sPar, and_true, true_and, List.isEmpty_nil, List.isEmpty_cons, Nat.reduceAdd, Nat.reduceLeDiff, Nat.reduceLT, le_sz, lt_sz, fLt_i, fEq_i, fNe_i, fLe_i, dec0, fSl]
                  exact ⟨⟨_, rfl, key _ (.inr (.inl rfl))⟩, a, s, _, hs, rfl⟩
                · simp only [sIf, ws_ofE, wp_bind, wp_noX, mTB, mTr, mNotT, mAndT, mOrT, mAnd, mOr, mNot, mIf, mNeg, mBin, bin2, mChain, mVar, mK, mB, mCall_eq, aNil, aCons, mTup, mLst, mSl, oNo, oSome, mIsi, anyT, isT, truD, sSet, setR, sRet, retR, sNil, sEx, sDvm, sSt, lstAt, putLst, drefs, dats, List.map_cons, List.map_nil, List.cons_append, List.nil_append, List.append_nil, List.replicate, List.getElem?_cons_zero, List.getElem?_cons_succ, List.set_cons_zero, List.set_cons_succ, List.length_cons, List.length_nil, bind_ok, ofO_some, ofE_ok, oS_some, noX_ok, wp_ok, ws_nx, ws_rt, fz, dref, fIx, atI0, atI1, atI2, ixN_20, ixN_21, ixN_10, Option.map_some, fGt, fGe, fSub, fI, fI0, fAdd, fInt, fLen, lenD, outsOf, parOnly, notSlt, List.take_succ_cons, List.take_zero, if_true, if_false, Bool.false_eq_true, decide_true, decide_false, Bool.not_true, Bool.not_false, fIs, fIsNot, isNoneD, sTg, gmT, gmCons, gmN, gmNil, mPop, sAug, mExt, sPar, and_true, true_and, List.isEmpty_nil, List.isEmpty_cons, Nat.reduceAdd, Nat.reduceLeDiff, Nat.reduceLT, le_sz, lt_sz, fLt_i, fEq_i, fNe_i, fLe_i, dec0, fSl]
                  exact ⟨⟨_, rfl, key _ (.inr (.inr rfl))⟩, a, s, _, hs, rfl⟩
end Lw
end Vl

set_option Elab.async false
set_option linter.all false
set_option maxRecDepth 100000
namespace Vl
namespace Lw
open PySem PySem.Spec PyProof.Rows L2

theorem simple_ok : ∀ n k : Nat, k < n → Pf (M__law_simple n) [.int 4, .int k] (Gr (Gk k))
  | 0, k, h => by omega
  | n + 1, k, h => by
    have ih := simple_ok n
    intro a s hs
    show Wp (fnM _ _ _ _) _
    refine wp_fn (ws_cut (M := fun ρ => ∃ a s x, PotOk s ∧ 0 ≤ x ∧ x < 10 ∧ (2 ≤ x → 0 < k) ∧ ρ = [Pt a s, .dat (.int 4), .dat (.int k), .dat (.int x), .non]) ?_ fun ρ hρ => ?_)
    · simp only [sIf, ws_ofE, wp_bind, wp_noX, mTB, mTr, mNotT, mAndT, mOrT, mAnd, mOr, mNot, mIf, mNeg, mBin, bin2, mChain, mVar, mK, mB, mCall_eq, aNil, aCons, mTup, mLst, mSl, oNo, oSome, mIsi, anyT, isT, truD, sSet, setR, sRet, retR, sNil, sEx, sDvm, sSt, lstAt, putLst, drefs, dats, List.map_cons, List.map_nil, List.cons_append, List.nil_append, List.append_nil, List.replicate, List.getElem?_cons_zero, List.getElem?_cons_succ, List.set_cons_zero, List.set_cons_succ, List.length_cons, List.length_nil, bind_ok, ofO_some, ofE_ok, oS_some, noX_ok, wp_ok, ws_nx, ws_rt, fz, dref, fIx, atI0, atI1, atI2, ixN_20, ixN_21, ixN_10, Option.map_some, fGt, fGe, fSub, fI, fI0, fAdd, fInt, fLen, lenD, outsOf, parOnly, notSlt, List.take_succ_cons, List.take_zero, if_true, if_false, Bool.false_eq_true, decide_true, decide_false, Bool.not_true, Bool.not_false, fIs, fIsNot, isNoneD, sTg, gmT, gmCons, gmN, gmNil, mPop, sAug, mExt, sPar, and_true, true_and, List.isEmpty_nil, List.isEmpty_cons, Nat.reduceAdd, Nat.reduceLeDiff, Nat.reduceLT, le_sz, lt_sz, fLt_i, fEq_i, fNe_i, fLe_i, dec0]
      by_cases hk : 0 < k
      · simp only [sIf, ws_ofE, wp_bind, wp_noX, mTB, mTr, mNotT, mAndT, mOrT, mAnd, mOr, mNot, mIf, mNeg, mBin, bin2, mChain, mVar, mK, mB, mCall_eq, aNil, aCons, mTup, mLst, mSl, oNo, oSome, mIsi, anyT, isT, truD, sSet, setR, sRet, retR, sNil, sEx, sDvm, sSt, lstAt, putLst, drefs, dats, List.map_cons, List.map_nil, List.cons_append, List.nil_append, List.append_nil, List.replicate, List.getElem?_cons_zero, List.getElem?_cons_succ, List.set_cons_zero, List.set_cons_succ, List.length_cons, List.length_nil, bind_ok, ofO_some, ofE_ok, oS_some, noX_ok, wp_ok, ws_nx, ws_rt, fz, dref, fIx, atI0, atI1, atI2, ixN_20, ixN_21, ixN_10, Option.map_some, fGt, fGe, fSub, fI, fI0, fAdd, fInt, fLen, lenD, outsOf, parOnly, notSlt, List.take_succ_cons, List.take_zero, if_true, if_false, Bool.false_eq_true, decide_true, decide_false, Bool.not_true, Bool.not_false, fIs, fIsNot, isNoneD, sTg, gmT, gmCons, gmN, gmNil, mPop, sAug, mExt, sPar, and_true, true_and, List.isEmpty_nil, List.isEmpty_cons, Nat.reduceAdd, Nat.reduceLeDiff, Nat.reduceLT, le_sz, lt_sz, fLt_i, fEq_i, fNe_i, fLe_i, dec0, if_pos (show (0 : Int) < (k : Int) by omega)]
        refine call_pot (ds := [.int 10]) (draw_ok (by decide) (by decide)) hs fun a' s' r hs' hr => ?_
        obtain ⟨x, rfl, x0, x1⟩ := hr
        simp only [sIf, ws_ofE, wp_bind, wp_noX, mTB, mTr, mNotT, mAndT, mOrT, mAnd, mOr, mNot, mIf, mNeg, mBin, bin2, mChain, mVar, mK, mB, mCall_eq, aNil, aCons, mTup, mLst, mSl, oNo, oSome, mIsi, anyT, isT, truD, sSet, setR, sRet, retR, sNil, sEx, sDvm, sSt, lstAt, putLst, drefs, dats, List.map_cons, List.map_nil, List.cons_append, List.nil_append, List.append_nil, List.replicate, List.getElem?_cons_zero, List.getElem?_cons_succ, List.set_cons_zero, List.set_cons_succ, List.length_cons, List.length_nil, bind_ok, ofO_some, ofE_ok, oS_some, noX_ok, wp_ok, ws_nx, ws_rt, fz, dref, fIx, atI0, atI1, atI2, ixN_20, ixN_21, ixN_10, Option.map_some, fGt, fGe, fSub, fI, fI0, fAdd, fInt, fLen, lenD, outsOf, parOnly, notSlt, List.take_succ_cons, List.take_zero, if_true, if_false, Bool.false_eq_true, decide_true, decide_false, Bool.not_true, Bool.not_false, fIs, fIsNot, isNoneD, sTg, gmT, gmCons, gmN, gmNil, mPop, sAug, mExt, sPar, and_true, true_and, List.isEmpty_nil, List.isEmpty_cons, Nat.reduceAdd, Nat.reduceLeDiff, Nat.reduceLT, le_sz, lt_sz, fLt_i, fEq_i, fNe_i, fLe_i, dec0]
        exact ⟨a', s', x, hs', x0, x1, fun _ => hk, rfl⟩
      · simp only [sIf, ws_ofE, wp_bind, wp_noX, mTB, mTr, mNotT, mAndT, mOrT, mAnd, mOr, mNot, mIf, mNeg, mBin, bin2, mChain, mVar, mK, mB, mCall_eq, aNil, aCons, mTup, mLst, mSl, oNo, oSome, mIsi, anyT, isT, truD, sSet, setR, sRet, retR, sNil, sEx, sDvm, sSt, lstAt, putLst, drefs, dats, List.map_cons, List.map_nil, List.cons_append, List.nil_append, List.append_nil, List.replicate, List.getElem?_cons_zero, List.getElem?_cons_succ, List.set_cons_zero, List.set_cons_succ, List.length_cons, List.length_nil, bind_ok, ofO_some, ofE_ok, oS_some, noX_ok, wp_ok, ws_nx, ws_rt, fz, dref, fIx, atI0, atI1, atI2, ixN_20, ixN_21, ixN_10, Option.map_some, fGt, fGe, fSub, fI, fI0, fAdd, fInt, fLen, lenD, outsOf, parOnly, notSlt, List.take_succ_cons, List.take_zero, if_true, if_false, Bool.false_eq_true, decide_true, decide_false, Bool.not_true, Bool.not_false, fIs, fIsNot, isNoneD, sTg, gmT, gmCons, gmN, gmNil, mPop, sAug, mExt, sPar, and_true, true_and, List.isEmpty_nil, List.isEmpty_cons, Nat.reduceAdd, Nat.reduceLeDiff, Nat.reduceLT, le_sz, lt_sz, fLt_i, fEq_i, fNe_i, fLe_i, dec0, if_neg (show ¬ (0 : Int) < (k : Int) by omega)]
        exact ⟨a, s, 0, hs, by omega, by omega, fun h => by omega, rfl⟩
    · obtain ⟨a, s, x, hs, x0, x1, xk, rfl⟩ := hρ
      have e1 : 2 ≤ x → (k : Int) - 1 = ((k - 1 : Nat) : Int) := fun h => by have := xk h; omega
      have e2 : 2 ≤ x → k - 1 < n := fun h => by have := xk h; omega
      have rec_ : 2 ≤ x → Pf (M__law_simple n) [.int 4, .int ((k - 1 : Nat) : Int)] (Gr (Gk (k - 1))) := fun h => ih (k - 1) (e2 h)
      have e3 : 2 ≤ x → k - 1 + 1 = k := fun h => by have := xk h; omega
      have p := Nat.pow_pos (n := k) (show 0 < 4 by decide)
      by_cases h2 : x < 2
      · refine ws_rtc ?_
        simp only [sIf, ws_ofE, wp_bind, wp_noX, mTB, mTr, mNotT, mAndT, mOrT, mAnd, mOr, mNot, mIf, mNeg, mBin, bin2, mChain, mVar, mK, mB, mCall_eq, aNil, aCons, mTup, mLst, mSl, oNo, oSome, mIsi, anyT, isT, truD, sSet, setR, sRet, retR, sNil, sEx, sDvm, sSt, lstAt, putLst, drefs, dats, List.map_cons, List.map_nil, List.cons_append, List.nil_append, List.append_nil, List.replicate, List.getElem?_cons_zero, List.getElem?_cons_succ, List.set_cons_zero, List.set_cons_succ, List.length_cons, List.length_nil, bind_ok, ofO_some, ofE_ok, oS_some, noX_ok, wp_ok, ws_nx, ws_rt, fz, dref, fIx, atI0, atI1, atI2, ixN_20, ixN_21, ixN_10, Option.map_some, fGt, fGe, fSub, fI, fI0, fAdd, fInt, fLen, lenD, outsOf, parOnly, notSlt, List.take_succ_cons, List.take_zero, if_true, if_false, Bool.false_eq_true, decide_true, decide_false, Bool.not_true, Bool.not_false, fIs, fIsNot, isNoneD, sTg, gmT, gmCons, gmN, gmNil, mPop, sAug, mExt, sPar, and_true, true_and, List.isEmpty_nil, List.isEmpty_cons, Nat.reduceAdd, Nat.reduceLeDiff, Nat.reduceLT, le_sz, lt_sz, fLt_i, fEq_i, fNe_i, fLe_i, dec0, if_pos h2]
        rw [if_neg (by decide)]
        simp only [sIf, ws_ofE, wp_bind, wp_noX, mTB, mTr, mNotT, mAndT, mOrT, mAnd, mOr, mNot, mIf, mNeg, mBin, bin2, mChain, mVar, mK, mB, mCall_eq, aNil, aCons, mTup, mLst, mSl, oNo, oSome, mIsi, anyT, isT, truD, sSet, setR, sRet, retR, sNil, sEx, sDvm, sSt, lstAt, putLst, drefs, dats, List.map_cons, List.map_nil, List.cons_append, List.nil_append, List.append_nil, List.replicate, List.getElem?_cons_zero, List.getElem?_cons_succ, List.set_cons_zero, List.set_cons_succ, List.length_cons, List.length_nil, bind_ok, ofO_some, ofE_ok, oS_some, noX_ok, wp_ok, ws_nx, ws_rt, fz, dref, fIx, atI0, atI1, atI2, ixN_20, ixN_21, ixN_10, Option.map_some, fGt, fGe, fSub, fI, fI0, fAdd, fInt, fLen, lenD, outsOf, parOnly, notSlt, List.take_succ_cons, List.take_zero, if_true, if_false, Bool.false_eq_true, decide_true, decide_false, Bool.not_true, Bool.not_false, fIs, fIsNot, isNoneD, sTg, gmT, gmCons, gmN, gmNil, mPop, sAug, mExt, sPar, and_true, true_and, List.isEmpty_nil, List.isEmpty_cons, Nat.reduceAdd, Nat.reduceLeDiff, Nat.reduceLT, le_sz, lt_sz, fLt_i, fEq_i, fNe_i, fLe_i, dec0]
        refine call_pot (ds := [.int 5]) (draw_ok (by decide) (by decide)) hs fun a s r hs hr => ?_
        obtain ⟨y, rfl, y0, y1⟩ := hr
        simp only [sIf, ws_ofE, wp_bind, wp_noX, mTB, mTr, mNotT, mAndT, mOrT, mAnd, mOr, mNot, mIf, mNeg, mBin, bin2, mChain, mVar, mK, mB, mCall_eq, aNil, aCons, mTup, mLst, mSl, oNo, oSome, mIsi, anyT, isT, truD, sSet, setR, sRet, retR, sNil, sEx, sDvm, sSt, lstAt, putLst, drefs, dats, List.map_cons, List.map_nil, List.cons_append, List.nil_append, List.append_nil, List.replicate, List.getElem?_cons_zero, List.getElem?_cons_succ, List.set_cons_zero, List.set_cons_succ, List.length_cons, List.length_nil, bind_ok, ofO_some, ofE_ok, oS_some, noX_ok, wp_ok, ws_nx, ws_rt, fz, dref, fIx, atI0, atI1, atI2, ixN_20, ixN_21, ixN_10, Option.map_some, fGt, fGe, fSub, fI, fI0, fAdd, fInt, fLen, lenD, outsOf, parOnly, notSlt, List.take_succ_cons, List.take_zero, if_true, if_false, Bool.false_eq_true, decide_true, decide_false, Bool.not_true, Bool.not_false, fIs, fIsNot, isNoneD, sTg, gmT, gmCons, gmN, gmNil, mPop, sAug, mExt, sPar, and_true, true_and, List.isEmpty_nil, List.isEmpty_cons, Nat.reduceAdd, Nat.reduceLeDiff, Nat.reduceLT, le_sz, lt_sz, fLt_i, fEq_i, fNe_i, fLe_i, dec0]
        by_cases hy : y = 0
        · simp only [sIf, ws_ofE, wp_bind, wp_noX, mTB, mTr, mNotT, mAndT, mOrT, mAnd, mOr, mNot, mIf, mNeg, mBin, bin2, mChain, mVar, mK, mB, mCall_eq, aNil, aCons, mTup, mLst, mSl, oNo, oSome, mIsi, anyT, isT, truD, sSet, setR, sRet, retR, sNil, sEx, sDvm, sSt, lstAt, putLst, drefs, dats, List.map_cons, List.map_nil, List.cons_append, List.nil_append, List.append_nil, List.replicate, List.getElem?_cons_zero, List.getElem?_cons_succ, List.set_cons_zero, List.set_cons_succ, List.length_cons, List.length_nil, bind_ok, ofO_some, ofE_ok, oS_some, noX_ok, wp_ok, ws_nx, ws_rt, fz, dref, fIx, atI0, atI1, atI2, ixN_20, ixN_21, ixN_10, Option.map_some, fGt, fGe, fSub, fI, fI0, fAdd, fInt, fLen, lenD, outsOf, parOnly, notSlt, List.take_succ_cons, List.take_zero, if_true, if_false, Bool.false_eq_true, decide_true, decide_false, Bool.not_true, Bool.not_false, fIs, fIsNot, isNoneD, sTg, gmT, gmCons, gmN, gmNil, mPop, sAug, mExt, sPar, and_true, true_and, List.isEmpty_nil, List.isEmpty_cons, Nat.reduceAdd, Nat.reduceLeDiff, Nat.reduceLT, le_sz, lt_sz, fLt_i, fEq_i, fNe_i, fLe_i, dec0, if_pos hy]
          refine call_pot (ds := [.list [.str "yes", .str "no"]]) (pick_ok (by decide) (by decide)) hs fun a s r hs hr => ?_
          obtain ⟨d, rfl, hd⟩ := hr
          simp only [sIf, ws_ofE, wp_bind, wp_noX, mTB, mTr, mNotT, mAndT, mOrT, mAnd, mOr, mNot, mIf, mNeg, mBin, bin2, mChain, mVar, mK, mB, mCall_eq, aNil, aCons, mTup, mLst, mSl, oNo, oSome, mIsi, anyT, isT, truD, sSet, setR, sRet, retR, sNil, sEx, sDvm, sSt, lstAt, putLst, drefs, dats, List.map_cons, List.map_nil, List.cons_append, List.nil_append, List.append_nil, List.replicate, List.getElem?_cons_zero, List.getElem?_cons_succ, List.set_cons_zero, List.set_cons_succ, List.length_cons, List.length_nil, bind_ok, ofO_some, ofE_ok, oS_some, noX_ok, wp_ok, ws_nx, ws_rt, fz, dref, fIx, atI0, atI1, atI2, ixN_20, ixN_21, ixN_10, Option.map_some, fGt, fGe, fSub, fI, fI0, fAdd, fInt, fLen, lenD, outsOf, parOnly, notSlt, List.take_succ_cons, List.take_zero, if_true, if_false, Bool.false_eq_true, decide_true, decide_false, Bool.not_true, Bool.not_false, fIs, fIsNot, isNoneD, sTg, gmT, gmCons, gmN, gmNil, mPop, sAug, mExt, sPar, and_true, true_and, List.isEmpty_nil, List.isEmpty_cons, Nat.reduceAdd, Nat.reduceLeDiff, Nat.reduceLT, le_sz, lt_sz, fLt_i, fEq_i, fNe_i, fLe_i, dec0]
          refine ⟨⟨_, rfl, ?_⟩, a, s, _, hs, rfl⟩
          have hd : d = .str "yes" ∨ d = .str "no" := by simpa using hd
          rcases hd with rfl | rfl <;> refine ⟨by decide +kernel, ?_, ?_⟩ <;> simp [wt, wtAll, PyData.depth, PyData.depthAll, Nat.pow_succ] <;> omega
        · simp only [sIf, ws_ofE, wp_bind, wp_noX, mTB, mTr, mNotT, mAndT, mOrT, mAnd, mOr, mNot, mIf, mNeg, mBin, bin2, mChain, mVar, mK, mB, mCall_eq, aNil, aCons, mTup, mLst, mSl, oNo, oSome, mIsi, anyT, isT, truD, sSet, setR, sRet, retR, sNil, sEx, sDvm, sSt, lstAt, putLst, drefs, dats, List.map_cons, List.map_nil, List.cons_append, List.nil_append, List.append_nil, List.replicate, List.getElem?_cons_zero, List.getElem?_cons_succ, List.set_cons_zero, List.set_cons_succ, List.length_cons, List.length_nil, bind_ok, ofO_some, ofE_ok, oS_some, noX_ok, wp_ok, ws_nx, ws_rt, fz, dref, fIx, atI0, atI1, atI2, ixN_20, ixN_21, ixN_10, Option.map_some, fGt, fGe, fSub, fI, fI0, fAdd, fInt, fLen, lenD, outsOf, parOnly, notSlt, List.take_succ_cons, List.take_zero, if_true, if_false, Bool.false_eq_true, decide_true, decide_false, Bool.not_true, Bool.not_false, fIs, fIsNot, isNoneD, sTg, gmT, gmCons, gmN, gmNil, mPop, sAug, mExt, sPar, and_true, true_and, List.isEmpty_nil, List.isEmpty_cons, Nat.reduceAdd, Nat.reduceLeDiff, Nat.reduceLT, le_sz, lt_sz, fLt_i, fEq_i, fNe_i, fLe_i, dec0, if_neg hy]
          refine call_pot (ds := [.int 4]) (draw_ok (by decide) (by decide)) hs fun a s r hs hr => ?_
          obtain ⟨z, rfl, z0, z1⟩ := hr
          simp only [sIf, ws_ofE, wp_bind, wp_noX, mTB, mTr, mNotT, mAndT, mOrT, mAnd, mOr, mNot, mIf, mNeg, mBin, bin2, mChain, mVar, mK, mB, mCall_eq, aNil, aCons, mTup, mLst, mSl, oNo, oSome, mIsi, anyT, isT, truD, sSet, setR, sRet, retR, sNil, sEx, sDvm, sSt, lstAt, putLst, drefs, dats, List.map_cons, List.map_nil, List.cons_append, List.nil_append, List.append_nil, List.replicate, List.getElem?_cons_zero, List.getElem?_cons_succ, List.set_cons_zero, List.set_cons_succ, List.length_cons, List.length_nil, bind_ok, ofO_some, ofE_ok, oS_some, noX_ok, wp_ok, ws_nx, ws_rt, fz, dref, fIx, atI0, atI1, atI2, ixN_20, ixN_21, ixN_10, Option.map_some, fGt, fGe, fSub, fI, fI0, fAdd, fInt, fLen, lenD, outsOf, parOnly, notSlt, List.take_succ_cons, List.take_zero, if_true, if_false, Bool.false_eq_true, decide_true, decide_false, Bool.not_true, Bool.not_false, fIs, fIsNot, isNoneD, sTg, gmT, gmCons, gmN, gmNil, mPop, sAug, mExt, sPar, and_true, true_and, List.isEmpty_nil, List.isEmpty_cons, Nat.reduceAdd, Nat.reduceLeDiff, Nat.reduceLT, le_sz, lt_sz, fLt_i, fEq_i, fNe_i, fLe_i, dec0]
          refine ⟨⟨_, rfl, ?_, ?_, ?_⟩, a, s, _, hs, rfl⟩
          · simp [nb, nbAll, nbw]; omega
          · simp only [wt, wtAll, Nat.pow_succ]; omega
          · simp only [PyData.depth, PyData.depthAll]; omega
      · have h2' : 2 ≤ x := by omega
        have p4 := two_le k (xk h2')
        refine ws_nxc (by simp only [sIf, ws_ofE, wp_bind, wp_noX, mTB, mTr, mNotT, mAndT, mOrT, mAnd, mOr, mNot, mIf, mNeg, mBin, bin2, mChain, mVar, mK, mB, mCall_eq, aNil, aCons, mTup, mLst, mSl, oNo, oSome, mIsi, anyT, isT, truD, sSet, setR, sRet, retR, sNil, sEx, sDvm, sSt, lstAt, putLst, drefs, dats, List.map_cons, List.map_nil, List.cons_append, List.nil_append, List.append_nil, List.replicate, List.getElem?_cons_zero, List.getElem?_cons_succ, List.set_cons_zero, List.set_cons_succ, List.length_cons, List.length_nil, bind_ok, ofO_some, ofE_ok, oS_some, noX_ok, wp_ok, ws_nx, ws_rt, fz, dref, fIx, atI0, atI1, atI2, ixN_20, ixN_21, ixN_10, Option.map_some, fGt, fGe, fSub, fI, fI0, fAdd, fInt, fLen, lenD, outsOf, parOnly, notSlt, List.take_succ_cons, List.take_zero, if_true, if_false, Bool.false_eq_true, decide_true, decide_false, Bool.not_true, Bool.not_false, fIs, fIsNot, isNoneD, sTg, gmT, gmCons, gmN, gmNil, mPop, sAug, mExt, sPar, and_true, true_and, List.isEmpty_nil, List.isEmpty_cons, Nat.reduceAdd, Nat.reduceLeDiff, Nat.reduceLT, le_sz, lt_sz, fLt_i, fEq_i, fNe_i, fLe_i, dec0, if_neg h2]; exact rfl) ?_
        by_cases h4 : x < 4
        · refine ws_rtc ?_
          simp only [sIf, ws_ofE, wp_bind, wp_noX, mTB, mTr, mNotT, mAndT, mOrT, mAnd, mOr, mNot, mIf, mNeg, mBin, bin2, mChain, mVar, mK, mB, mCall_eq, aNil, aCons, mTup, mLst, mSl, oNo, oSome, mIsi, anyT, isT, truD, sSet, setR, sRet, retR, sNil, sEx, sDvm, sSt, lstAt, putLst, drefs, dats, List.map_cons, List.map_nil, List.cons_append, List.nil_append, List.append_nil, List.replicate, List.getElem?_cons_zero, List.getElem?_cons_succ, List.set_cons_zero, List.set_cons_succ, List.length_cons, List.length_nil, bind_ok, ofO_some, ofE_ok, oS_some, noX_ok, wp_ok, ws_nx, ws_rt, fz, dref, fIx, atI0, atI1, atI2, ixN_20, ixN_21, ixN_10, Option.map_some, fGt, fGe, fSub, fI, fI0, fAdd, fInt, fLen, lenD, outsOf, parOnly, notSlt, List.take_succ_cons, List.take_zero, if_true, if_false, Bool.false_eq_true, decide_true, decide_false, Bool.not_true, Bool.not_false, fIs, fIsNot, isNoneD, sTg, gmT, gmCons, gmN, gmNil, mPop, sAug, mExt, sPar, and_true, true_and, List.isEmpty_nil, List.isEmpty_cons, Nat.reduceAdd, Nat.reduceLeDiff, Nat.reduceLT, le_sz, lt_sz, fLt_i, fEq_i, fNe_i, fLe_i, dec0, if_pos h4, e1 h2']
          refine call_pot (ds := [.int 4, .int ((k - 1 : Nat) : Int)]) (rec_ h2') hs fun a s r hs hr => ?_
          obtain ⟨d, rfl, g1, g2, g3⟩ := hr
          rw [e3 h2'] at g2
          simp only [sIf, ws_ofE, wp_bind, wp_noX, mTB, mTr, mNotT, mAndT, mOrT, mAnd, mOr, mNot, mIf, mNeg, mBin, bin2, mChain, mVar, mK, mB, mCall_eq, aNil, aCons, mTup, mLst, mSl, oNo, oSome, mIsi, anyT, isT, truD, sSet, setR, sRet, retR, sNil, sEx, sDvm, sSt, lstAt, putLst, drefs, dats, List.map_cons, List.map_nil, List.cons_append, List.nil_append, List.append_nil, List.replicate, List.getElem?_cons_zero, List.getElem?_cons_succ, List.set_cons_zero, List.set_cons_succ, List.length_cons, List.length_nil, bind_ok, ofO_some, ofE_ok, oS_some, noX_ok, wp_ok, ws_nx, ws_rt, fz, dref, fIx, atI0, atI1, atI2, ixN_20, ixN_21, ixN_10, Option.map_some, fGt, fGe, fSub, fI, fI0, fAdd, fInt, fLen, lenD, outsOf, parOnly, notSlt, List.take_succ_cons, List.take_zero, if_true, if_false, Bool.false_eq_true, decide_true, decide_false, Bool.not_true, Bool.not_false, fIs, fIsNot, isNoneD, sTg, gmT, gmCons, gmN, gmNil, mPop, sAug, mExt, sPar, and_true, true_and, List.isEmpty_nil, List.isEmpty_cons, Nat.reduceAdd, Nat.reduceLeDiff, Nat.reduceLT, le_sz, lt_sz, fLt_i, fEq_i, fNe_i, fLe_i, dec0]
          refine ⟨⟨_, rfl, ?_, ?_, ?_⟩, a, s, _, hs, rfl⟩
          · simp [nb, nbAll, g1, nbw]
          · simp only [wt, wtAll, Nat.pow_succ]; omega
          · simp only [PyData.depth, PyData.depthAll]; have := xk h2'; omega
        · refine ws_nxc (by simp only [sIf, ws_ofE, wp_bind, wp_noX, mTB, mTr, mNotT, mAndT, mOrT, mAnd, mOr, mNot, mIf, mNeg, mBin, bin2, mChain, mVar, mK, mB, mCall_eq, aNil, aCons, mTup, mLst, mSl, oNo, oSome, mIsi, anyT, isT, truD, sSet, setR, sRet, retR, sNil, sEx, sDvm, sSt, lstAt, putLst, drefs, dats, List.map_cons, List.map_nil, List.cons_append, List.nil_append, List.append_nil, List.replicate, List.getElem?_cons_zero, List.getElem?_cons_succ, List.set_cons_zero, List.set_cons_succ, List.length_cons, List.length_nil, bind_ok, ofO_some, ofE_ok, oS_some, noX_ok, wp_ok, ws_nx, ws_rt, fz, dref, fIx, atI0, atI1, atI2, ixN_20, ixN_21, ixN_10, Option.map_some, fGt, fGe, fSub, fI, fI0, fAdd, fInt, fLen, lenD, outsOf, parOnly, notSlt, List.take_succ_cons, List.take_zero, if_true, if_false, Bool.false_eq_true, decide_true, decide_false, Bool.not_true, Bool.not_false, fIs, fIsNot, isNoneD, sTg, gmT, gmCons, gmN, gmNil, mPop, sAug, mExt, sPar, and_true, true_and, List.isEmpty_nil, List.isEmpty_cons, Nat.reduceAdd, Nat.reduceLeDiff, Nat.reduceLT, le_sz, lt_sz, fLt_i, fEq_i, fNe_i, fLe_i, dec0, if_neg h4]; exact rfl) ?_
          by_cases h9 : x < 8
          · refine ws_rtc ?_
            simp only [sIf, ws_ofE, wp_bind, wp_noX, mTB, mTr, mNotT, mAndT, mOrT, mAnd, mOr, mNot, mIf, mNeg, mBin, bin2, mChain, mVar, mK, mB, mCall_eq, aNil, aCons, mTup, mLst, mSl, oNo, oSome, mIsi, anyT, isT, truD, sSet, setR, sRet, retR, sNil, sEx, sDvm, sSt, lstAt, putLst, drefs, dats, List.map_cons, List.map_nil, List.cons_append, List.nil_append, List.append_nil, List.replicate, List.getElem?_cons_zero, List.getElem?_cons_succ, List.set_cons_zero, List.set_cons_succ, List.length_cons, List.length_nil, bind_ok, ofO_some, ofE_ok, oS_some, noX_ok, wp_ok, ws_nx, ws_rt, fz, dref, fIx, atI0, atI1, atI2, ixN_20, ixN_21, ixN_10, Option.map_some, fGt, fGe, fSub, fI, fI0, fAdd, fInt, fLen, lenD, outsOf, parOnly, notSlt, List.take_succ_cons, List.take_zero, if_true, if_false, Bool.false_eq_true, decide_true, decide_false, Bool.not_true, Bool.not_false, fIs, fIsNot, isNoneD, sTg, gmT, gmCons, gmN, gmNil, mPop, sAug, mExt, sPar, and_true, true_and, List.isEmpty_nil, List.isEmpty_cons, Nat.reduceAdd, Nat.reduceLeDiff, Nat.reduceLT, le_sz, lt_sz, fLt_i, fEq_i, fNe_i, fLe_i, dec0, if_pos h9, e1 h2']
            refine call_pot (ds := [.list [.str "and", .str "or", .str "same"]]) (pick_ok (by decide) (by decide)) hs fun a s r hs hr => ?_
            obtain ⟨w, rfl, hw⟩ := hr
            simp only [sIf, ws_ofE, wp_bind, wp_noX, mTB, mTr, mNotT, mAndT, mOrT, mAnd, mOr, mNot, mIf, mNeg, mBin, bin2, mChain, mVar, mK, mB, mCall_eq, aNil, aCons, mTup, mLst, mSl, oNo, oSome, mIsi, anyT, isT, truD, sSet, setR, sRet, retR, sNil, sEx, sDvm, sSt, lstAt, putLst, drefs, dats, List.map_cons, List.map_nil, List.cons_append, List.nil_append, List.append_nil, List.replicate, List.getElem?_cons_zero, List.getElem?_cons_succ, List.set_cons_zero, List.set_cons_succ, List.length_cons, List.length_nil, bind_ok, ofO_some, ofE_ok, oS_some, noX_ok, wp_ok, ws_nx, ws_rt, fz, dref, fIx, atI0, atI1, atI2, ixN_20, ixN_21, ixN_10, Option.map_some, fGt, fGe, fSub, fI, fI0, fAdd, fInt, fLen, lenD, outsOf, parOnly, notSlt, List.take_succ_cons, List.take_zero, if_true, if_false, Bool.false_eq_true, decide_true, decide_false, Bool.not_true, Bool.not_false, fIs, fIsNot, isNoneD, sTg, gmT, gmCons, gmN, gmNil, mPop, sAug, mExt, sPar, and_true, true_and, List.isEmpty_nil, List.isEmpty_cons, Nat.reduceAdd, Nat.reduceLeDiff, Nat.reduceLT, le_sz, lt_sz, fLt_i, fEq_i, fNe_i, fLe_i, dec0, e1 h2']
            refine call_pot (ds := [.int 4, .int ((k - 1 : Nat) : Int)]) (rec_ h2') hs fun a s r hs hr => ?_
            obtain ⟨d, rfl, g1, g2, g3⟩ := hr
            simp only [sIf, ws_ofE, wp_bind, wp_noX, mTB, mTr, mNotT, mAndT, mOrT, mAnd, mOr, mNot, mIf, mNeg, mBin, bin2, mChain, mVar, mK, mB, mCall_eq, aNil, aCons, mTup, mLst, mSl, oNo, oSome, mIsi, anyT, isT, truD, sSet, setR, sRet, retR, sNil, sEx, sDvm, sSt, lstAt, putLst, drefs, dats, List.map_cons, List.map_nil, List.cons_append, List.nil_append, List.append_nil, List.replicate, List.getElem?_cons_zero, List.getElem?_cons_succ, List.set_cons_zero, List.set_cons_succ, List.length_cons, List.length_nil, bind_ok, ofO_some, ofE_ok, oS_some, noX_ok, wp_ok, ws_nx, ws_rt, fz, dref, fIx, atI0, atI1, atI2, ixN_20, ixN_21, ixN_10, Option.map_some, fGt, fGe, fSub, fI, fI0, fAdd, fInt, fLen, lenD, outsOf, parOnly, notSlt, List.take_succ_cons, List.take_zero, if_true, if_false, Bool.false_eq_true, decide_true, decide_false, Bool.not_true, Bool.not_false, fIs, fIsNot, isNoneD, sTg, gmT, gmCons, gmN, gmNil, mPop, sAug, mExt, sPar, and_true, true_and, List.isEmpty_nil, List.isEmpty_cons, Nat.reduceAdd, Nat.reduceLeDiff, Nat.reduceLT, le_sz, lt_sz, fLt_i, fEq_i, fNe_i, fLe_i, dec0, e1 h2']
            refine call_pot (ds := [.int 4, .int ((k - 1 : Nat) : Int)]) (rec_ h2') hs fun a s r hs hr => ?_
            obtain ⟨d', rfl, g1', g2', g3'⟩ := hr
            rw [e3 h2'] at g2 g2'
            simp only [sIf, ws_ofE, wp_bind, wp_noX, mTB, mTr, mNotT, mAndT, mOrT, mAnd, mOr, mNot, mIf, mNeg, mBin, bin2, mChain, mVar, mK, mB, mCall_eq, aNil, aCons, mTup, mLst, mSl, oNo, oSome, mIsi, anyT, isT, truD, sSet, setR, sRet, retR, sNil, sEx, sDvm, sSt, lstAt, putLst, drefs, dats, List.map_cons, List.map_nil, List.cons_append, List.nil_append, List.append_nil, List.replicate, List.getElem?_cons_zero, List.getElem?_cons_succ, List.set_cons_zero, List.set_cons_succ, List.length_cons, List.length_nil, bind_ok, ofO_some, ofE_ok, oS_some, noX_ok, wp_ok, ws_nx, ws_rt, fz, dref, fIx, atI0, atI1, atI2, ixN_20, ixN_21, ixN_10, Option.map_some, fGt, fGe, fSub, fI, fI0, fAdd, fInt, fLen, lenD, outsOf, parOnly, notSlt, List.take_succ_cons, List.take_zero, if_true, if_false, Bool.false_eq_true, decide_true, decide_false, Bool.not_true, Bool.not_false, fIs, fIsNot, isNoneD, sTg, gmT, gmCons, gmN, gmNil, mPop, sAug, mExt, sPar, and_true, true_and, List.isEmpty_nil, List.isEmpty_cons, Nat.reduceAdd, Nat.reduceLeDiff, Nat.reduceLT, le_sz, lt_sz, fLt_i, fEq_i, fNe_i, fLe_i, dec0]
            have hw : w = .str "and" ∨ w = .str "or" ∨ w = .str "same" := by simpa using hw
            refine ⟨⟨_, rfl, ?_, ?_, ?_⟩, a, s, _, hs, rfl⟩
            · rcases hw with rfl | rfl | rfl <;> simp [nb, nbAll, g1, g1', nbw]
            · rcases hw with rfl | rfl | rfl <;> simp only [wt, wtAll, Nat.pow_succ] <;> omega
            · have := xk h2'
              rcases hw with rfl | rfl | rfl <;> simp only [PyData.depth, PyData.depthAll] <;> omega
          · refine ws_nxc (by simp only [sIf, ws_ofE, wp_bind, wp_noX, mTB, mTr, mNotT, mAndT, mOrT, mAnd, mOr, mNot, mIf, mNeg, mBin, bin2, mChain, mVar, mK, mB, mCall_eq, aNil, aCons, mTup, mLst, mSl, oNo, oSome, mIsi, anyT, isT, truD, sSet, setR, sRet, retR, sNil, sEx, sDvm, sSt, lstAt, putLst, drefs, dats, List.map_cons, List.map_nil, List.cons_append, List.nil_append, List.append_nil, List.replicate, List.getElem?_cons_zero, List.getElem?_cons_succ, List.set_cons_zero, List.set_cons_succ, List.length_cons, List.length_nil, bind_ok, ofO_some, ofE_ok, oS_some, noX_ok, wp_ok, ws_nx, ws_rt, fz, dref, fIx, atI0, atI1, atI2, ixN_20, ixN_21, ixN_10, Option.map_some, fGt, fGe, fSub, fI, fI0, fAdd, fInt, fLen, lenD, outsOf, parOnly, notSlt, List.take_succ_cons, List.take_zero, if_true, if_false, Bool.false_eq_true, decide_true, decide_false, Bool.not_true, Bool.not_false, fIs, fIsNot, isNoneD, sTg, gmT, gmCons, gmN, gmNil, mPop, sAug, mExt, sPar, and_true, true_and, List.isEmpty_nil, List.isEmpty_cons, Nat.reduceAdd, Nat.reduceLeDiff, Nat.reduceLT, le_sz, lt_sz, fLt_i, fEq_i, fNe_i, fLe_i, dec0, if_neg h9]; exact rfl) ?_
            simp only [sIf, ws_ofE, wp_bind, wp_noX, mTB, mTr, mNotT, mAndT, mOrT, mAnd, mOr, mNot, mIf, mNeg, mBin, bin2, mChain, mVar, mK, mB, mCall_eq, aNil, aCons, mTup, mLst, mSl, oNo, oSome, mIsi, anyT, isT, truD, sSet, setR, sRet, retR, sNil, sEx, sDvm, sSt, lstAt, putLst, drefs, dats, List.map_cons, List.map_nil, List.cons_append, List.nil_append, List.append_nil, List.replicate, List.getElem?_cons_zero, List.getElem?_cons_succ, List.set_cons_zero, List.set_cons_succ, List.length_cons, List.length_nil, bind_ok, ofO_some, ofE_ok, oS_some, noX_ok, wp_ok, ws_nx, ws_rt, fz, dref, fIx, atI0, atI1, atI2, ixN_20, ixN_21, ixN_10, Option.map_some, fGt, fGe, fSub, fI, fI0, fAdd, fInt, fLen, lenD, outsOf, parOnly, notSlt, List.take_succ_cons, List.take_zero, if_true, if_false, Bool.false_eq_true, decide_true, decide_false, Bool.not_true, Bool.not_false, fIs, fIsNot, isNoneD, sTg, gmT, gmCons, gmN, gmNil, mPop, sAug, mExt, sPar, and_true, true_and, List.isEmpty_nil, List.isEmpty_cons, Nat.reduceAdd, Nat.reduceLeDiff, Nat.reduceLT, le_sz, lt_sz, fLt_i, fEq_i, fNe_i, fLe_i, dec0, mLcV, mLc, mRng1]
            rw [if_pos (by decide)]
            simp only [sIf, ws_ofE, wp_bind, wp_noX, mTB, mTr, mNotT, mAndT, mOrT, mAnd, mOr, mNot, mIf, mNeg, mBin, bin2, mChain, mVar, mK, mB, mCall_eq, aNil, aCons, mTup, mLst, mSl, oNo, oSome, mIsi, anyT, isT, truD, sSet, setR, sRet, retR, sNil, sEx, sDvm, sSt, lstAt, putLst, drefs, dats, List.map_cons, List.map_nil, List.cons_append, List.nil_append, List.append_nil, List.replicate, List.getElem?_cons_zero, List.getElem?_cons_succ, List.set_cons_zero, List.set_cons_succ, List.length_cons, List.length_nil, bind_ok, ofO_some, ofE_ok, oS_some, noX_ok, wp_ok, ws_nx, ws_rt, fz, dref, fIx, atI0, atI1, atI2, ixN_20, ixN_21, ixN_10, Option.map_some, fGt, fGe, fSub, fI, fI0, fAdd, fInt, fLen, lenD, outsOf, parOnly, notSlt, List.take_succ_cons, List.take_zero, if_true, if_false, Bool.false_eq_true, decide_true, decide_false, Bool.not_true, Bool.not_false, fIs, fIsNot, isNoneD, sTg, gmT, gmCons, gmN, gmNil, mPop, sAug, mExt, sPar, and_true, true_and, List.isEmpty_nil, List.isEmpty_cons, Nat.reduceAdd, Nat.reduceLeDiff, Nat.reduceLT, le_sz, lt_sz, fLt_i, fEq_i, fNe_i, fLe_i, dec0]
            have e0 : intsD 0 (Int.toNat 3) = [.int 0, .int 1, .int 2] := rfl
            rw [e0]
            refine (lc_pot (i := 3) (ρ := [.dat (.int 4), .dat (.int k), .dat (.int x), .non]) (G := Gk (k - 1)) rfl (fun _ => rfl) [.int 0, .int 1, .int 2] [] a s hs (fun a s d hs => ?_) (by rw [sizeLine_eq]; decide)).mono fun r ρ' hr => ?_
            · simp only [sIf, ws_ofE, wp_bind, wp_noX, mTB, mTr, mNotT, mAndT, mOrT, mAnd, mOr, mNot, mIf, mNeg, mBin, bin2, mChain, mVar, mK, mB, mCall_eq, aNil, aCons, mTup, mLst, mSl, oNo, oSome, mIsi, anyT, isT, truD, sSet, setR, sRet, retR, sNil, sEx, sDvm, sSt, lstAt, putLst, drefs, dats, List.map_cons, List.map_nil, List.cons_append, List.nil_append, List.append_nil, List.replicate, List.getElem?_cons_zero, List.getElem?_cons_succ, List.set_cons_zero, List.set_cons_succ, List.length_cons, List.length_nil, bind_ok, ofO_some, ofE_ok, oS_some, noX_ok, wp_ok, ws_nx, ws_rt, fz, dref, fIx, atI0, atI1, atI2, ixN_20, ixN_21, ixN_10, Option.map_some, fGt, fGe, fSub, fI, fI0, fAdd, fInt, fLen, lenD, outsOf, parOnly, notSlt, List.take_succ_cons, List.take_zero, if_true, if_false, Bool.false_eq_true, decide_true, decide_false, Bool.not_true, Bool.not_false, fIs, fIsNot, isNoneD, sTg, gmT, gmCons, gmN, gmNil, mPop, sAug, mExt, sPar, and_true, true_and, List.isEmpty_nil, List.isEmpty_cons, Nat.reduceAdd, Nat.reduceLeDiff, Nat.reduceLT, le_sz, lt_sz, fLt_i, fEq_i, fNe_i, fLe_i, dec0, e1 h2']
              refine call_pot (ds := [.int 4, .int ((k - 1 : Nat) : Int)]) (rec_ h2') hs fun a s r hs hr => ?_
              obtain ⟨d', rfl, g⟩ := hr
              exact ⟨a, s, d', hs, rfl, g, rfl⟩
            · obtain ⟨a, s, es, hs, rfl, hl, g, rfl⟩ := hr
              obtain ⟨d1, d2, d3, rfl⟩ : ∃ d1 d2 d3, es = [d1, d2, d3] := by
                match es, hl with
                | [d1, d2, d3], _ => exact ⟨d1, d2, d3, rfl⟩
              obtain ⟨a1, b1, c1⟩ := g d1 (by simp)
              obtain ⟨a2, b2, c2⟩ := g d2 (by simp)
              obtain ⟨a3, b3, c3⟩ := g d3 (by simp)
              rw [e3 h2'] at b1 b2 b3
              have hk := xk h2'
              simp only [sIf, ws_ofE, wp_bind, wp_noX, mTB, mTr, mNotT, mAndT, mOrT, mAnd, mOr, mNot, mIf, mNeg, mBin, bin2, mChain, mVar, mK, mB, mCall_eq, aNil, aCons, mTup, mLst, mSl, oNo, oSome, mIsi, anyT, isT, truD, sSet, setR, sRet, retR, sNil, sEx, sDvm, sSt, lstAt, putLst, drefs, dats, List.map_cons, List.map_nil, List.cons_append, List.nil_append, List.append_nil, List.replicate, List.getElem?_cons_zero, List.getElem?_cons_succ, List.set_cons_zero, List.set_cons_succ, List.length_cons, List.length_nil, bind_ok, ofO_some, ofE_ok, oS_some, noX_ok, wp_ok, ws_nx, ws_rt, fz, dref, fIx, atI0, atI1, atI2, ixN_20, ixN_21, ixN_10, Option.map_some, fGt, fGe, fSub, fI, fI0, fAdd, fInt, fLen, lenD, outsOf, parOnly, notSlt, List.take_succ_cons, List.take_zero, if_true, if_false, Bool.false_eq_true, decide_true, decide_false, Bool.not_true, Bool.not_false, fIs, fIsNot, isNoneD, sTg, gmT, gmCons, gmN, gmNil, mPop, sAug, mExt, sPar, and_true, true_and, List.isEmpty_nil, List.isEmpty_cons, Nat.reduceAdd, Nat.reduceLeDiff, Nat.reduceLT, le_sz, lt_sz, fLt_i, fEq_i, fNe_i, fLe_i, dec0, fTuple]
              refine ⟨⟨_, rfl, ?_, ?_, ?_⟩, a, s, _, hs, rfl⟩
              · simp [nb, nbAll, a1, a2, a3, nbw]
              · simp only [wt, wtAll, Nat.pow_succ]; omega
              · simp only [PyData.depth, PyData.depthAll]; omega
end Lw
end Vl

set_option Elab.async false
set_option linter.all false
set_option maxRecDepth 100000
namespace Vl
namespace Lw
open PySem PySem.Spec PyProof.Rows L2

theorem ws_while {n : Nat} {t : TM} {b : SM} {ρ : List Sl} {N : List Sl → Prop} {R : Res → List Sl → Prop} (h : Wp (t ρ) fun k ρ1 => if k = true then Ws (b ρ1) (fun ρ2 => Ws (whL n t b ρ2) N R) R else N ρ1) : Ws (whL (n + 1) t b ρ) N R := by
  unfold whL
  rw [ws_ofE]
  refine h.mono fun k ρ1 hk => ?_
  cases k with
  | false => exact hk
  | true =>
    rw [if_pos rfl] at hk ⊢
    cases e : b ρ1 with
    | nx ρ2 => rw [e] at hk; exact hk
    | rt r ρ2 => rw [e] at hk; exact hk
    | stuck => rw [e] at hk; exact hk
    | bk ρ2 => rw [e] at hk; exact hk.elim
    | ct ρ2 => rw [e] at hk; exact hk.elim
    | exc x ρ2 => rw [e] at hk; exact hk
theorem loop_wp {t : TM} {b : SM} {N : List Sl → Prop} {R : Res → List Sl → Prop} (I : Nat → List Sl → Prop) (h : ∀ n ρ, I n ρ → Wp (t ρ) fun k ρ1 => if k = true then Ws (b ρ1) (fun ρ2 => ∃ m, m < n ∧ I m ρ2) R else N ρ1) : ∀ (fuel n : Nat) (ρ : List Sl), n < fuel → I n ρ → Ws (whL fuel t b ρ) N R
  | 0, n, ρ, hn, _ => by omega
  | fuel + 1, n, ρ, hn, hi => ws_while ((h n ρ hi).mono fun k ρ1 hk => by
      cases k with
      | false => exact hk
      | true =>
        rw [if_pos rfl] at hk ⊢
        exact hk.mono (fun ρ2 hm => by
          obtain ⟨m, hm, hi'⟩ := hm
          exact loop_wp I h fuel m ρ2 (by omega) hi') fun _ _ k => k)
theorem atI3 {α : Type} (a b c d : α) (l : List α) : L2.atI (a :: b :: c :: d :: l) 3 = some d := by
  unfold L2.atI; rw [show (3 : Int) = ((3 : Nat) : Int) from rfl, ixN_nat (by simp)]; rfl
def Gl (m : Int) (d : D) : Prop := okD d = true ∧ (wt d : Int) ≤ 8 * m ∧ (d.depth : Int) ≤ m
theorem long_ok {leaf : D} (h1 : okD leaf = true) (h2 : wt leaf ≤ 3) (h3 : leaf.depth ≤ 1) {deep : Int} (d1 : 1 ≤ deep) (d2 : deep ≤ 45) (by_ : Bool) : Pf M__law_long [leaf, .int deep, .bool by_] (Gr (Gl deep)) := by
  intro a s hs
  unfold M__law_long
  refine wp_fn (ws_nxc (by simp only [sIf, ws_ofE, wp_bind, wp_noX, mTB, mTr, mNotT, mAndT, mOrT, mAnd, mOr, mNot, mIf, mNeg, mBin, bin2, mChain, mVar, mK, mB, mCall_eq, aNil, aCons, mTup, mLst, mSl, oNo, oSome, mIsi, anyT, isT, truD, sSet, setR, sRet, retR, sNil, sEx, sDvm, sSt, lstAt, putLst, drefs, dats, List.map_cons, List.map_nil, List.cons_append, List.nil_append, List.append_nil, List.replicate, List.getElem?_cons_zero, List.getElem?_cons_succ, List.set_cons_zero, List.set_cons_succ, List.length_cons, List.length_nil, bind_ok, ofO_some, ofE_ok, oS_some, noX_ok, wp_ok, ws_nx, ws_rt, fz, dref, fIx, atI0, atI1, atI2, ixN_20, ixN_21, ixN_10, Option.map_some, fGt, fGe, fSub, fI, fI0, fAdd, fInt, fLen, lenD, outsOf, parOnly, notSlt, List.take_succ_cons, List.take_zero, if_true, if_false, Bool.false_eq_true, decide_true, decide_false, Bool.not_true, Bool.not_false, fIs, fIsNot, isNoneD, sTg, gmT, gmCons, gmN, gmNil, mPop, sAug, mExt, sPar, and_true, true_and, List.isEmpty_nil, List.isEmpty_cons, Nat.reduceAdd, Nat.reduceLeDiff, Nat.reduceLT, le_sz, lt_sz, fLt_i, fEq_i, fNe_i, fLe_i, dec0, sPar]; exact rfl) ?_)
  refine ws_cut (M := fun ρ => ∃ a s d x y, PotOk s ∧ Gl deep d ∧ ρ = [Pt a s, .dat leaf, .dat (.int deep), .dat (.bool by_), .dat d, x, y]) ?_ fun ρ hρ => ?_
  · refine loop_wp (fun n ρ => ∃ a s d here y, PotOk s ∧ Gl here d ∧ 1 ≤ here ∧ here ≤ deep ∧ n = (deep - here).toNat ∧ ρ = [Pt a s, .dat leaf, .dat (.int deep), .dat (.bool by_), .dat d, .dat (.int here), y]) ?_ 50 (deep - 1).toNat _ (by omega) ⟨a, s, leaf, 1, _, hs, ⟨h1, by omega, by omega⟩, by omega, d1, rfl, rfl⟩
    rintro n ρ ⟨a, s, d, here, y, hs, ⟨g1, g2, g3⟩, b1, b2, rfl, rfl⟩
    simp only [sIf, ws_ofE, wp_bind, wp_noX, mTB, mTr, mNotT, mAndT, mOrT, mAnd, mOr, mNot, mIf, mNeg, mBin, bin2, mChain, mVar, mK, mB, mCall_eq, aNil, aCons, mTup, mLst, mSl, oNo, oSome, mIsi, anyT, isT, truD, sSet, setR, sRet, retR, sNil, sEx, sDvm, sSt, lstAt, putLst, drefs, dats, List.map_cons, List.map_nil, List.cons_append, List.nil_append, List.append_nil, List.replicate, List.getElem?_cons_zero, List.getElem?_cons_succ, List.set_cons_zero, List.set_cons_succ, List.length_cons, List.length_nil, bind_ok, ofO_some, ofE_ok, oS_some, noX_ok, wp_ok, ws_nx, ws_rt, fz, dref, fIx, atI0, atI1, atI2, ixN_20, ixN_21, ixN_10, Option.map_some, fGt, fGe, fSub, fI, fI0, fAdd, fInt, fLen, lenD, outsOf, parOnly, notSlt, List.take_succ_cons, List.take_zero, if_true, if_false, Bool.false_eq_true, decide_true, decide_false, Bool.not_true, Bool.not_false, fIs, fIsNot, isNoneD, sTg, gmT, gmCons, gmN, gmNil, mPop, sAug, mExt, sPar, and_true, true_and, List.isEmpty_nil, List.isEmpty_cons, Nat.reduceAdd, Nat.reduceLeDiff, Nat.reduceLT, le_sz, lt_sz, fLt_i, fEq_i, fNe_i, fLe_i, dec0]
    by_cases hlt : here < deep
    · simp only [sIf, ws_ofE, wp_bind, wp_noX, mTB, mTr, mNotT, mAndT, mOrT, mAnd, mOr, mNot, mIf, mNeg, mBin, bin2, mChain, mVar, mK, mB, mCall_eq, aNil, aCons, mTup, mLst, mSl, oNo, oSome, mIsi, anyT, isT, truD, sSet, setR, sRet, retR, sNil, sEx, sDvm, sSt, lstAt, putLst, drefs, dats, List.map_cons, List.map_nil, List.cons_append, List.nil_append, List.append_nil, List.replicate, List.getElem?_cons_zero, List.getElem?_cons_succ, List.set_cons_zero, List.set_cons_succ, List.length_cons, List.length_nil, bind_ok, ofO_some, ofE_ok, oS_some, noX_ok, wp_ok, ws_nx, ws_rt, fz, dref, fIx, atI0, atI1, atI2, ixN_20, ixN_21, ixN_10, Option.map_some, fGt, fGe, fSub, fI, fI0, fAdd, fInt, fLen, lenD, outsOf, parOnly, notSlt, List.take_succ_cons, List.take_zero, if_true, if_false, Bool.false_eq_true, decide_true, decide_false, Bool.not_true, Bool.not_false, fIs, fIsNot, isNoneD, sTg, gmT, gmCons, gmN, gmNil, mPop, sAug, mExt, sPar, and_true, true_and, List.isEmpty_nil, List.isEmpty_cons, Nat.reduceAdd, Nat.reduceLeDiff, Nat.reduceLT, le_sz, lt_sz, fLt_i, fEq_i, fNe_i, fLe_i, dec0, if_pos hlt, ws_seq]
      refine call_pot (ds := [.int 4]) (draw_ok (by decide) (by decide)) hs fun a s r hs hr => ?_
      obtain ⟨w, rfl, w0, w1⟩ := hr
      have fin : ∀ (d' : D) (st : Int), 1 ≤ st → here + st ≤ deep → Gl (here + st) d' → ∃ m, m < (deep - here).toNat ∧ ∃ a_1 s_1 d_1 here_1 y, PotOk s_1 ∧ Gl here_1 d_1 ∧ 1 ≤ here_1 ∧ here_1 ≤ deep ∧ m = (deep - here_1).toNat ∧ [Pt a s, .dat leaf, .dat (.int deep), .dat (.bool by_), .dat d', .dat (.int (here + st)), .dat (.int w)] = [Pt a_1 s_1, .dat leaf, .dat (.int deep), .dat (.bool by_), .dat d_1, .dat (.int here_1), y] := fun d' st s1 s2 g => ⟨(deep - (here + st)).toNat, by omega, a, s, d', here + st, _, hs, g, by omega, s2, rfl, rfl⟩
      have hw : w = 0 ∨ w = 1 ∨ w = 2 ∨ w = 3 := by omega
      have gl : ∀ (es : List D) (wd : Str) (st : Int), okS wd = true → 1 ≤ st → okAll es = true → es.length < 9 → (wtAll es : Int) ≤ 8 * here + 6 → (PyData.depthAll es : Int) ≤ here → Gl (here + st) (.tuple (.str wd :: es)) := fun es wd st k0 k1 k2 k3 k4 k5 => by
        refine ⟨?_, ?_, ?_⟩
        · simp [okD, okAll, hdOk, k0, k2, k3]
        · simp only [wt, wtAll]; omega
        · simp only [PyData.depth, PyData.depthAll]; omega
      rcases hw with rfl | rfl | rfl | rfl
      · by_cases hd : here + 2 ≤ deep
        · cases by_ with
          | true =>
            simp only [sIf, ws_ofE, wp_bind, wp_noX, mTB, mTr, mNotT, mAndT, mOrT, mAnd, mOr, mNot, mIf, mNeg, mBin, bin2, mChain, mVar, mK, mB, mCall_eq, aNil, aCons, mTup, mLst, mSl, oNo, oSome, mIsi, anyT, isT, truD, sSet, setR, sRet, retR, sNil, sEx, sDvm, sSt, lstAt, putLst, drefs, dats, List.map_cons, List.map_nil, List.cons_append, List.nil_append, List.append_nil, List.replicate, List.getElem?_cons_zero, List.getElem?_cons_succ, List.set_cons_zero, List.set_cons_succ, List.length_cons, List.length_nil, bind_ok, ofO_some, ofE_ok, oS_some, noX_ok, wp_ok, ws_nx, ws_rt, fz, dref, fIx, atI0, atI1, atI2, ixN_20, ixN_21, ixN_10, Option.map_some, fGt, fGe, fSub, fI, fI0, fAdd, fInt, fLen, lenD, outsOf, parOnly, notSlt, List.take_succ_cons, List.take_zero, if_true, if_false, Bool.false_eq_true, decide_true, decide_false, Bool.not_true, Bool.not_false, fIs, fIsNot, isNoneD, sTg, gmT, gmCons, gmN, gmNil, mPop, sAug, mExt, sPar, and_true, true_and, List.isEmpty_nil, List.isEmpty_cons, Nat.reduceAdd, Nat.reduceLeDiff, Nat.reduceLT, le_sz, lt_sz, fLt_i, fEq_i, fNe_i, fLe_i, dec0, if_pos hd, sPar]
            exact fin _ 2 (by omega) hd (gl [d, leaf, leaf] "if" 2 okw.2.2.2.2.2.2.2.2.1 (by omega) (by simp [okAll, g1, h1]) (by simp) (by simp only [wtAll]; omega) (by simp only [PyData.depthAll]; omega))
          | false =>
            simp only [sIf, ws_ofE, wp_bind, wp_noX, mTB, mTr, mNotT, mAndT, mOrT, mAnd, mOr, mNot, mIf, mNeg, mBin, bin2, mChain, mVar, mK, mB, mCall_eq, aNil, aCons, mTup, mLst, mSl, oNo, oSome, mIsi, anyT, isT, truD, sSet, setR, sRet, retR, sNil, sEx, sDvm, sSt, lstAt, putLst, drefs, dats, List.map_cons, List.map_nil, List.cons_append, List.nil_append, List.append_nil, List.replicate, List.getElem?_cons_zero, List.getElem?_cons_succ, List.set_cons_zero, List.set_cons_succ, List.length_cons, List.length_nil, bind_ok, ofO_some, ofE_ok, oS_some, noX_ok, wp_ok, ws_nx, ws_rt, fz, dref, fIx, atI0, atI1, atI2, ixN_20, ixN_21, ixN_10, Option.map_some, fGt, fGe, fSub, fI, fI0, fAdd, fInt, fLen, lenD, outsOf, parOnly, notSlt, List.take_succ_cons, List.take_zero, if_true, if_false, Bool.false_eq_true, decide_true, decide_false, Bool.not_true, Bool.not_false, fIs, fIsNot, isNoneD, sTg, gmT, gmCons, gmN, gmNil, mPop, sAug, mExt, sPar, and_true, true_and, List.isEmpty_nil, List.isEmpty_cons, Nat.reduceAdd, Nat.reduceLeDiff, Nat.reduceLT, le_sz, lt_sz, fLt_i, fEq_i, fNe_i, fLe_i, dec0, if_pos hd, sPar]
            exact fin _ 1 (by omega) (by omega) (gl [d] "not" 1 okw.2.2.2.2.1 (by omega) (by simp [okAll, g1, h1]) (by simp) (by simp only [wtAll]; omega) (by simp only [PyData.depthAll]; omega))
        · simp only [sIf, ws_ofE, wp_bind, wp_noX, mTB, mTr, mNotT, mAndT, mOrT, mAnd, mOr, mNot, mIf, mNeg, mBin, bin2, mChain, mVar, mK, mB, mCall_eq, aNil, aCons, mTup, mLst, mSl, oNo, oSome, mIsi, anyT, isT, truD, sSet, setR, sRet, retR, sNil, sEx, sDvm, sSt, lstAt, putLst, drefs, dats, List.map_cons, List.map_nil, List.cons_append, List.nil_append, List.append_nil, List.replicate, List.getElem?_cons_zero, List.getElem?_cons_succ, List.set_cons_zero, List.set_cons_succ, List.length_cons, List.length_nil, bind_ok, ofO_some, ofE_ok, oS_some, noX_ok, wp_ok, ws_nx, ws_rt, fz, dref, fIx, atI0, atI1, atI2, ixN_20, ixN_21, ixN_10, Option.map_some, fGt, fGe, fSub, fI, fI0, fAdd, fInt, fLen, lenD, outsOf, parOnly, notSlt, List.take_succ_cons, List.take_zero, if_true, if_false, Bool.false_eq_true, decide_true, decide_false, Bool.not_true, Bool.not_false, fIs, fIsNot, isNoneD, sTg, gmT, gmCons, gmN, gmNil, mPop, sAug, mExt, sPar, and_true, true_and, List.isEmpty_nil, List.isEmpty_cons, Nat.reduceAdd, Nat.reduceLeDiff, Nat.reduceLT, le_sz, lt_sz, fLt_i, fEq_i, fNe_i, fLe_i, dec0, if_neg hd, sPar]
          exact fin _ 1 (by omega) (by omega) (gl [d] "not" 1 okw.2.2.2.2.1 (by omega) (by simp [okAll, g1, h1]) (by simp) (by simp only [wtAll]; omega) (by simp only [PyData.depthAll]; omega))
      · simp only [sIf, ws_ofE, wp_bind, wp_noX, mTB, mTr, mNotT, mAndT, mOrT, mAnd, mOr, mNot, mIf, mNeg, mBin, bin2, mChain, mVar, mK, mB, mCall_eq, aNil, aCons, mTup, mLst, mSl, oNo, oSome, mIsi, anyT, isT, truD, sSet, setR, sRet, retR, sNil, sEx, sDvm, sSt, lstAt, putLst, drefs, dats, List.map_cons, List.map_nil, List.cons_append, List.nil_append, List.append_nil, List.replicate, List.getElem?_cons_zero, List.getElem?_cons_succ, List.set_cons_zero, List.set_cons_succ, List.length_cons, List.length_nil, bind_ok, ofO_some, ofE_ok, oS_some, noX_ok, wp_ok, ws_nx, ws_rt, fz, dref, fIx, atI0, atI1, atI2, ixN_20, ixN_21, ixN_10, Option.map_some, fGt, fGe, fSub, fI, fI0, fAdd, fInt, fLen, lenD, outsOf, parOnly, notSlt, List.take_succ_cons, List.take_zero, if_true, if_false, Bool.false_eq_true, decide_true, decide_false, Bool.not_true, Bool.not_false, fIs, fIsNot, isNoneD, sTg, gmT, gmCons, gmN, gmNil, mPop, sAug, mExt, sPar, and_true, true_and, List.isEmpty_nil, List.isEmpty_cons, Nat.reduceAdd, Nat.reduceLeDiff, Nat.reduceLT, le_sz, lt_sz, fLt_i, fEq_i, fNe_i, fLe_i, dec0, if_neg (show ¬ (1 : Int) = 0 by decide), sPar]
        exact fin _ 1 (by omega) (by omega) (gl [leaf, d] "and" 1 okw.2.2.2.2.2.1 (by omega) (by simp [okAll, g1, h1]) (by simp) (by simp only [wtAll]; omega) (by simp only [PyData.depthAll]; omega))
      · simp only [sIf, ws_ofE, wp_bind, wp_noX, mTB, mTr, mNotT, mAndT, mOrT, mAnd, mOr, mNot, mIf, mNeg, mBin, bin2, mChain, mVar, mK, mB, mCall_eq, aNil, aCons, mTup, mLst, mSl, oNo, oSome, mIsi, anyT, isT, truD, sSet, setR, sRet, retR, sNil, sEx, sDvm, sSt, lstAt, putLst, drefs, dats, List.map_cons, List.map_nil, List.cons_append, List.nil_append, List.append_nil, List.replicate, List.getElem?_cons_zero, List.getElem?_cons_succ, List.set_cons_zero, List.set_cons_succ, List.length_cons, List.length_nil, bind_ok, ofO_some, ofE_ok, oS_some, noX_ok, wp_ok, ws_nx, ws_rt, fz, dref, fIx, atI0, atI1, atI2, ixN_20, ixN_21, ixN_10, Option.map_some, fGt, fGe, fSub, fI, fI0, fAdd, fInt, fLen, lenD, outsOf, parOnly, notSlt, List.take_succ_cons, List.take_zero, if_true, if_false, Bool.false_eq_true, decide_true, decide_false, Bool.not_true, Bool.not_false, fIs, fIsNot, isNoneD, sTg, gmT, gmCons, gmN, gmNil, mPop, sAug, mExt, sPar, and_true, true_and, List.isEmpty_nil, List.isEmpty_cons, Nat.reduceAdd, Nat.reduceLeDiff, Nat.reduceLT, le_sz, lt_sz, fLt_i, fEq_i, fNe_i, fLe_i, dec0, if_neg (show ¬ (2 : Int) = 0 by decide), sPar]
        exact fin _ 1 (by omega) (by omega) (gl [d, leaf] "same" 1 okw.2.2.2.2.2.2.2.1 (by omega) (by simp [okAll, g1, h1]) (by simp) (by simp only [wtAll]; omega) (by simp only [PyData.depthAll]; omega))
      · simp only [sIf, ws_ofE, wp_bind, wp_noX, mTB, mTr, mNotT, mAndT, mOrT, mAnd, mOr, mNot, mIf, mNeg, mBin, bin2, mChain, mVar, mK, mB, mCall_eq, aNil, aCons, mTup, mLst, mSl, oNo, oSome, mIsi, anyT, isT, truD, sSet, setR, sRet, retR, sNil, sEx, sDvm, sSt, lstAt, putLst, drefs, dats, List.map_cons, List.map_nil, List.cons_append, List.nil_append, List.append_nil, List.replicate, List.getElem?_cons_zero, List.getElem?_cons_succ, List.set_cons_zero, List.set_cons_succ, List.length_cons, List.length_nil, bind_ok, ofO_some, ofE_ok, oS_some, noX_ok, wp_ok, ws_nx, ws_rt, fz, dref, fIx, atI0, atI1, atI2, ixN_20, ixN_21, ixN_10, Option.map_some, fGt, fGe, fSub, fI, fI0, fAdd, fInt, fLen, lenD, outsOf, parOnly, notSlt, List.take_succ_cons, List.take_zero, if_true, if_false, Bool.false_eq_true, decide_true, decide_false, Bool.not_true, Bool.not_false, fIs, fIsNot, isNoneD, sTg, gmT, gmCons, gmN, gmNil, mPop, sAug, mExt, sPar, and_true, true_and, List.isEmpty_nil, List.isEmpty_cons, Nat.reduceAdd, Nat.reduceLeDiff, Nat.reduceLT, le_sz, lt_sz, fLt_i, fEq_i, fNe_i, fLe_i, dec0, if_neg (show ¬ (3 : Int) = 0 by decide), sPar, atI3]
        exact fin _ 1 (by omega) (by omega) (gl [leaf, d, leaf] "if" 1 okw.2.2.2.2.2.2.2.2.1 (by omega) (by simp [okAll, g1, h1]) (by simp) (by simp only [wtAll]; omega) (by simp only [PyData.depthAll]; omega))
    · simp only [sIf, ws_ofE, wp_bind, wp_noX, mTB, mTr, mNotT, mAndT, mOrT, mAnd, mOr, mNot, mIf, mNeg, mBin, bin2, mChain, mVar, mK, mB, mCall_eq, aNil, aCons, mTup, mLst, mSl, oNo, oSome, mIsi, anyT, isT, truD, sSet, setR, sRet, retR, sNil, sEx, sDvm, sSt, lstAt, putLst, drefs, dats, List.map_cons, List.map_nil, List.cons_append, List.nil_append, List.append_nil, List.replicate, List.getElem?_cons_zero, List.getElem?_cons_succ, List.set_cons_zero, List.set_cons_succ, List.length_cons, List.length_nil, bind_ok, ofO_some, ofE_ok, oS_some, noX_ok, wp_ok, ws_nx, ws_rt, fz, dref, fIx, atI0, atI1, atI2, ixN_20, ixN_21, ixN_10, Option.map_some, fGt, fGe, fSub, fI, fI0, fAdd, fInt, fLen, lenD, outsOf, parOnly, notSlt, List.take_succ_cons, List.take_zero, if_true, if_false, Bool.false_eq_true, decide_true, decide_false, Bool.not_true, Bool.not_false, fIs, fIsNot, isNoneD, sTg, gmT, gmCons, gmN, gmNil, mPop, sAug, mExt, sPar, and_true, true_and, List.isEmpty_nil, List.isEmpty_cons, Nat.reduceAdd, Nat.reduceLeDiff, Nat.reduceLT, le_sz, lt_sz, fLt_i, fEq_i, fNe_i, fLe_i, dec0, if_neg hlt]
      have : here = deep := by omega
      subst this
      exact ⟨a, s, d, _, _, hs, ⟨g1, g2, g3⟩, rfl⟩
  · obtain ⟨a, s, d, x, y, hs, g, rfl⟩ := hρ
    simp only [sIf, ws_ofE, wp_bind, wp_noX, mTB, mTr, mNotT, mAndT, mOrT, mAnd, mOr, mNot, mIf, mNeg, mBin, bin2, mChain, mVar, mK, mB, mCall_eq, aNil, aCons, mTup, mLst, mSl, oNo, oSome, mIsi, anyT, isT, truD, sSet, setR, sRet, retR, sNil, sEx, sDvm, sSt, lstAt, putLst, drefs, dats, List.map_cons, List.map_nil, List.cons_append, List.nil_append, List.append_nil, List.replicate, List.getElem?_cons_zero, List.getElem?_cons_succ, List.set_cons_zero, List.set_cons_succ, List.length_cons, List.length_nil, bind_ok, ofO_some, ofE_ok, oS_some, noX_ok, wp_ok, ws_nx, ws_rt, fz, dref, fIx, atI0, atI1, atI2, ixN_20, ixN_21, ixN_10, Option.map_some, fGt, fGe, fSub, fI, fI0, fAdd, fInt, fLen, lenD, outsOf, parOnly, notSlt, List.take_succ_cons, List.take_zero, if_true, if_false, Bool.false_eq_true, decide_true, decide_false, Bool.not_true, Bool.not_false, fIs, fIsNot, isNoneD, sTg, gmT, gmCons, gmN, gmNil, mPop, sAug, mExt, sPar, and_true, true_and, List.isEmpty_nil, List.isEmpty_cons, Nat.reduceAdd, Nat.reduceLeDiff, Nat.reduceLT, le_sz, lt_sz, fLt_i, fEq_i, fNe_i, fLe_i, dec0]
    exact ⟨⟨d, rfl, g⟩, a, s, _, hs, rfl⟩
end Lw
end Vl

set_option Elab.async false
set_option linter.all false
set_option maxRecDepth 100000
namespace Vl
open PySem PySem.Spec PyProof.Rows L2
theorem okAll_iff : ∀ {ds : List D}, okAll ds = true ↔ ∀ d ∈ ds, okD d = true
  | [] => by simp [okAll]
  | d :: ds => by
    simp only [okAll, Bool.and_eq_true, okAll_iff (ds := ds), List.forall_mem_cons]
theorem depAll_iff {n : Nat} : ∀ {ds : List D}, PyData.depthAll ds ≤ n ↔ ∀ d ∈ ds, d.depth ≤ n
  | [] => by simp [PyData.depthAll]
  | d :: ds => by
    have := depAll_iff (n := n) (ds := ds)
    simp only [PyData.depthAll, List.forall_mem_cons, ← this]
    omega
theorem wtAll_app : ∀ ds es : List D, wtAll (ds ++ es) = wtAll ds + wtAll es
  | [], es => by simp [wtAll]
  | d :: ds, es => by
    show wt d + wtAll (ds ++ es) = wt d + wtAll ds + wtAll es
    rw [wtAll_app ds es]; omega
theorem wtAll_take (ds : List D) (n : Nat) : wtAll (ds.take n) + wtAll (ds.drop n) = wtAll ds := by
  rw [← wtAll_app, List.take_append_drop]
theorem wtAll_rev : ∀ ds : List D, wtAll ds.reverse = wtAll ds
  | [] => rfl
  | d :: ds => by
    rw [List.reverse_cons, wtAll_app, wtAll_rev ds]
    simp only [wtAll]; omega
theorem wtAll_set : ∀ (ds : List D) (i : Nat) (d e : D), ds[i]? = some e → wtAll (ds.set i d) + wt e = wtAll ds + wt d
  | [], i, d, e, h => by simp at h
  | a :: ds, 0, d, e, h => by
    simp at h; subst h
    simp only [List.set_cons_zero, wtAll]; omega
  | a :: ds, i + 1, d, e, h => by
    have := wtAll_set ds i d e (by simpa using h)
    simp only [List.set_cons_succ, wtAll]; omega
theorem wt_mem : ∀ {ds : List D} {d : D}, d ∈ ds → wt d ≤ wtAll ds
  | a :: ds, d, h => by
    simp only [wtAll]
    rcases List.mem_cons.mp h with rfl | h
    · omega
    · have := wt_mem h; omega
theorem wt_pos (d : D) : 1 ≤ wt d := by cases d <;> simp only [wt] <;> omega
theorem cut_sub {α : Type} {ds : List α} {lo hi : Option Int} : (∀ d ∈ cutD ds lo hi, d ∈ ds) ∧ (cutD ds lo hi).length ≤ ds.length := by
  unfold cutD
  refine ⟨fun d h => List.mem_of_mem_drop (List.mem_of_mem_take h), ?_⟩
  rw [List.length_take, List.length_drop]; omega
theorem cut_wt (ds : List D) (lo hi : Option Int) : wtAll (cutD ds lo hi) ≤ wtAll ds := by
  unfold cutD
  have h1 := wtAll_take ds (HT.sIx ds.length 0 lo)
  have h2 := wtAll_take (ds.drop (HT.sIx ds.length 0 lo)) (HT.sIx ds.length ds.length hi - HT.sIx ds.length 0 lo)
  omega
namespace Lw
theorem ws_both {a b : SM} {ρ : List Sl} {M N : List Sl → Prop} {R : Res → List Sl → Prop} (h : Ws (a ρ) M R) (g : ∀ ρ', M ρ' → Ws (b ρ') N R) : Ws (sSeq a b ρ) N R := by
  rw [ws_seq]
  exact h.mono g fun _ _ k => k
def Gb (w p : Nat) (d : D) : Prop := okD d = true ∧ wt d ≤ 2 * w + 10 ∧ d.depth ≤ p + 3
theorem gb_small {w p : Nat} {d : D} (h : okD d = true ∧ wt d ≤ 5 ∧ d.depth ≤ 3) : Gb w p d := ⟨h.1, by omega, by omega⟩
theorem gb_tup {ds es : List D} (ho : okAll ds = true) (hs : ∀ d ∈ es, d ∈ ds) (hl : es.length ≤ 9) (hw : wtAll es ≤ 2 * wtAll ds) : Gb (1 + wtAll ds) (PyData.depthAll ds + 1) (.tuple es) := by
  have h1 : okAll es = true := okAll_iff.mpr fun d hd => okAll_iff.mp ho d (hs d hd)
  have h2 : PyData.depthAll es ≤ PyData.depthAll ds := depAll_iff.mpr fun d hd => depAll_iff.mp (Nat.le_refl _) d (hs d hd)
  refine ⟨?_, ?_, ?_⟩
  · simp only [okD, h1, hd_short hl, Bool.and_self]
  · simp only [wt]; omega
  · simp only [PyData.depth]; omega
theorem bent_ok : ∀ (n : Nat) (value : D), nb value = true → value.depth < n → Pf (M__law_bent n) [value] (Gr (Gb (wt value) value.depth))
  | 0, value, _, h => by omega
  | n + 1, .none, h, _ => by simp [nb] at h
  | n + 1, .bool _, h, _ => by simp [nb] at h
  | n + 1, .list _, h, _ => by simp [nb] at h
  | n + 1, .dict _, h, _ => by simp [nb] at h
  | n + 1, .int i, h, _ => by
    intro a s hs
    simp only [nb, decide_eq_true_eq] at h
    show Wp (fnM _ _ _ _) _
    obtain ⟨k1, k2⟩ := str_ok (i := i) (by omega) (by omega)
    refine wp_fn (ws_nxc (by simp only [sIf, ws_ofE, wp_bind, wp_noX, mTB, mTr, mNotT, mAndT, mOrT, mAnd, mOr, mNot, mIf, mNeg, mBin, bin2, mChain, mVar, mK, mB, mCall_eq, aNil, aCons, mTup, mLst, mSl, oNo, oSome, mIsi, anyT, isT, truD, sSet, setR, sRet, retR, sNil, sEx, sDvm, sSt, lstAt, putLst, drefs, dats, List.map_cons, List.map_nil, List.cons_append, List.nil_append, List.append_nil, List.replicate, List.getElem?_cons_zero, List.getElem?_cons_succ, List.set_cons_zero, List.set_cons_succ, List.length_cons, List.length_nil, bind_ok, ofO_some, ofE_ok, oS_some, noX_ok, wp_ok, ws_nx, ws_rt, fz, dref, fIx, atI0, atI1, atI2, ixN_20, ixN_21, ixN_10, Option.map_some, fGt, fGe, fSub, fI, fI0, fAdd, fInt, fLen, lenD, outsOf, parOnly, notSlt, List.take_succ_cons, List.take_zero, if_true, if_false, Bool.false_eq_true, decide_true, decide_false, Bool.not_true, Bool.not_false, fIs, fIsNot, isNoneD, sTg, gmT, gmCons, gmN, gmNil, mPop, sAug, mExt, sPar, and_true, true_and, List.isEmpty_nil, List.isEmpty_cons, Nat.reduceAdd, Nat.reduceLeDiff, Nat.reduceLT, le_sz, lt_sz, fLt_i, fEq_i, fNe_i, fLe_i, dec0]; exact rfl) (ws_nxc (by simp only [sIf, ws_ofE, wp_bind, wp_noX, mTB, mTr, mNotT, mAndT, mOrT, mAnd, mOr, mNot, mIf, mNeg, mBin, bin2, mChain, mVar, mK, mB, mCall_eq, aNil, aCons, mTup, mLst, mSl, oNo, oSome, mIsi, anyT, isT, truD, sSet, setR, sRet, retR, sNil, sEx, sDvm, sSt, lstAt, putLst, drefs, dats, List.map_cons, List.map_nil, List.cons_append, List.nil_append, List.append_nil, List.replicate, List.getElem?_cons_zero, List.getElem?_cons_succ, List.set_cons_zero, List.set_cons_succ, List.length_cons, List.length_nil, bind_ok, ofO_some, ofE_ok, oS_some, noX_ok, wp_ok, ws_nx, ws_rt, fz, dref, fIx, atI0, atI1, atI2, ixN_20, ixN_21, ixN_10, Option.map_some, fGt, fGe, fSub, fI, fI0, fAdd, fInt, fLen, lenD, outsOf, parOnly, notSlt, List.take_succ_cons, List.take_zero, if_true, if_false, Bool.false_eq_true, decide_true, decide_false, Bool.not_true, Bool.not_false, fIs, fIsNot, isNoneD, sTg, gmT, gmCons, gmN, gmNil, mPop, sAug, mExt, sPar, and_true, true_and, List.isEmpty_nil, List.isEmpty_cons, Nat.reduceAdd, Nat.reduceLeDiff, Nat.reduceLT, le_sz, lt_sz, fLt_i, fEq_i, fNe_i, fLe_i, dec0]; exact rfl) (ws_rtc ?_)))
    simp only [sIf, ws_ofE, wp_bind, wp_noX, mTB, mTr, mNotT, mAndT, mOrT, mAnd, mOr, mNot, mIf, mNeg, mBin, bin2, mChain, mVar, mK, mB, mCall_eq, aNil, aCons, mTup, mLst, mSl, oNo, oSome, mIsi, anyT, isT, truD, sSet, setR, sRet, retR, sNil, sEx, sDvm, sSt, lstAt, putLst, drefs, dats, List.map_cons, List.map_nil, List.cons_append, List.nil_append, List.append_nil, List.replicate, List.getElem?_cons_zero, List.getElem?_cons_succ, List.set_cons_zero, List.set_cons_succ, List.length_cons, List.length_nil, bind_ok, ofO_some, ofE_ok, oS_some, noX_ok, wp_ok, ws_nx, ws_rt, fz, dref, fIx, atI0, atI1, atI2, ixN_20, ixN_21, ixN_10, Option.map_some, fGt, fGe, fSub, fI, fI0, fAdd, fInt, fLen, lenD, outsOf, parOnly, notSlt, List.take_succ_cons, List.take_zero, if_true, if_false, Bool.false_eq_true, decide_true, decide_false, Bool.not_true, Bool.not_false, fIs, fIsNot, isNoneD, sTg, gmT, gmCons, gmN, gmNil, mPop, sAug, mExt, sPar, and_true, true_and, List.isEmpty_nil, List.isEmpty_cons, Nat.reduceAdd, Nat.reduceLeDiff, Nat.reduceLT, le_sz, lt_sz, fLt_i, fEq_i, fNe_i, fLe_i, dec0, fStr, if_pos k2]
    refine call_pot (ds := [.list _]) (pick_ok (by simp) (by simp)) hs fun a s r hs hr => ?_
    obtain ⟨d, rfl, hd⟩ := hr
    simp only [sIf, ws_ofE, wp_bind, wp_noX, mTB, mTr, mNotT, mAndT, mOrT, mAnd, mOr, mNot, mIf, mNeg, mBin, bin2, mChain, mVar, mK, mB, mCall_eq, aNil, aCons, mTup, mLst, mSl, oNo, oSome, mIsi, anyT, isT, truD, sSet, setR, sRet, retR, sNil, sEx, sDvm, sSt, lstAt, putLst, drefs, dats, List.map_cons, List.map_nil, List.cons_append, List.nil_append, List.append_nil, List.replicate, List.getElem?_cons_zero, List.getElem?_cons_succ, List.set_cons_zero, List.set_cons_succ, List.length_cons, List.length_nil, bind_ok, ofO_some, ofE_ok, oS_some, noX_ok, wp_ok, ws_nx, ws_rt, fz, dref, fIx, atI0, atI1, atI2, ixN_20, ixN_21, ixN_10, Option.map_some, fGt, fGe, fSub, fI, fI0, fAdd, fInt, fLen, lenD, outsOf, parOnly, notSlt, List.take_succ_cons, List.take_zero, if_true, if_false, Bool.false_eq_true, decide_true, decide_false, Bool.not_true, Bool.not_false, fIs, fIsNot, isNoneD, sTg, gmT, gmCons, gmN, gmNil, mPop, sAug, mExt, sPar, and_true, true_and, List.isEmpty_nil, List.isEmpty_cons, Nat.reduceAdd, Nat.reduceLeDiff, Nat.reduceLT, le_sz, lt_sz, fLt_i, fEq_i, fNe_i, fLe_i, dec0]
    have o1 := okI_small (i := i + 1) (by omega) (by omega)
    have o2 := okI_small (i := i - 1) (by omega) (by omega)
    have o3 := okI_small (i := -i) (by omega) (by omega)
    have o4 := okI_small (i := i) (by omega) (by omega)
    refine ⟨⟨d, rfl, gb_small ?_⟩, a, s, _, hs, rfl⟩
    simp only [List.mem_cons, List.not_mem_nil, or_false] at hd
    rcases hd with rfl | rfl | rfl | rfl | rfl | rfl | rfl | rfl | rfl | rfl | rfl <;> first | decide +kernel | exact ⟨by simp only [okD]; assumption, by simp [wt], by simp [PyData.depth]⟩ | (simp [okD, okAll, hdOk, wt, wtAll, PyData.depth, PyData.depthAll, o4]; done)
  | n + 1, .str x, h, _ => by
    intro a s hs
    simp only [nb] at h
    obtain ⟨w1, w2, w3, w4, w5⟩ := words_ok x (isW_mem h)
    have hl : x.length ≤ sizeLine := by rw [sizeLine_eq]; omega
    show Wp (fnM _ _ _ _) _
    refine wp_fn (ws_nxc (by simp only [sIf, ws_ofE, wp_bind, wp_noX, mTB, mTr, mNotT, mAndT, mOrT, mAnd, mOr, mNot, mIf, mNeg, mBin, bin2, mChain, mVar, mK, mB, mCall_eq, aNil, aCons, mTup, mLst, mSl, oNo, oSome, mIsi, anyT, isT, truD, sSet, setR, sRet, retR, sNil, sEx, sDvm, sSt, lstAt, putLst, drefs, dats, List.map_cons, List.map_nil, List.cons_append, List.nil_append, List.append_nil, List.replicate, List.getElem?_cons_zero, List.getElem?_cons_succ, List.set_cons_zero, List.set_cons_succ, List.length_cons, List.length_nil, bind_ok, ofO_some, ofE_ok, oS_some, noX_ok, wp_ok, ws_nx, ws_rt, fz, dref, fIx, atI0, atI1, atI2, ixN_20, ixN_21, ixN_10, Option.map_some, fGt, fGe, fSub, fI, fI0, fAdd, fInt, fLen, lenD, outsOf, parOnly, notSlt, List.take_succ_cons, List.take_zero, if_true, if_false, Bool.false_eq_true, decide_true, decide_false, Bool.not_true, Bool.not_false, fIs, fIsNot, isNoneD, sTg, gmT, gmCons, gmN, gmNil, mPop, sAug, mExt, sPar, and_true, true_and, List.isEmpty_nil, List.isEmpty_cons, Nat.reduceAdd, Nat.reduceLeDiff, Nat.reduceLT, le_sz, lt_sz, fLt_i, fEq_i, fNe_i, fLe_i, dec0]; exact rfl) (ws_nxc (by simp only [sIf, ws_ofE, wp_bind, wp_noX, mTB, mTr, mNotT, mAndT, mOrT, mAnd, mOr, mNot, mIf, mNeg, mBin, bin2, mChain, mVar, mK, mB, mCall_eq, aNil, aCons, mTup, mLst, mSl, oNo, oSome, mIsi, anyT, isT, truD, sSet, setR, sRet, retR, sNil, sEx, sDvm, sSt, lstAt, putLst, drefs, dats, List.map_cons, List.map_nil, List.cons_append, List.nil_append, List.append_nil, List.replicate, List.getElem?_cons_zero, List.getElem?_cons_succ, List.set_cons_zero, List.set_cons_succ, List.length_cons, List.length_nil, bind_ok, ofO_some, ofE_ok, oS_some, noX_ok, wp_ok, ws_nx, ws_rt, fz, dref, fIx, atI0, atI1, atI2, ixN_20, ixN_21, ixN_10, Option.map_some, fGt, fGe, fSub, fI, fI0, fAdd, fInt, fLen, lenD, outsOf, parOnly, notSlt, List.take_succ_cons, List.take_zero, if_true, if_false, Bool.false_eq_true, decide_true, decide_false, Bool.not_true, Bool.not_false, fIs, fIsNot, isNoneD, sTg, gmT, gmCons, gmN, gmNil, mPop, sAug, mExt, sPar, and_true, true_and, List.isEmpty_nil, List.isEmpty_cons, Nat.reduceAdd, Nat.reduceLeDiff, Nat.reduceLT, le_sz, lt_sz, fLt_i, fEq_i, fNe_i, fLe_i, dec0]; exact rfl) (ws_nxc (by simp only [sIf, ws_ofE, wp_bind, wp_noX, mTB, mTr, mNotT, mAndT, mOrT, mAnd, mOr, mNot, mIf, mNeg, mBin, bin2, mChain, mVar, mK, mB, mCall_eq, aNil, aCons, mTup, mLst, mSl, oNo, oSome, mIsi, anyT, isT, truD, sSet, setR, sRet, retR, sNil, sEx, sDvm, sSt, lstAt, putLst, drefs, dats, List.map_cons, List.map_nil, List.cons_append, List.nil_append, List.append_nil, List.replicate, List.getElem?_cons_zero, List.getElem?_cons_succ, List.set_cons_zero, List.set_cons_succ, List.length_cons, List.length_nil, bind_ok, ofO_some, ofE_ok, oS_some, noX_ok, wp_ok, ws_nx, ws_rt, fz, dref, fIx, atI0, atI1, atI2, ixN_20, ixN_21, ixN_10, Option.map_some, fGt, fGe, fSub, fI, fI0, fAdd, fInt, fLen, lenD, outsOf, parOnly, notSlt, List.take_succ_cons, List.take_zero, if_true, if_false, Bool.false_eq_true, decide_true, decide_false, Bool.not_true, Bool.not_false, fIs, fIsNot, isNoneD, sTg, gmT, gmCons, gmN, gmNil, mPop, sAug, mExt, sPar, and_true, true_and, List.isEmpty_nil, List.isEmpty_cons, Nat.reduceAdd, Nat.reduceLeDiff, Nat.reduceLT, le_sz, lt_sz, fLt_i, fEq_i, fNe_i, fLe_i, dec0]; exact rfl) (ws_rtc ?_))))
    have hx : x.length + ("x" : Str).length ≤ sizeLine := by
      have e : ("x" : Str).length = 1 := rfl
      rw [sizeLine_eq, e]; omega
    have hu : x.length ≤ 5592405 := by omega
    simp only [sIf, ws_ofE, wp_bind, wp_noX, mTB, mTr, mNotT, mAndT, mOrT, mAnd, mOr, mNot, mIf, mNeg, mBin, bin2, mChain, mVar, mK, mB, mCall_eq, aNil, aCons, mTup, mLst, mSl, oNo, oSome, mIsi, anyT, isT, truD, sSet, setR, sRet, retR, sNil, sEx, sDvm, sSt, lstAt, putLst, drefs, dats, List.map_cons, List.map_nil, List.cons_append, List.nil_append, List.append_nil, List.replicate, List.getElem?_cons_zero, List.getElem?_cons_succ, List.set_cons_zero, List.set_cons_succ, List.length_cons, List.length_nil, bind_ok, ofO_some, ofE_ok, oS_some, noX_ok, wp_ok, ws_nx, ws_rt, fz, dref, fIx, atI0, atI1, atI2, ixN_20, ixN_21, ixN_10, Option.map_some, fGt, fGe, fSub, fI, fI0, fAdd, fInt, fLen, lenD, outsOf, parOnly, notSlt, List.take_succ_cons, List.take_zero, if_true, if_false, Bool.false_eq_true, decide_true, decide_false, Bool.not_true, Bool.not_false, fIs, fIsNot, isNoneD, sTg, gmT, gmCons, gmN, gmNil, mPop, sAug, mExt, sPar, and_true, true_and, List.isEmpty_nil, List.isEmpty_cons, Nat.reduceAdd, Nat.reduceLeDiff, Nat.reduceLT, le_sz, lt_sz, fLt_i, fEq_i, fNe_i, fLe_i, dec0, ws_seq, if_pos hx, fSl, if_pos hl, mUpper, if_pos hu]
    refine call_pot (ds := [.list _]) (pick_ok (by simp) (by simp)) hs fun a s r hs hr => ?_
    obtain ⟨d, rfl, hd⟩ := hr
    simp only [sIf, ws_ofE, wp_bind, wp_noX, mTB, mTr, mNotT, mAndT, mOrT, mAnd, mOr, mNot, mIf, mNeg, mBin, bin2, mChain, mVar, mK, mB, mCall_eq, aNil, aCons, mTup, mLst, mSl, oNo, oSome, mIsi, anyT, isT, truD, sSet, setR, sRet, retR, sNil, sEx, sDvm, sSt, lstAt, putLst, drefs, dats, List.map_cons, List.map_nil, List.cons_append, List.nil_append, List.append_nil, List.replicate, List.getElem?_cons_zero, List.getElem?_cons_succ, List.set_cons_zero, List.set_cons_succ, List.length_cons, List.length_nil, bind_ok, ofO_some, ofE_ok, oS_some, noX_ok, wp_ok, ws_nx, ws_rt, fz, dref, fIx, atI0, atI1, atI2, ixN_20, ixN_21, ixN_10, Option.map_some, fGt, fGe, fSub, fI, fI0, fAdd, fInt, fLen, lenD, outsOf, parOnly, notSlt, List.take_succ_cons, List.take_zero, if_true, if_false, Bool.false_eq_true, decide_true, decide_false, Bool.not_true, Bool.not_false, fIs, fIsNot, isNoneD, sTg, gmT, gmCons, gmN, gmNil, mPop, sAug, mExt, sPar, and_true, true_and, List.isEmpty_nil, List.isEmpty_cons, Nat.reduceAdd, Nat.reduceLeDiff, Nat.reduceLT, le_sz, lt_sz, fLt_i, fEq_i, fNe_i, fLe_i, dec0]
    refine ⟨⟨d, rfl, gb_small ?_⟩, a, s, _, hs, rfl⟩
    simp only [List.mem_cons, List.not_mem_nil, or_false] at hd
    rcases hd with rfl | rfl | rfl | rfl | rfl | rfl | rfl | rfl | rfl | rfl | rfl | rfl | rfl | rfl | rfl | rfl | rfl | rfl | rfl | rfl | rfl | rfl <;> first | decide +kernel | (simp [okD, okAll, hdOk, wt, wtAll, PyData.depth, PyData.depthAll, w1, w3, w4, w5]; done)
  | n + 1, .tuple ds, h, hn => by
    intro a s hs
    simp only [nb, Bool.and_eq_true, decide_eq_true_eq] at h
    obtain ⟨hlen, hnb⟩ := h
    have ho := nbAll_ok ds hnb
    have hsz : ds.length ≤ sizeLine := by rw [sizeLine_eq]; omega
    have ewt : wt (.tuple ds) = 1 + wtAll ds := by simp only [wt]
    have edp : (PyData.tuple ds).depth = PyData.depthAll ds + 1 := by simp only [PyData.depth]
    rw [ewt, edp]
    show Wp (fnM _ _ _ _) _
    refine wp_fn (ws_both (M := fun ρ => ∃ a s, PotOk s ∧ ρ = [Pt a s, .dat (.tuple ds), .non, .non, .non]) ?_ fun ρ hρ => ?_)
    · simp only [sIf, ws_ofE, wp_bind, wp_noX, mTB, mTr, mNotT, mAndT, mOrT, mAnd, mOr, mNot, mIf, mNeg, mBin, bin2, mChain, mVar, mK, mB, mCall_eq, aNil, aCons, mTup, mLst, mSl, oNo, oSome, mIsi, anyT, isT, truD, sSet, setR, sRet, retR, sNil, sEx, sDvm, sSt, lstAt, putLst, drefs, dats, List.map_cons, List.map_nil, List.cons_append, List.nil_append, List.append_nil, List.replicate, List.getElem?_cons_zero, List.getElem?_cons_succ, List.set_cons_zero, List.set_cons_succ, List.length_cons, List.length_nil, bind_ok, ofO_some, ofE_ok, oS_some, noX_ok, wp_ok, ws_nx, ws_rt, fz, dref, fIx, atI0, atI1, atI2, ixN_20, ixN_21, ixN_10, Option.map_some, fGt, fGe, fSub, fI, fI0, fAdd, fInt, fLen, lenD, outsOf, parOnly, notSlt, List.take_succ_cons, List.take_zero, if_true, if_false, Bool.false_eq_true, decide_true, decide_false, Bool.not_true, Bool.not_false, fIs, fIsNot, isNoneD, sTg, gmT, gmCons, gmN, gmNil, mPop, sAug, mExt, sPar, and_true, true_and, List.isEmpty_nil, List.isEmpty_cons, Nat.reduceAdd, Nat.reduceLeDiff, Nat.reduceLT, le_sz, lt_sz, fLt_i, fEq_i, fNe_i, fLe_i, dec0]
      by_cases h0 : (0 : Int) < (ds.length : Int)
      · simp only [sIf, ws_ofE, wp_bind, wp_noX, mTB, mTr, mNotT, mAndT, mOrT, mAnd, mOr, mNot, mIf, mNeg, mBin, bin2, mChain, mVar, mK, mB, mCall_eq, aNil, aCons, mTup, mLst, mSl, oNo, oSome, mIsi, anyT, isT, truD, sSet, setR, sRet, retR, sNil, sEx, sDvm, sSt, lstAt, putLst, drefs, dats, List.map_cons, List.map_nil, List.cons_append, List.nil_append, List.append_nil, List.replicate, List.getElem?_cons_zero, List.getElem?_cons_succ, List.set_cons_zero, List.set_cons_succ, List.length_cons, List.length_nil, bind_ok, ofO_some, ofE_ok, oS_some, noX_ok, wp_ok, ws_nx, ws_rt, fz, dref, fIx, atI0, atI1, atI2, ixN_20, ixN_21, ixN_10, Option.map_some, fGt, fGe, fSub, fI, fI0, fAdd, fInt, fLen, lenD, outsOf, parOnly, notSlt, List.take_succ_cons, List.take_zero, if_true, if_false, Bool.false_eq_true, decide_true, decide_false, Bool.not_true, Bool.not_false, fIs, fIsNot, isNoneD, sTg, gmT, gmCons, gmN, gmNil, mPop, sAug, mExt, sPar, and_true, true_and, List.isEmpty_nil, List.isEmpty_cons, Nat.reduceAdd, Nat.reduceLeDiff, Nat.reduceLT, le_sz, lt_sz, fLt_i, fEq_i, fNe_i, fLe_i, dec0, if_pos h0]
        refine call_pot (ds := [.int 7]) (draw_ok (by decide) (by decide)) hs fun a s r hs hr => ?_
        obtain ⟨x, rfl, x0, x1⟩ := hr
        simp only [sIf, ws_ofE, wp_bind, wp_noX, mTB, mTr, mNotT, mAndT, mOrT, mAnd, mOr, mNot, mIf, mNeg, mBin, bin2, mChain, mVar, mK, mB, mCall_eq, aNil, aCons, mTup, mLst, mSl, oNo, oSome, mIsi, anyT, isT, truD, sSet, setR, sRet, retR, sNil, sEx, sDvm, sSt, lstAt, putLst, drefs, dats, List.map_cons, List.map_nil, List.cons_append, List.nil_append, List.append_nil, List.replicate, List.getElem?_cons_zero, List.getElem?_cons_succ, List.set_cons_zero, List.set_cons_succ, List.length_cons, List.length_nil, bind_ok, ofO_some, ofE_ok, oS_some, noX_ok, wp_ok, ws_nx, ws_rt, fz, dref, fIx, atI0, atI1, atI2, ixN_20, ixN_21, ixN_10, Option.map_some, fGt, fGe, fSub, fI, fI0, fAdd, fInt, fLen, lenD, outsOf, parOnly, notSlt, List.take_succ_cons, List.take_zero, if_true, if_false, Bool.false_eq_true, decide_true, decide_false, Bool.not_true, Bool.not_false, fIs, fIsNot, isNoneD, sTg, gmT, gmCons, gmN, gmNil, mPop, sAug, mExt, sPar, and_true, true_and, List.isEmpty_nil, List.isEmpty_cons, Nat.reduceAdd, Nat.reduceLeDiff, Nat.reduceLT, le_sz, lt_sz, fLt_i, fEq_i, fNe_i, fLe_i, dec0]
        by_cases hx : 0 < x
        · simp only [sIf, ws_ofE, wp_bind, wp_noX, mTB, mTr, mNotT, mAndT, mOrT, mAnd, mOr, mNot, mIf, mNeg, mBin, bin2, mChain, mVar, mK, mB, mCall_eq, aNil, aCons, mTup, mLst, mSl, oNo, oSome, mIsi, anyT, isT, truD, sSet, setR, sRet, retR, sNil, sEx, sDvm, sSt, lstAt, putLst, drefs, dats, List.map_cons, List.map_nil, List.cons_append, List.nil_append, List.append_nil, List.replicate, List.getElem?_cons_zero, List.getElem?_cons_succ, List.set_cons_zero, List.set_cons_succ, List.length_cons, List.length_nil, bind_ok, ofO_some, ofE_ok, oS_some, noX_ok, wp_ok, ws_nx, ws_rt, fz, dref, fIx, atI0, atI1, atI2, ixN_20, ixN_21, ixN_10, Option.map_some, fGt, fGe, fSub, fI, fI0, fAdd, fInt, fLen, lenD, outsOf, parOnly, notSlt, List.take_succ_cons, List.take_zero, if_true, if_false, Bool.false_eq_true, decide_true, decide_false, Bool.not_true, Bool.not_false, fIs, fIsNot, isNoneD, sTg, gmT, gmCons, gmN, gmNil, mPop, sAug, mExt, sPar, and_true, true_and, List.isEmpty_nil, List.isEmpty_cons, Nat.reduceAdd, Nat.reduceLeDiff, Nat.reduceLT, le_sz, lt_sz, fLt_i, fEq_i, fNe_i, fLe_i, dec0, if_pos hx]
          refine ws_cut (M := fun ρ => ∃ a s at_ w, PotOk s ∧ 0 ≤ at_ ∧ at_ < (ds.length : Int) ∧ ρ = [Pt a s, .dat (.tuple ds), .dat (.int at_), .dat (.int w), .non]) ?_ fun ρ hρ => ?_
          · simp only [sIf, ws_ofE, wp_bind, wp_noX, mTB, mTr, mNotT, mAndT, mOrT, mAnd, mOr, mNot, mIf, mNeg, mBin, bin2, mChain, mVar, mK, mB, mCall_eq, aNil, aCons, mTup, mLst, mSl, oNo, oSome, mIsi, anyT, isT, truD, sSet, setR, sRet, retR, sNil, sEx, sDvm, sSt, lstAt, putLst, drefs, dats, List.map_cons, List.map_nil, List.cons_append, List.nil_append, List.append_nil, List.replicate, List.getElem?_cons_zero, List.getElem?_cons_succ, List.set_cons_zero, List.set_cons_succ, List.length_cons, List.length_nil, bind_ok, ofO_some, ofE_ok, oS_some, noX_ok, wp_ok, ws_nx, ws_rt, fz, dref, fIx, atI0, atI1, atI2, ixN_20, ixN_21, ixN_10, Option.map_some, fGt, fGe, fSub, fI, fI0, fAdd, fInt, fLen, lenD, outsOf, parOnly, notSlt, List.take_succ_cons, List.take_zero, if_true, if_false, Bool.false_eq_true, decide_true, decide_false, Bool.not_true, Bool.not_false, fIs, fIsNot, isNoneD, sTg, gmT, gmCons, gmN, gmNil, mPop, sAug, mExt, sPar, and_true, true_and, List.isEmpty_nil, List.isEmpty_cons, Nat.reduceAdd, Nat.reduceLeDiff, Nat.reduceLT, le_sz, lt_sz, fLt_i, fEq_i, fNe_i, fLe_i, dec0, sPar]
            refine call_pot (ds := [.int ds.length]) (draw_ok h0 (by omega)) hs fun a s r hs hr => ?_
            obtain ⟨z, rfl, z0, z1⟩ := hr
            simp only [sIf, ws_ofE, wp_bind, wp_noX, mTB, mTr, mNotT, mAndT, mOrT, mAnd, mOr, mNot, mIf, mNeg, mBin, bin2, mChain, mVar, mK, mB, mCall_eq, aNil, aCons, mTup, mLst, mSl, oNo, oSome, mIsi, anyT, isT, truD, sSet, setR, sRet, retR, sNil, sEx, sDvm, sSt, lstAt, putLst, drefs, dats, List.map_cons, List.map_nil, List.cons_append, List.nil_append, List.append_nil, List.replicate, List.getElem?_cons_zero, List.getElem?_cons_succ, List.set_cons_zero, List.set_cons_succ, List.length_cons, List.length_nil, bind_ok, ofO_some, ofE_ok, oS_some, noX_ok, wp_ok, ws_nx, ws_rt, fz, dref, fIx, atI0, atI1, atI2, ixN_20, ixN_21, ixN_10, Option.map_some, fGt, fGe, fSub, fI, fI0, fAdd, fInt, fLen, lenD, outsOf, parOnly, notSlt, List.take_succ_cons, List.take_zero, if_true, if_false, Bool.false_eq_true, decide_true, decide_false, Bool.not_true, Bool.not_false, fIs, fIsNot, isNoneD, sTg, gmT, gmCons, gmN, gmNil, mPop, sAug, mExt, sPar, and_true, true_and, List.isEmpty_nil, List.isEmpty_cons, Nat.reduceAdd, Nat.reduceLeDiff, Nat.reduceLT, le_sz, lt_sz, fLt_i, fEq_i, fNe_i, fLe_i, dec0]
            refine call_pot (ds := [.int 12]) (draw_ok (by decide) (by decide)) hs fun a s r hs hr => ?_
            obtain ⟨w, rfl, _, _⟩ := hr
            simp only [sIf, ws_ofE, wp_bind, wp_noX, mTB, mTr, mNotT, mAndT, mOrT, mAnd, mOr, mNot, mIf, mNeg, mBin, bin2, mChain, mVar, mK, mB, mCall_eq, aNil, aCons, mTup, mLst, mSl, oNo, oSome, mIsi, anyT, isT, truD, sSet, setR, sRet, retR, sNil, sEx, sDvm, sSt, lstAt, putLst, drefs, dats, List.map_cons, List.map_nil, List.cons_append, List.nil_append, List.append_nil, List.replicate, List.getElem?_cons_zero, List.getElem?_cons_succ, List.set_cons_zero, List.set_cons_succ, List.length_cons, List.length_nil, bind_ok, ofO_some, ofE_ok, oS_some, noX_ok, wp_ok, ws_nx, ws_rt, fz, dref, fIx, atI0, atI1, atI2, ixN_20, ixN_21, ixN_10, Option.map_some, fGt, fGe, fSub, fI, fI0, fAdd, fInt, fLen, lenD, outsOf, parOnly, notSlt, List.take_succ_cons, List.take_zero, if_true, if_false, Bool.false_eq_true, decide_true, decide_false, Bool.not_true, Bool.not_false, fIs, fIsNot, isNoneD, sTg, gmT, gmCons, gmN, gmNil, mPop, sAug, mExt, sPar, and_true, true_and, List.isEmpty_nil, List.isEmpty_cons, Nat.reduceAdd, Nat.reduceLeDiff, Nat.reduceLT, le_sz, lt_sz, fLt_i, fEq_i, fNe_i, fLe_i, dec0]
            exact ⟨a, s, z, w, hs, z0, z1, rfl⟩
          · obtain ⟨a, s, z, w, hs, z0, z1, rfl⟩ := hρ
            have two : ∀ l1 l2 l3 l4 : Option Int, (cutD ds l1 l2).length + (cutD ds l3 l4).length ≤ sizeLine ∧ Gb (1 + wtAll ds) (PyData.depthAll ds + 1) (.tuple (cutD ds l1 l2 ++ cutD ds l3 l4)) := fun l1 l2 l3 l4 => by
              have c1 := cut_sub (ds := ds) (lo := l1) (hi := l2)
              have c2 := cut_sub (ds := ds) (lo := l3) (hi := l4)
              have w1 := cut_wt ds l1 l2
              have w2 := cut_wt ds l3 l4
              refine ⟨by rw [sizeLine_eq]; omega, gb_tup ho (fun d hd => ?_) (by rw [List.length_append]; omega) (by rw [wtAll_app]; omega)⟩
              rcases List.mem_append.mp hd with hd | hd
              · exact c1.1 d hd
              · exact c2.1 d hd
            by_cases hw0 : w = 0
            · refine ws_rtc ?_
              simp only [sIf, ws_ofE, wp_bind, wp_noX, mTB, mTr, mNotT, mAndT, mOrT, mAnd, mOr, mNot, mIf, mNeg, mBin, bin2, mChain, mVar, mK, mB, mCall_eq, aNil, aCons, mTup, mLst, mSl, oNo, oSome, mIsi, anyT, isT, truD, sSet, setR, sRet, retR, sNil, sEx, sDvm, sSt, lstAt, putLst, drefs, dats, List.map_cons, List.map_nil, List.cons_append, List.nil_append, List.append_nil, List.replicate, List.getElem?_cons_zero, List.getElem?_cons_succ, List.set_cons_zero, List.set_cons_succ, List.length_cons, List.length_nil, bind_ok, ofO_some, ofE_ok, oS_some, noX_ok, wp_ok, ws_nx, ws_rt, fz, dref, fIx, atI0, atI1, atI2, ixN_20, ixN_21, ixN_10, Option.map_some, fGt, fGe, fSub, fI, fI0, fAdd, fInt, fLen, lenD, outsOf, parOnly, notSlt, List.take_succ_cons, List.take_zero, if_true, if_false, Bool.false_eq_true, decide_true, decide_false, Bool.not_true, Bool.not_false, fIs, fIsNot, isNoneD, sTg, gmT, gmCons, gmN, gmNil, mPop, sAug, mExt, sPar, and_true, true_and, List.isEmpty_nil, List.isEmpty_cons, Nat.reduceAdd, Nat.reduceLeDiff, Nat.reduceLT, le_sz, lt_sz, fLt_i, fEq_i, fNe_i, fLe_i, dec0, if_pos hw0, fSl, if_pos (two none (some z) (some (z + 1)) none).1]
              exact ⟨⟨_, rfl, (two none (some z) (some (z + 1)) none).2⟩, a, s, _, hs, rfl⟩
            · refine ws_nxc (by simp only [sIf, ws_ofE, wp_bind, wp_noX, mTB, mTr, mNotT, mAndT, mOrT, mAnd, mOr, mNot, mIf, mNeg, mBin, bin2, mChain, mVar, mK, mB, mCall_eq, aNil, aCons, mTup, mLst, mSl, oNo, oSome, mIsi, anyT, isT, truD, sSet, setR, sRet, retR, sNil, sEx, sDvm, sSt, lstAt, putLst, drefs, dats, List.map_cons, List.map_nil, List.cons_append, List.nil_append, List.append_nil, List.replicate, List.getElem?_cons_zero, List.getElem?_cons_succ, List.set_cons_zero, List.set_cons_succ, List.length_cons, List.length_nil, bind_ok, ofO_some, ofE_ok, oS_some, noX_ok, wp_ok, ws_nx, ws_rt, fz, dref, fIx, atI0, atI1, atI2, ixN_20, ixN_21, ixN_10, Option.map_some, fGt, fGe, fSub, fI, fI0, fAdd, fInt, fLen, lenD, outsOf, parOnly, notSlt, List.take_succ_cons, List.take_zero, if_true, if_false, Bool.false_eq_true, decide_true, decide_false, Bool.not_true, Bool.not_false, fIs, fIsNot, isNoneD, sTg, gmT, gmCons, gmN, gmNil, mPop, sAug, mExt, sPar, and_true, true_and, List.isEmpty_nil, List.isEmpty_cons, Nat.reduceAdd, Nat.reduceLeDiff, Nat.reduceLT, le_sz, lt_sz, fLt_i, fEq_i, fNe_i, fLe_i, dec0, if_neg hw0]; exact rfl) ?_
              by_cases hw1 : w = 1
              · refine ws_rtc ?_
                simp only [sIf, ws_ofE, wp_bind, wp_noX, mTB, mTr, mNotT, mAndT, mOrT, mAnd, mOr, mNot, mIf, mNeg, mBin, bin2, mChain, mVar, mK, mB, mCall_eq, aNil, aCons, mTup, mLst, mSl, oNo, oSome, mIsi, anyT, isT, truD, sSet, setR, sRet, retR, sNil, sEx, sDvm, sSt, lstAt, putLst, drefs, dats, List.map_cons, List.map_nil, List.cons_append, List.nil_append, List.append_nil, List.replicate, List.getElem?_cons_zero, List.getElem?_cons_succ, List.set_cons_zero, List.set_cons_succ, List.length_cons, List.length_nil, bind_ok, ofO_some, ofE_ok, oS_some, noX_ok, wp_ok, ws_nx, ws_rt, fz, dref, fIx, atI0, atI1, atI2, ixN_20, ixN_21, ixN_10, Option.map_some, fGt, fGe, fSub, fI, fI0, fAdd, fInt, fLen, lenD, outsOf, parOnly, notSlt, List.take_succ_cons, List.take_zero, if_true, if_false, Bool.false_eq_true, decide_true, decide_false, Bool.not_true, Bool.not_false, fIs, fIsNot, isNoneD, sTg, gmT, gmCons, gmN, gmNil, mPop, sAug, mExt, sPar, and_true, true_and, List.isEmpty_nil, List.isEmpty_cons, Nat.reduceAdd, Nat.reduceLeDiff, Nat.reduceLT, le_sz, lt_sz, fLt_i, fEq_i, fNe_i, fLe_i, dec0, if_pos hw1, fSl, if_pos (two none (some (z + 1)) (some z) none).1]
                exact ⟨⟨_, rfl, (two none (some (z + 1)) (some z) none).2⟩, a, s, _, hs, rfl⟩
              · refine ws_nxc (by simp only [sIf, ws_ofE, wp_bind, wp_noX, mTB, mTr, mNotT, mAndT, mOrT, mAnd, mOr, mNot, mIf, mNeg, mBin, bin2, mChain, mVar, mK, mB, mCall_eq, aNil, aCons, mTup, mLst, mSl, oNo, oSome, mIsi, anyT, isT, truD, sSet, setR, sRet, retR, sNil, sEx, sDvm, sSt, lstAt, putLst, drefs, dats, List.map_cons, List.map_nil, List.cons_append, List.nil_append, List.append_nil, List.replicate, List.getElem?_cons_zero, List.getElem?_cons_succ, List.set_cons_zero, List.set_cons_succ, List.length_cons, List.length_nil, bind_ok, ofO_some, ofE_ok, oS_some, noX_ok, wp_ok, ws_nx, ws_rt, fz, dref, fIx, atI0, atI1, atI2, ixN_20, ixN_21, ixN_10, Option.map_some, fGt, fGe, fSub, fI, fI0, fAdd, fInt, fLen, lenD, outsOf, parOnly, notSlt, List.take_succ_cons, List.take_zero, if_true, if_false, Bool.false_eq_true, decide_true, decide_false, Bool.not_true, Bool.not_false, fIs, fIsNot, isNoneD, sTg, gmT, gmCons, gmN, gmNil, mPop, sAug, mExt, sPar, and_true, true_and, List.isEmpty_nil, List.isEmpty_cons, Nat.reduceAdd, Nat.reduceLeDiff, Nat.reduceLT, le_sz, lt_sz, fLt_i, fEq_i, fNe_i, fLe_i, dec0, if_neg hw1]; exact rfl) ?_
                by_cases hw2 : w = 2
                · refine ws_rtc ?_
                  simp only [sIf, ws_ofE, wp_bind, wp_noX, mTB, mTr, mNotT, mAndT, mOrT, mAnd, mOr, mNot, mIf, mNeg, mBin, bin2, mChain, mVar, mK, mB, mCall_eq, aNil, aCons, mTup, mLst, mSl, oNo, oSome, mIsi, anyT, isT, truD, sSet, setR, sRet, retR, sNil, sEx, sDvm, sSt, lstAt, putLst, drefs, dats, List.map_cons, List.map_nil, List.cons_append, List.nil_append, List.append_nil, List.replicate, List.getElem?_cons_zero, List.getElem?_cons_succ, List.set_cons_zero, List.set_cons_succ, List.length_cons, List.length_nil, bind_ok, ofO_some, ofE_ok, oS_some, noX_ok, wp_ok, ws_nx, ws_rt, fz, dref, fIx, atI0, atI1, atI2, ixN_20, ixN_21, ixN_10, Option.map_some, fGt, fGe, fSub, fI, fI0, fAdd, fInt, fLen, lenD, outsOf, parOnly, notSlt, List.take_succ_cons, List.take_zero, if_true, if_false, Bool.false_eq_true, decide_true, decide_false, Bool.not_true, Bool.not_false, fIs, fIsNot, isNoneD, sTg, gmT, gmCons, gmN, gmNil, mPop, sAug, mExt, sPar, and_true, true_and, List.isEmpty_nil, List.isEmpty_cons, Nat.reduceAdd, Nat.reduceLeDiff, Nat.reduceLT, le_sz, lt_sz, fLt_i, fEq_i, fNe_i, fLe_i, dec0, if_pos hw2, mRev, revD]
                  exact ⟨⟨_, rfl, gb_tup ho (fun d hd => List.mem_reverse.mp hd) (by rw [List.length_reverse]; omega) (by rw [wtAll_rev]; omega)⟩, a, s, _, hs, rfl⟩
                · refine ws_nxc (by simp only [sIf, ws_ofE, wp_bind, wp_noX, mTB, mTr, mNotT, mAndT, mOrT, mAnd, mOr, mNot, mIf, mNeg, mBin, bin2, mChain, mVar, mK, mB, mCall_eq, aNil, aCons, mTup, mLst, mSl, oNo, oSome, mIsi, anyT, isT, truD, sSet, setR, sRet, retR, sNil, sEx, sDvm, sSt, lstAt, putLst, drefs, dats, List.map_cons, List.map_nil, List.cons_append, List.nil_append, List.append_nil, List.replicate, List.getElem?_cons_zero, List.getElem?_cons_succ, List.set_cons_zero, List.set_cons_succ, List.length_cons, List.length_nil, bind_ok, ofO_some, ofE_ok, oS_some, noX_ok, wp_ok, ws_nx, ws_rt, fz, dref, fIx, atI0, atI1, atI2, ixN_20, ixN_21, ixN_10, Option.map_some, fGt, fGe, fSub, fI, fI0, fAdd, fInt, fLen, lenD, outsOf, parOnly, notSlt, List.take_succ_cons, List.take_zero, if_true, if_false, Bool.false_eq_true, decide_true, decide_false, Bool.not_true, Bool.not_false, fIs, fIsNot, isNoneD, sTg, gmT, gmCons, gmN, gmNil, mPop, sAug, mExt, sPar, and_true, true_and, List.isEmpty_nil, List.isEmpty_cons, Nat.reduceAdd, Nat.reduceLeDiff, Nat.reduceLT, le_sz, lt_sz, fLt_i, fEq_i, fNe_i, fLe_i, dec0, if_neg hw2]; exact rfl) (ws_nxc (by simp only [sIf, ws_ofE, wp_bind, wp_noX, mTB, mTr, mNotT, mAndT, mOrT, mAnd, mOr, mNot, mIf, mNeg, mBin, bin2, mChain, mVar, mK, mB, mCall_eq, aNil, aCons, mTup, mLst, mSl, oNo, oSome, mIsi, anyT, isT, truD, sSet, setR, sRet, retR, sNil, sEx, sDvm, sSt, lstAt, putLst, drefs, dats, List.map_cons, List.map_nil, List.cons_append, List.nil_append, List.append_nil, List.replicate, List.getElem?_cons_zero, List.getElem?_cons_succ, List.set_cons_zero, List.set_cons_succ, List.length_cons, List.length_nil, bind_ok, ofO_some, ofE_ok, oS_some, noX_ok, wp_ok, ws_nx, ws_rt, fz, dref, fIx, atI0, atI1, atI2, ixN_20, ixN_21, ixN_10, Option.map_some, fGt, fGe, fSub, fI, fI0, fAdd, fInt, fLen, lenD, outsOf, parOnly, notSlt, List.take_succ_cons, List.take_zero, if_true, if_false, Bool.false_eq_true, decide_true, decide_false, Bool.not_true, Bool.not_false, fIs, fIsNot, isNoneD, sTg, gmT, gmCons, gmN, gmNil, mPop, sAug, mExt, sPar, and_true, true_and, List.isEmpty_nil, List.isEmpty_cons, Nat.reduceAdd, Nat.reduceLeDiff, Nat.reduceLT, le_sz, lt_sz, fLt_i, fEq_i, fNe_i, fLe_i, dec0, fList]; exact rfl) ?_)
                  have hz : z = ((z.toNat : Nat) : Int) := by omega
                  have hzl : z.toNat < ds.length := by omega
                  have hget : ds[z.toNat]? = some ds[z.toNat] := List.getElem?_eq_getElem hzl
                  have hix : ixN ds.length z = some z.toNat := by
                    have := ixN_nat hzl
                    rwa [← hz] at this
                  have hat : L2.atI ds z = some ds[z.toNat] := by
                    unfold L2.atI
                    rw [hix]
                    exact hget
                  have hmem : ds[z.toNat] ∈ ds := List.getElem_mem hzl
                  have hnbz : nb ds[z.toNat] = true := by
                    have : ∀ {es : List D}, nbAll es = true → ∀ d ∈ es, nb d = true := by
                      intro es
                      induction es with
                      | nil => intro _ d hd; exact nomatch hd
                      | cons e es ih =>
                        intro h d hd
                        simp only [nbAll, Bool.and_eq_true] at h
                        rcases List.mem_cons.mp hd with rfl | hd
                        · exact h.1
                        · exact ih h.2 d hd
                    exact this hnb _ hmem
                  have hdz : ds[z.toNat].depth ≤ PyData.depthAll ds := depAll_iff.mp (Nat.le_refl _) _ hmem
                  have hwz := wt_mem hmem
                  simp only [sIf, ws_ofE, wp_bind, wp_noX, mTB, mTr, mNotT, mAndT, mOrT, mAnd, mOr, mNot, mIf, mNeg, mBin, bin2, mChain, mVar, mK, mB, mCall_eq, aNil, aCons, mTup, mLst, mSl, oNo, oSome, mIsi, anyT, isT, truD, sSet, setR, sRet, retR, sNil, sEx, sDvm, sSt, lstAt, putLst, drefs, dats, List.map_cons, List.map_nil, List.cons_append, List.nil_append, List.append_nil, List.replicate, List.getElem?_cons_zero, List.getElem?_cons_succ, List.set_cons_zero, List.set_cons_succ, List.length_cons, List.length_nil, bind_ok, ofO_some, ofE_ok, oS_some, noX_ok, wp_ok, ws_nx, ws_rt, fz, dref, fIx, atI0, atI1, atI2, ixN_20, ixN_21, ixN_10, Option.map_some, fGt, fGe, fSub, fI, fI0, fAdd, fInt, fLen, lenD, outsOf, parOnly, notSlt, List.take_succ_cons, List.take_zero, if_true, if_false, Bool.false_eq_true, decide_true, decide_false, Bool.not_true, Bool.not_false, fIs, fIsNot, isNoneD, sTg, gmT, gmCons, gmN, gmNil, mPop, sAug, mExt, sPar, and_true, true_and, List.isEmpty_nil, List.isEmpty_cons, Nat.reduceAdd, Nat.reduceLeDiff, Nat.reduceLT, le_sz, lt_sz, fLt_i, fEq_i, fNe_i, fLe_i, dec0, ws_seq, hat]
                  refine call_pot (ds := [ds[z.toNat]]) (bent_ok n _ hnbz (by rw [edp] at hn; omega)) hs fun a s r hs hr => ?_
                  obtain ⟨e, rfl, g1, g2, g3⟩ := hr
                  simp only [sIf, ws_ofE, wp_bind, wp_noX, mTB, mTr, mNotT, mAndT, mOrT, mAnd, mOr, mNot, mIf, mNeg, mBin, bin2, mChain, mVar, mK, mB, mCall_eq, aNil, aCons, mTup, mLst, mSl, oNo, oSome, mIsi, anyT, isT, truD, sSet, setR, sRet, retR, sNil, sEx, sDvm, sSt, lstAt, putLst, drefs, dats, List.map_cons, List.map_nil, List.cons_append, List.nil_append, List.append_nil, List.replicate, List.getElem?_cons_zero, List.getElem?_cons_succ, List.set_cons_zero, List.set_cons_succ, List.length_cons, List.length_nil, bind_ok, ofO_some, ofE_ok, oS_some, noX_ok, wp_ok, ws_nx, ws_rt, fz, dref, fIx, atI0, atI1, atI2, ixN_20, ixN_21, ixN_10, Option.map_some, fGt, fGe, fSub, fI, fI0, fAdd, fInt, fLen, lenD, outsOf, parOnly, notSlt, List.take_succ_cons, List.take_zero, if_true, if_false, Bool.false_eq_true, decide_true, decide_false, Bool.not_true, Bool.not_false, fIs, fIsNot, isNoneD, sTg, gmT, gmCons, gmN, gmNil, mPop, sAug, mExt, sPar, and_true, true_and, List.isEmpty_nil, List.isEmpty_cons, Nat.reduceAdd, Nat.reduceLeDiff, Nat.reduceLT, le_sz, lt_sz, fLt_i, fEq_i, fNe_i, fLe_i, dec0, hix, fTuple]
                  have hset := wtAll_set ds z.toNat e _ hget
                  have hin : ∀ d ∈ ds.set z.toNat e, d = e ∨ d ∈ ds := fun d hd => (List.mem_or_eq_of_mem_set hd).symm
                  refine ⟨⟨_, rfl, ?_, ?_, ?_⟩, a, s, _, hs, rfl⟩
                  · have h1 : okAll (ds.set z.toNat e) = true := okAll_iff.mpr fun d hd => by
                      rcases hin d hd with rfl | hd
                      · exact g1
                      · exact okAll_iff.mp ho d hd
                    simp only [okD, h1, hd_short (show (ds.set z.toNat e).length ≤ 9 by rw [List.length_set]; omega), Bool.and_self]
                  · simp only [wt]; omega
                  · have h2 : PyData.depthAll (ds.set z.toNat e) ≤ PyData.depthAll ds + 3 := depAll_iff.mpr fun d hd => by
                      rcases hin d hd with rfl | hd
                      · omega
                      · have := depAll_iff.mp (Nat.le_refl (PyData.depthAll ds)) d hd; omega
                    simp only [PyData.depth]; omega
        · simp only [sIf, ws_ofE, wp_bind, wp_noX, mTB, mTr, mNotT, mAndT, mOrT, mAnd, mOr, mNot, mIf, mNeg, mBin, bin2, mChain, mVar, mK, mB, mCall_eq, aNil, aCons, mTup, mLst, mSl, oNo, oSome, mIsi, anyT, isT, truD, sSet, setR, sRet, retR, sNil, sEx, sDvm, sSt, lstAt, putLst, drefs, dats, List.map_cons, List.map_nil, List.cons_append, List.nil_append, List.append_nil, List.replicate, List.getElem?_cons_zero, List.getElem?_cons_succ, List.set_cons_zero, List.set_cons_succ, List.length_cons, List.length_nil, bind_ok, ofO_some, ofE_ok, oS_some, noX_ok, wp_ok, ws_nx, ws_rt, fz, dref, fIx, atI0, atI1, atI2, ixN_20, ixN_21, ixN_10, Option.map_some, fGt, fGe, fSub, fI, fI0, fAdd, fInt, fLen, lenD, outsOf, parOnly, notSlt, List.take_succ_cons, List.take_zero, if_true, if_false, Bool.false_eq_true, decide_true, decide_false, Bool.not_true, Bool.not_false, fIs, fIsNot, isNoneD, sTg, gmT, gmCons, gmN, gmNil, mPop, sAug, mExt, sPar, and_true, true_and, List.isEmpty_nil, List.isEmpty_cons, Nat.reduceAdd, Nat.reduceLeDiff, Nat.reduceLT, le_sz, lt_sz, fLt_i, fEq_i, fNe_i, fLe_i, dec0, if_neg hx]
          exact ⟨a, s, hs, rfl⟩
      · simp only [sIf, ws_ofE, wp_bind, wp_noX, mTB, mTr, mNotT, mAndT, mOrT, mAnd, mOr, mNot, mIf, mNeg, mBin, bin2, mChain, mVar, mK, mB, mCall_eq, aNil, aCons, mTup, mLst, mSl, oNo, oSome, mIsi, anyT, isT, truD, sSet, setR, sRet, retR, sNil, sEx, sDvm, sSt, lstAt, putLst, drefs, dats, List.map_cons, List.map_nil, List.cons_append, List.nil_append, List.append_nil, List.replicate, List.getElem?_cons_zero, List.getElem?_cons_succ, List.set_cons_zero, List.set_cons_succ, List.length_cons, List.length_nil, bind_ok, ofO_some, ofE_ok, oS_some, noX_ok, wp_ok, ws_nx, ws_rt, fz, dref, fIx, atI0, atI1, atI2, ixN_20, ixN_21, ixN_10, Option.map_some, fGt, fGe, fSub, fI, fI0, fAdd, fInt, fLen, lenD, outsOf, parOnly, notSlt, List.take_succ_cons, List.take_zero, if_true, if_false, Bool.false_eq_true, decide_true, decide_false, Bool.not_true, Bool.not_false, fIs, fIsNot, isNoneD, sTg, gmT, gmCons, gmN, gmNil, mPop, sAug, mExt, sPar, and_true, true_and, List.isEmpty_nil, List.isEmpty_cons, Nat.reduceAdd, Nat.reduceLeDiff, Nat.reduceLT, le_sz, lt_sz, fLt_i, fEq_i, fNe_i, fLe_i, dec0, if_neg h0]
        exact ⟨a, s, hs, rfl⟩
    · obtain ⟨a, s, hs, rfl⟩ := hρ
      refine ws_nxc (by simp only [sIf, ws_ofE, wp_bind, wp_noX, mTB, mTr, mNotT, mAndT, mOrT, mAnd, mOr, mNot, mIf, mNeg, mBin, bin2, mChain, mVar, mK, mB, mCall_eq, aNil, aCons, mTup, mLst, mSl, oNo, oSome, mIsi, anyT, isT, truD, sSet, setR, sRet, retR, sNil, sEx, sDvm, sSt, lstAt, putLst, drefs, dats, List.map_cons, List.map_nil, List.cons_append, List.nil_append, List.append_nil, List.replicate, List.getElem?_cons_zero, List.getElem?_cons_succ, List.set_cons_zero, List.set_cons_succ, List.length_cons, List.length_nil, bind_ok, ofO_some, ofE_ok, oS_some, noX_ok, wp_ok, ws_nx, ws_rt, fz, dref, fIx, atI0, atI1, atI2, ixN_20, ixN_21, ixN_10, Option.map_some, fGt, fGe, fSub, fI, fI0, fAdd, fInt, fLen, lenD, outsOf, parOnly, notSlt, List.take_succ_cons, List.take_zero, if_true, if_false, Bool.false_eq_true, decide_true, decide_false, Bool.not_true, Bool.not_false, fIs, fIsNot, isNoneD, sTg, gmT, gmCons, gmN, gmNil, mPop, sAug, mExt, sPar, and_true, true_and, List.isEmpty_nil, List.isEmpty_cons, Nat.reduceAdd, Nat.reduceLeDiff, Nat.reduceLT, le_sz, lt_sz, fLt_i, fEq_i, fNe_i, fLe_i, dec0]; exact rfl) (ws_nxc (by simp only [sIf, ws_ofE, wp_bind, wp_noX, mTB, mTr, mNotT, mAndT, mOrT, mAnd, mOr, mNot, mIf, mNeg, mBin, bin2, mChain, mVar, mK, mB, mCall_eq, aNil, aCons, mTup, mLst, mSl, oNo, oSome, mIsi, anyT, isT, truD, sSet, setR, sRet, retR, sNil, sEx, sDvm, sSt, lstAt, putLst, drefs, dats, List.map_cons, List.map_nil, List.cons_append, List.nil_append, List.append_nil, List.replicate, List.getElem?_cons_zero, List.getElem?_cons_succ, List.set_cons_zero, List.set_cons_succ, List.length_cons, List.length_nil, bind_ok, ofO_some, ofE_ok, oS_some, noX_ok, wp_ok, ws_nx, ws_rt, fz, dref, fIx, atI0, atI1, atI2, ixN_20, ixN_21, ixN_10, Option.map_some, fGt, fGe, fSub, fI, fI0, fAdd, fInt, fLen, lenD, outsOf, parOnly, notSlt, List.take_succ_cons, List.take_zero, if_true, if_false, Bool.false_eq_true, decide_true, decide_false, Bool.not_true, Bool.not_false, fIs, fIsNot, isNoneD, sTg, gmT, gmCons, gmN, gmNil, mPop, sAug, mExt, sPar, and_true, true_and, List.isEmpty_nil, List.isEmpty_cons, Nat.reduceAdd, Nat.reduceLeDiff, Nat.reduceLT, le_sz, lt_sz, fLt_i, fEq_i, fNe_i, fLe_i, dec0]; exact rfl) (ws_nxc (by simp only [sIf, ws_ofE, wp_bind, wp_noX, mTB, mTr, mNotT, mAndT, mOrT, mAnd, mOr, mNot, mIf, mNeg, mBin, bin2, mChain, mVar, mK, mB, mCall_eq, aNil, aCons, mTup, mLst, mSl, oNo, oSome, mIsi, anyT, isT, truD, sSet, setR, sRet, retR, sNil, sEx, sDvm, sSt, lstAt, putLst, drefs, dats, List.map_cons, List.map_nil, List.cons_append, List.nil_append, List.append_nil, List.replicate, List.getElem?_cons_zero, List.getElem?_cons_succ, List.set_cons_zero, List.set_cons_succ, List.length_cons, List.length_nil, bind_ok, ofO_some, ofE_ok, oS_some, noX_ok, wp_ok, ws_nx, ws_rt, fz, dref, fIx, atI0, atI1, atI2, ixN_20, ixN_21, ixN_10, Option.map_some, fGt, fGe, fSub, fI, fI0, fAdd, fInt, fLen, lenD, outsOf, parOnly, notSlt, List.take_succ_cons, List.take_zero, if_true, if_false, Bool.false_eq_true, decide_true, decide_false, Bool.not_true, Bool.not_false, fIs, fIsNot, isNoneD, sTg, gmT, gmCons, gmN, gmNil, mPop, sAug, mExt, sPar, and_true, true_and, List.isEmpty_nil, List.isEmpty_cons, Nat.reduceAdd, Nat.reduceLeDiff, Nat.reduceLT, le_sz, lt_sz, fLt_i, fEq_i, fNe_i, fLe_i, dec0]; exact rfl) ?_))
      simp only [sIf, ws_ofE, wp_bind, wp_noX, mTB, mTr, mNotT, mAndT, mOrT, mAnd, mOr, mNot, mIf, mNeg, mBin, bin2, mChain, mVar, mK, mB, mCall_eq, aNil, aCons, mTup, mLst, mSl, oNo, oSome, mIsi, anyT, isT, truD, sSet, setR, sRet, retR, sNil, sEx, sDvm, sSt, lstAt, putLst, drefs, dats, List.map_cons, List.map_nil, List.cons_append, List.nil_append, List.append_nil, List.replicate, List.getElem?_cons_zero, List.getElem?_cons_succ, List.set_cons_zero, List.set_cons_succ, List.length_cons, List.length_nil, bind_ok, ofO_some, ofE_ok, oS_some, noX_ok, wp_ok, ws_nx, ws_rt, fz, dref, fIx, atI0, atI1, atI2, ixN_20, ixN_21, ixN_10, Option.map_some, fGt, fGe, fSub, fI, fI0, fAdd, fInt, fLen, lenD, outsOf, parOnly, notSlt, List.take_succ_cons, List.take_zero, if_true, if_false, Bool.false_eq_true, decide_true, decide_false, Bool.not_true, Bool.not_false, fIs, fIsNot, isNoneD, sTg, gmT, gmCons, gmN, gmNil, mPop, sAug, mExt, sPar, and_true, true_and, List.isEmpty_nil, List.isEmpty_cons, Nat.reduceAdd, Nat.reduceLeDiff, Nat.reduceLT, le_sz, lt_sz, fLt_i, fEq_i, fNe_i, fLe_i, dec0, fList]
      refine call_pot (ds := [.list _]) (pick_ok (by simp) (by simp)) hs fun a s r hs hr => ?_
      obtain ⟨d, rfl, hd⟩ := hr
      simp only [sIf, ws_ofE, wp_bind, wp_noX, mTB, mTr, mNotT, mAndT, mOrT, mAnd, mOr, mNot, mIf, mNeg, mBin, bin2, mChain, mVar, mK, mB, mCall_eq, aNil, aCons, mTup, mLst, mSl, oNo, oSome, mIsi, anyT, isT, truD, sSet, setR, sRet, retR, sNil, sEx, sDvm, sSt, lstAt, putLst, drefs, dats, List.map_cons, List.map_nil, List.cons_append, List.nil_append, List.append_nil, List.replicate, List.getElem?_cons_zero, List.getElem?_cons_succ, List.set_cons_zero, List.set_cons_succ, List.length_cons, List.length_nil, bind_ok, ofO_some, ofE_ok, oS_some, noX_ok, wp_ok, ws_nx, ws_rt, fz, dref, fIx, atI0, atI1, atI2, ixN_20, ixN_21, ixN_10, Option.map_some, fGt, fGe, fSub, fI, fI0, fAdd, fInt, fLen, lenD, outsOf, parOnly, notSlt, List.take_succ_cons, List.take_zero, if_true, if_false, Bool.false_eq_true, decide_true, decide_false, Bool.not_true, Bool.not_false, fIs, fIsNot, isNoneD, sTg, gmT, gmCons, gmN, gmNil, mPop, sAug, mExt, sPar, and_true, true_and, List.isEmpty_nil, List.isEmpty_cons, Nat.reduceAdd, Nat.reduceLeDiff, Nat.reduceLT, le_sz, lt_sz, fLt_i, fEq_i, fNe_i, fLe_i, dec0]
      refine ⟨⟨d, rfl, ?_⟩, a, s, _, hs, rfl⟩
      simp only [List.mem_cons, List.not_mem_nil, or_false] at hd
      rcases hd with rfl | hd
      · refine ⟨by simp only [okD, ho], by simp only [wt]; omega, by simp only [PyData.depth]; omega⟩
      · refine gb_small ?_
        rcases hd with rfl | rfl | rfl | rfl | rfl | rfl | rfl | rfl <;> decide +kernel
end Lw
end Vl

set_option Elab.async false
set_option linter.all false
set_option maxRecDepth 100000
namespace Vl
open PySem PySem.Spec PyProof.Rows L2
namespace Lw
/-- what a def answers -/
def Ev (fm : FM) (ds : List D) (d : D) : Prop := Wp (fm (ds.map .dat)) fun r _ => r = .dat d
theorem Ev.eq {fm : FM} {ds : List D} {d : D} (h : Ev fm ds d) : ∃ outs, fm (ds.map .dat) = .ok (.dat d) outs := by
  unfold Ev at h
  cases e : fm (ds.map .dat) with
  | stuck => rw [e] at h; exact h.elim
  | exc x ρ => rw [e] at h; exact h.elim
  | ok r ρ => rw [e] at h; have h : r = .dat d := h; subst h; exact ⟨ρ, rfl⟩
theorem ev1 {fm : FM} {a d : D} (h : Ev fm [a] d) (ρ : List Sl) : callRes fm ρ [.dat a] = .ok (.dat d) ρ := by
  obtain ⟨o, e⟩ := h.eq
  exact call_dats (ds := [a]) e ρ
theorem ev2 {fm : FM} {a b d : D} (h : Ev fm [a, b] d) (ρ : List Sl) : callRes fm ρ [.dat a, .dat b] = .ok (.dat d) ρ := by
  obtain ⟨o, e⟩ := h.eq
  exact call_dats (ds := [a, b]) e ρ
theorem ev3 {fm : FM} {a b c d : D} (h : Ev fm [a, b, c] d) (ρ : List Sl) : callRes fm ρ [.dat a, .dat b, .dat c] = .ok (.dat d) ρ := by
  obtain ⟨o, e⟩ := h.eq
  exact call_dats (ds := [a, b, c]) e ρ
abbrev Sm (d : D) : Prop := Gd d
theorem _root_.Vl.Gd.shp {d : D} (h : Gd d) : SeqAt.shaped d = true := h.shaped
theorem _root_.Vl.Gd.sub {ds : List D} {d : D} (h : Gd (.tuple ds)) (hd : d ∈ ds) : Gd d := by
  obtain ⟨h1, h2, h3⟩ := h
  simp only [okD, Bool.and_eq_true] at h1
  simp only [PyData.depth] at h3
  simp only [wt] at h2
  have := wt_mem hd
  exact ⟨okAll_iff.mp h1.1 d hd, by omega, by have := depAll_iff.mp (Nat.le_refl (PyData.depthAll ds)) d hd; omega⟩
theorem sm_str {x : Str} (h : okS x = true) : Sm (.str x) := ⟨by simp only [okD]; exact h, by simp [wt], by simp [PyData.depth]⟩
theorem sm_nil : Sm (.tuple []) := ⟨by decide, by decide, by decide⟩
theorem fEq_s {x w : Str} (hx : okS x = true) (hw : okS w = true) : fEq (.str x) (.str w) = some (.dat (.bool (x == w))) := by
  unfold fEq
  rw [if_pos ⟨(sm_str hx).shp, (sm_str hw).shp⟩]
  simp only [PyData.eqv]
theorem eqv_nil (ds : List D) : PyData.eqv (.tuple ds) (.tuple []) = ds.isEmpty := by
  cases ds <;> simp only [PyData.eqv, PyData.eqvAll] <;> rfl
theorem fEq_t {ds : List D} (h : Sm (.tuple ds)) : fEq (.tuple ds) (.tuple []) = some (.dat (.bool ds.isEmpty)) := by
  unfold fEq
  rw [if_pos ⟨h.shp, sm_nil.shp⟩, eqv_nil]
theorem fNe_t {ds : List D} (h : Sm (.tuple ds)) : fNe (.tuple ds) (.tuple []) = some (.dat (.bool (!ds.isEmpty))) := by
  unfold fNe
  rw [if_pos ⟨h.shp, sm_nil.shp⟩, eqv_nil]
theorem okS_len {x : Str} (h : okS x = true) : x.length ≤ sizeLine := by
  simp only [okS, Bool.and_eq_true, decide_eq_true_eq] at h
  rw [sizeLine_eq]; omega
theorem sm_okS {x : Str} (h : Sm (.str x)) : okS x = true := by have := h.1; simpa only [okD] using this
/-! ### names -/
abbrev kts : List D := [(.str "and"), (.str "answer"), (.str "asked"), (.str "define"), (.str "else"), (.str "if"), (.str "no"), (.str "not"), (.str "nothing"), (.str "or"), (.str "riddle"), (.str "sees"), (.str "then"), (.str "wish"), (.str "yes")]
def inK (x : Str) : Bool := kts.any fun z => PyData.eqv z (.str x)
def ltr : D → Bool
  | .str c => inStr c "abcdefghijklmnopqrstuvwxyz"
  | _ => false
def nmS (x : Str) : Bool := decide (1 ≤ (x.length : Int)) && decide ((x.length : Int) ≤ 12) && !inK x && (chars x).all ltr
def nameD : D → Bool
  | .str x => nmS x
  | _ => false
theorem in_kt (x : Str) : fIn (.str x) (.tuple kts) = some (.dat (.bool (inK x))) := by
  unfold fIn inD
  dsimp only
  rw [if_pos ⟨rfl, by decide⟩]; rfl
theorem in_kl (x : Str) : fIn (.str x) (.list kts) = some (.dat (.bool (inK x))) := by
  unfold fIn inD
  dsimp only
  rw [if_pos ⟨rfl, by decide⟩]; rfl
theorem chars_len (x : Str) : (chars x).length = x.length := by unfold chars; rw [List.length_map, Array.length_toList]; rfl
theorem all_ltr (x : Str) : boolsOf ((chars x).map fun d => .bool (ltr d)) = some ((chars x).map ltr) := boolsOf_map ltr _
theorem lc_ltr {x : Str} (hl : x.length ≤ sizeLine) (i : Nat) (ρ : List Sl) (hi : ρ[i]? = some .non) : lcL (gmN i) (fun ρ => noX (mYes ρ)) (fun ρ => noX (mBin fIn (mVar i) (mK (.str "abcdefghijklmnopqrstuvwxyz")) ρ)) [i] (chars x) ρ [] = .ok (.frs (.lst ((chars x).map fun d => .bool (ltr d)))) ρ := by
  refine lc_pure hi (chars x) [] (fun d hd => ⟨rfl, ?_⟩) (by rw [chars_len]; show 0 + x.length ≤ _; omega)
  have hg : (ρ.set i (.dat d))[i]? = some (.dat d) := List.getElem?_set_self (List.getElem?_eq_some_iff.mp hi).1
  obtain ⟨k, hk⟩ := List.mem_iff_getElem?.mp hd
  obtain ⟨c, _, rfl⟩ := chars_get hk
  simp only [mBin, bin2, mVar, hg, bind_ok, fz, ofO_some, mK, dref]
  rfl
theorem name_ev {d : D} (h : Sm d) : Ev M_is_name [d] (.bool (nameD d)) := by
  unfold Ev M_is_name
  cases d with
  | dict es => have := h.1; simp [okD] at this
  | none => refine wp_fn ?_; simp only [sIf, ws_ofE, wp_bind, wp_noX, mTB, mTr, mNotT, mAndT, mOrT, mAnd, mOr, mNot, mIf, mNeg, mBin, bin2, mChain, mVar, mK, mB, mCall_eq, aNil, aCons, mTup, mLst, mSl, oNo, oSome, mIsi, anyT, isT, truD, sSet, setR, sRet, retR, sNil, sEx, sDvm, sSt, lstAt, putLst, drefs, dats, List.map_cons, List.map_nil, List.cons_append, List.nil_append, List.append_nil, List.replicate, List.getElem?_cons_zero, List.getElem?_cons_succ, List.set_cons_zero, List.set_cons_succ, List.length_cons, List.length_nil, bind_ok, ofO_some, ofE_ok, oS_some, noX_ok, wp_ok, ws_nx, ws_rt, fz, dref, fIx, atI0, atI1, atI2, ixN_20, ixN_21, ixN_10, Option.map_some, fGt, fGe, fSub, fI, fI0, fAdd, fInt, fLen, lenD, outsOf, parOnly, notSlt, List.take_succ_cons, List.take_zero, if_true, if_false, Bool.false_eq_true, decide_true, decide_false, Bool.not_true, Bool.not_false, fIs, fIsNot, isNoneD, sTg, gmT, gmCons, gmN, gmNil, mPop, sAug, mExt, sPar, and_true, true_and, List.isEmpty_nil, List.isEmpty_cons, Nat.reduceAdd, Nat.reduceLeDiff, Nat.reduceLT, le_sz, lt_sz, fLt_i, fEq_i, fNe_i, fLe_i, dec0, ws_seq]; exact rfl
  | bool b => refine wp_fn ?_; simp only [sIf, ws_ofE, wp_bind, wp_noX, mTB, mTr, mNotT, mAndT, mOrT, mAnd, mOr, mNot, mIf, mNeg, mBin, bin2, mChain, mVar, mK, mB, mCall_eq, aNil, aCons, mTup, mLst, mSl, oNo, oSome, mIsi, anyT, isT, truD, sSet, setR, sRet, retR, sNil, sEx, sDvm, sSt, lstAt, putLst, drefs, dats, List.map_cons, List.map_nil, List.cons_append, List.nil_append, List.append_nil, List.replicate, List.getElem?_cons_zero, List.getElem?_cons_succ, List.set_cons_zero, List.set_cons_succ, List.length_cons, List.length_nil, bind_ok, ofO_some, ofE_ok, oS_some, noX_ok, wp_ok, ws_nx, ws_rt, fz, dref, fIx, atI0, atI1, atI2, ixN_20, ixN_21, ixN_10, Option.map_some, fGt, fGe, fSub, fI, fI0, fAdd, fInt, fLen, lenD, outsOf, parOnly, notSlt, List.take_succ_cons, List.take_zero, if_true, if_false, Bool.false_eq_true, decide_true, decide_false, Bool.not_true, Bool.not_false, fIs, fIsNot, isNoneD, sTg, gmT, gmCons, gmN, gmNil, mPop, sAug, mExt, sPar, and_true, true_and, List.isEmpty_nil, List.isEmpty_cons, Nat.reduceAdd, Nat.reduceLeDiff, Nat.reduceLT, le_sz, lt_sz, fLt_i, fEq_i, fNe_i, fLe_i, dec0, ws_seq]; exact rfl
  | int b => refine wp_fn ?_; simp only [sIf, ws_ofE, wp_bind, wp_noX, mTB, mTr, mNotT, mAndT, mOrT, mAnd, mOr, mNot, mIf, mNeg, mBin, bin2, mChain, mVar, mK, mB, mCall_eq, aNil, aCons, mTup, mLst, mSl, oNo, oSome, mIsi, anyT, isT, truD, sSet, setR, sRet, retR, sNil, sEx, sDvm, sSt, lstAt, putLst, drefs, dats, List.map_cons, List.map_nil, List.cons_append, List.nil_append, List.append_nil, List.replicate, List.getElem?_cons_zero, List.getElem?_cons_succ, List.set_cons_zero, List.set_cons_succ, List.length_cons, List.length_nil, bind_ok, ofO_some, ofE_ok, oS_some, noX_ok, wp_ok, ws_nx, ws_rt, fz, dref, fIx, atI0, atI1, atI2, ixN_20, ixN_21, ixN_10, Option.map_some, fGt, fGe, fSub, fI, fI0, fAdd, fInt, fLen, lenD, outsOf, parOnly, notSlt, List.take_succ_cons, List.take_zero, if_true, if_false, Bool.false_eq_true, decide_true, decide_false, Bool.not_true, Bool.not_false, fIs, fIsNot, isNoneD, sTg, gmT, gmCons, gmN, gmNil, mPop, sAug, mExt, sPar, and_true, true_and, List.isEmpty_nil, List.isEmpty_cons, Nat.reduceAdd, Nat.reduceLeDiff, Nat.reduceLT, le_sz, lt_sz, fLt_i, fEq_i, fNe_i, fLe_i, dec0, ws_seq]; exact rfl
  | list b => refine wp_fn ?_; simp only [sIf, ws_ofE, wp_bind, wp_noX, mTB, mTr, mNotT, mAndT, mOrT, mAnd, mOr, mNot, mIf, mNeg, mBin, bin2, mChain, mVar, mK, mB, mCall_eq, aNil, aCons, mTup, mLst, mSl, oNo, oSome, mIsi, anyT, isT, truD, sSet, setR, sRet, retR, sNil, sEx, sDvm, sSt, lstAt, putLst, drefs, dats, List.map_cons, List.map_nil, List.cons_append, List.nil_append, List.append_nil, List.replicate, List.getElem?_cons_zero, List.getElem?_cons_succ, List.set_cons_zero, List.set_cons_succ, List.length_cons, List.length_nil, bind_ok, ofO_some, ofE_ok, oS_some, noX_ok, wp_ok, ws_nx, ws_rt, fz, dref, fIx, atI0, atI1, atI2, ixN_20, ixN_21, ixN_10, Option.map_some, fGt, fGe, fSub, fI, fI0, fAdd, fInt, fLen, lenD, outsOf, parOnly, notSlt, List.take_succ_cons, List.take_zero, if_true, if_false, Bool.false_eq_true, decide_true, decide_false, Bool.not_true, Bool.not_false, fIs, fIsNot, isNoneD, sTg, gmT, gmCons, gmN, gmNil, mPop, sAug, mExt, sPar, and_true, true_and, List.isEmpty_nil, List.isEmpty_cons, Nat.reduceAdd, Nat.reduceLeDiff, Nat.reduceLT, le_sz, lt_sz, fLt_i, fEq_i, fNe_i, fLe_i, dec0, ws_seq]; exact rfl
  | tuple b => refine wp_fn ?_; simp only [sIf, ws_ofE, wp_bind, wp_noX, mTB, mTr, mNotT, mAndT, mOrT, mAnd, mOr, mNot, mIf, mNeg, mBin, bin2, mChain, mVar, mK, mB, mCall_eq, aNil, aCons, mTup, mLst, mSl, oNo, oSome, mIsi, anyT, isT, truD, sSet, setR, sRet, retR, sNil, sEx, sDvm, sSt, lstAt, putLst, drefs, dats, List.map_cons, List.map_nil, List.cons_append, List.nil_append, List.append_nil, List.replicate, List.getElem?_cons_zero, List.getElem?_cons_succ, List.set_cons_zero, List.set_cons_succ, List.length_cons, List.length_nil, bind_ok, ofO_some, ofE_ok, oS_some, noX_ok, wp_ok, ws_nx, ws_rt, fz, dref, fIx, atI0, atI1, atI2, ixN_20, ixN_21, ixN_10, Option.map_some, fGt, fGe, fSub, fI, fI0, fAdd, fInt, fLen, lenD, outsOf, parOnly, notSlt, List.take_succ_cons, List.take_zero, if_true, if_false, Bool.false_eq_true, decide_true, decide_false, Bool.not_true, Bool.not_false, fIs, fIsNot, isNoneD, sTg, gmT, gmCons, gmN, gmNil, mPop, sAug, mExt, sPar, and_true, true_and, List.isEmpty_nil, List.isEmpty_cons, Nat.reduceAdd, Nat.reduceLeDiff, Nat.reduceLT, le_sz, lt_sz, fLt_i, fEq_i, fNe_i, fLe_i, dec0, ws_seq]; exact rfl
  | str x =>
    have hl := okS_len (sm_okS h)
    refine wp_fn ?_
    have fin : nmS x = (decide (1 ≤ (x.length : Int)) && decide ((x.length : Int) ≤ 12) && !inK x && (chars x).all ltr) := rfl
    show Ws _ _ fun r ρ => notSlt r = true ∧ r = .dat (.bool (nmS x))
    by_cases h1 : (1 : Int) ≤ (x.length : Int)
    · by_cases h2 : (x.length : Int) ≤ 12
      · cases hk : inK x with
        | true =>
          refine ws_rtc ?_
          simp only [sIf, ws_ofE, wp_bind, wp_noX, mTB, mTr, mNotT, mAndT, mOrT, mAnd, mOr, mNot, mIf, mNeg, mBin, bin2, mChain, mVar, mK, mB, mCall_eq, aNil, aCons, mTup, mLst, mSl, oNo, oSome, mIsi, anyT, isT, truD, sSet, setR, sRet, retR, sNil, sEx, sDvm, sSt, lstAt, putLst, drefs, dats, List.map_cons, List.map_nil, List.cons_append, List.nil_append, List.append_nil, List.replicate, List.getElem?_cons_zero, List.getElem?_cons_succ, List.set_cons_zero, List.set_cons_succ, List.length_cons, List.length_nil, bind_ok, ofO_some, ofE_ok, oS_some, noX_ok, wp_ok, ws_nx, ws_rt, fz, dref, fIx, atI0, atI1, atI2, ixN_20, ixN_21, ixN_10, Option.map_some, fGt, fGe, fSub, fI, fI0, fAdd, fInt, fLen, lenD, outsOf, parOnly, notSlt, List.take_succ_cons, List.take_zero, if_true, if_false, Bool.false_eq_true, decide_true, decide_false, Bool.not_true, Bool.not_false, fIs, fIsNot, isNoneD, sTg, gmT, gmCons, gmN, gmNil, mPop, sAug, mExt, sPar, and_true, true_and, List.isEmpty_nil, List.isEmpty_cons, Nat.reduceAdd, Nat.reduceLeDiff, Nat.reduceLT, le_sz, lt_sz, fLt_i, fEq_i, fNe_i, fLe_i, dec0, if_pos hl, if_pos h1, decide_eq_true h2, in_kt, hk]
          rw [fin, hk]; simp
        | false =>
          refine ws_nxc (by simp only [sIf, ws_ofE, wp_bind, wp_noX, mTB, mTr, mNotT, mAndT, mOrT, mAnd, mOr, mNot, mIf, mNeg, mBin, bin2, mChain, mVar, mK, mB, mCall_eq, aNil, aCons, mTup, mLst, mSl, oNo, oSome, mIsi, anyT, isT, truD, sSet, setR, sRet, retR, sNil, sEx, sDvm, sSt, lstAt, putLst, drefs, dats, List.map_cons, List.map_nil, List.cons_append, List.nil_append, List.append_nil, List.replicate, List.getElem?_cons_zero, List.getElem?_cons_succ, List.set_cons_zero, List.set_cons_succ, List.length_cons, List.length_nil, bind_ok, ofO_some, ofE_ok, oS_some, noX_ok, wp_ok, ws_nx, ws_rt, fz, dref, fIx, atI0, atI1, atI2, ixN_20, ixN_21, ixN_10, Option.map_some, fGt, fGe, fSub, fI, fI0, fAdd, fInt, fLen, lenD, outsOf, parOnly, notSlt, List.take_succ_cons, List.take_zero, if_true, if_false, Bool.false_eq_true, decide_true, decide_false, Bool.not_true, Bool.not_false, fIs, fIsNot, isNoneD, sTg, gmT, gmCons, gmN, gmNil, mPop, sAug, mExt, sPar, and_true, true_and, List.isEmpty_nil, List.isEmpty_cons, Nat.reduceAdd, Nat.reduceLeDiff, Nat.reduceLT, le_sz, lt_sz, fLt_i, fEq_i, fNe_i, fLe_i, dec0, if_pos hl, if_pos h1, decide_eq_true h2, in_kt, hk]; exact rfl) ?_
          simp only [sIf, ws_ofE, wp_bind, wp_noX, mTB, mTr, mNotT, mAndT, mOrT, mAnd, mOr, mNot, mIf, mNeg, mBin, bin2, mChain, mVar, mK, mB, mCall_eq, aNil, aCons, mTup, mLst, mSl, oNo, oSome, mIsi, anyT, isT, truD, sSet, setR, sRet, retR, sNil, sEx, sDvm, sSt, lstAt, putLst, drefs, dats, List.map_cons, List.map_nil, List.cons_append, List.nil_append, List.append_nil, List.replicate, List.getElem?_cons_zero, List.getElem?_cons_succ, List.set_cons_zero, List.set_cons_succ, List.length_cons, List.length_nil, bind_ok, ofO_some, ofE_ok, oS_some, noX_ok, wp_ok, ws_nx, ws_rt, fz, dref, fIx, atI0, atI1, atI2, ixN_20, ixN_21, ixN_10, Option.map_some, fGt, fGe, fSub, fI, fI0, fAdd, fInt, fLen, lenD, outsOf, parOnly, notSlt, List.take_succ_cons, List.take_zero, if_true, if_false, Bool.false_eq_true, decide_true, decide_false, Bool.not_true, Bool.not_false, fIs, fIsNot, isNoneD, sTg, gmT, gmCons, gmN, gmNil, mPop, sAug, mExt, sPar, and_true, true_and, List.isEmpty_nil, List.isEmpty_cons, Nat.reduceAdd, Nat.reduceLeDiff, Nat.reduceLT, le_sz, lt_sz, fLt_i, fEq_i, fNe_i, fLe_i, dec0, mLcV, mLc, mSeq, itemsOf]
          refine (wp_eq (lc_ltr hl 1 [.dat (.str x), .non] rfl)).mpr ?_
          simp only [sIf, ws_ofE, wp_bind, wp_noX, mTB, mTr, mNotT, mAndT, mOrT, mAnd, mOr, mNot, mIf, mNeg, mBin, bin2, mChain, mVar, mK, mB, mCall_eq, aNil, aCons, mTup, mLst, mSl, oNo, oSome, mIsi, anyT, isT, truD, sSet, setR, sRet, retR, sNil, sEx, sDvm, sSt, lstAt, putLst, drefs, dats, List.map_cons, List.map_nil, List.cons_append, List.nil_append, List.append_nil, List.replicate, List.getElem?_cons_zero, List.getElem?_cons_succ, List.set_cons_zero, List.set_cons_succ, List.length_cons, List.length_nil, bind_ok, ofO_some, ofE_ok, oS_some, noX_ok, wp_ok, ws_nx, ws_rt, fz, dref, fIx, atI0, atI1, atI2, ixN_20, ixN_21, ixN_10, Option.map_some, fGt, fGe, fSub, fI, fI0, fAdd, fInt, fLen, lenD, outsOf, parOnly, notSlt, List.take_succ_cons, List.take_zero, if_true, if_false, Bool.false_eq_true, decide_true, decide_false, Bool.not_true, Bool.not_false, fIs, fIsNot, isNoneD, sTg, gmT, gmCons, gmN, gmNil, mPop, sAug, mExt, sPar, and_true, true_and, List.isEmpty_nil, List.isEmpty_cons, Nat.reduceAdd, Nat.reduceLeDiff, Nat.reduceLT, le_sz, lt_sz, fLt_i, fEq_i, fNe_i, fLe_i, dec0, fAll, all_ltr]
          rw [fin, decide_eq_true h1, decide_eq_true h2, hk, List.all_map]; rfl
      · refine ws_rtc ?_
        simp only [sIf, ws_ofE, wp_bind, wp_noX, mTB, mTr, mNotT, mAndT, mOrT, mAnd, mOr, mNot, mIf, mNeg, mBin, bin2, mChain, mVar, mK, mB, mCall_eq, aNil, aCons, mTup, mLst, mSl, oNo, oSome, mIsi, anyT, isT, truD, sSet, setR, sRet, retR, sNil, sEx, sDvm, sSt, lstAt, putLst, drefs, dats, List.map_cons, List.map_nil, List.cons_append, List.nil_append, List.append_nil, List.replicate, List.getElem?_cons_zero, List.getElem?_cons_succ, List.set_cons_zero, List.set_cons_succ, List.length_cons, List.length_nil, bind_ok, ofO_some, ofE_ok, oS_some, noX_ok, wp_ok, ws_nx, ws_rt, fz, dref, fIx, atI0, atI1, atI2, ixN_20, ixN_21, ixN_10, Option.map_some, fGt, fGe, fSub, fI, fI0, fAdd, fInt, fLen, lenD, outsOf, parOnly, notSlt, List.take_succ_cons, List.take_zero, if_true, if_false, Bool.false_eq_true, decide_true, decide_false, Bool.not_true, Bool.not_false, fIs, fIsNot, isNoneD, sTg, gmT, gmCons, gmN, gmNil, mPop, sAug, mExt, sPar, and_true, true_and, List.isEmpty_nil, List.isEmpty_cons, Nat.reduceAdd, Nat.reduceLeDiff, Nat.reduceLT, le_sz, lt_sz, fLt_i, fEq_i, fNe_i, fLe_i, dec0, if_pos hl, if_pos h1, decide_eq_false h2]
        rw [fin, decide_eq_false h2]; simp
    · refine ws_rtc ?_
      simp only [sIf, ws_ofE, wp_bind, wp_noX, mTB, mTr, mNotT, mAndT, mOrT, mAnd, mOr, mNot, mIf, mNeg, mBin, bin2, mChain, mVar, mK, mB, mCall_eq, aNil, aCons, mTup, mLst, mSl, oNo, oSome, mIsi, anyT, isT, truD, sSet, setR, sRet, retR, sNil, sEx, sDvm, sSt, lstAt, putLst, drefs, dats, List.map_cons, List.map_nil, List.cons_append, List.nil_append, List.append_nil, List.replicate, List.getElem?_cons_zero, List.getElem?_cons_succ, List.set_cons_zero, List.set_cons_succ, List.length_cons, List.length_nil, bind_ok, ofO_some, ofE_ok, oS_some, noX_ok, wp_ok, ws_nx, ws_rt, fz, dref, fIx, atI0, atI1, atI2, ixN_20, ixN_21, ixN_10, Option.map_some, fGt, fGe, fSub, fI, fI0, fAdd, fInt, fLen, lenD, outsOf, parOnly, notSlt, List.take_succ_cons, List.take_zero, if_true, if_false, Bool.false_eq_true, decide_true, decide_false, Bool.not_true, Bool.not_false, fIs, fIsNot, isNoneD, sTg, gmT, gmCons, gmN, gmNil, mPop, sAug, mExt, sPar, and_true, true_and, List.isEmpty_nil, List.isEmpty_cons, Nat.reduceAdd, Nat.reduceLeDiff, Nat.reduceLT, le_sz, lt_sz, fLt_i, fEq_i, fNe_i, fLe_i, dec0, if_pos hl, if_neg h1]
      rw [fin, decide_eq_false h1]; simp
theorem lname_ev {d : D} (h : Sm d) : Ev M__law_is_name [d] (.bool (nameD d)) := by
  unfold Ev M__law_is_name
  cases d with
  | dict es => have := h.1; simp [okD] at this
  | none => refine wp_fn (ws_nxc (by simp only [sIf, ws_ofE, wp_bind, wp_noX, mTB, mTr, mNotT, mAndT, mOrT, mAnd, mOr, mNot, mIf, mNeg, mBin, bin2, mChain, mVar, mK, mB, mCall_eq, aNil, aCons, mTup, mLst, mSl, oNo, oSome, mIsi, anyT, isT, truD, sSet, setR, sRet, retR, sNil, sEx, sDvm, sSt, lstAt, putLst, drefs, dats, List.map_cons, List.map_nil, List.cons_append, List.nil_append, List.append_nil, List.replicate, List.getElem?_cons_zero, List.getElem?_cons_succ, List.set_cons_zero, List.set_cons_succ, List.length_cons, List.length_nil, bind_ok, ofO_some, ofE_ok, oS_some, noX_ok, wp_ok, ws_nx, ws_rt, fz, dref, fIx, atI0, atI1, atI2, ixN_20, ixN_21, ixN_10, Option.map_some, fGt, fGe, fSub, fI, fI0, fAdd, fInt, fLen, lenD, outsOf, parOnly, notSlt, List.take_succ_cons, List.take_zero, if_true, if_false, Bool.false_eq_true, decide_true, decide_false, Bool.not_true, Bool.not_false, fIs, fIsNot, isNoneD, sTg, gmT, gmCons, gmN, gmNil, mPop, sAug, mExt, sPar, and_true, true_and, List.isEmpty_nil, List.isEmpty_cons, Nat.reduceAdd, Nat.reduceLeDiff, Nat.reduceLT, le_sz, lt_sz, fLt_i, fEq_i, fNe_i, fLe_i, dec0]; exact rfl) ?_); simp only [sIf, ws_ofE, wp_bind, wp_noX, mTB, mTr, mNotT, mAndT, mOrT, mAnd, mOr, mNot, mIf, mNeg, mBin, bin2, mChain, mVar, mK, mB, mCall_eq, aNil, aCons, mTup, mLst, mSl, oNo, oSome, mIsi, anyT, isT, truD, sSet, setR, sRet, retR, sNil, sEx, sDvm, sSt, lstAt, putLst, drefs, dats, List.map_cons, List.map_nil, List.cons_append, List.nil_append, List.append_nil, List.replicate, List.getElem?_cons_zero, List.getElem?_cons_succ, List.set_cons_zero, List.set_cons_succ, List.length_cons, List.length_nil, bind_ok, ofO_some, ofE_ok, oS_some, noX_ok, wp_ok, ws_nx, ws_rt, fz, dref, fIx, atI0, atI1, atI2, ixN_20, ixN_21, ixN_10, Option.map_some, fGt, fGe, fSub, fI, fI0, fAdd, fInt, fLen, lenD, outsOf, parOnly, notSlt, List.take_succ_cons, List.take_zero, if_true, if_false, Bool.false_eq_true, decide_true, decide_false, Bool.not_true, Bool.not_false, fIs, fIsNot, isNoneD, sTg, gmT, gmCons, gmN, gmNil, mPop, sAug, mExt, sPar, and_true, true_and, List.isEmpty_nil, List.isEmpty_cons, Nat.reduceAdd, Nat.reduceLeDiff, Nat.reduceLT, le_sz, lt_sz, fLt_i, fEq_i, fNe_i, fLe_i, dec0, ws_seq]; exact rfl
  | bool b => refine wp_fn (ws_nxc (by simp only [sIf, ws_ofE, wp_bind, wp_noX, mTB, mTr, mNotT, mAndT, mOrT, mAnd, mOr, mNot, mIf, mNeg, mBin, bin2, mChain, mVar, mK, mB, mCall_eq, aNil, aCons, mTup, mLst, mSl, oNo, oSome, mIsi, anyT, isT, truD, sSet, setR, sRet, retR, sNil, sEx, sDvm, sSt, lstAt, putLst, drefs, dats, List.map_cons, List.map_nil, List.cons_append, List.nil_append, List.append_nil, List.replicate, List.getElem?_cons_zero, List.getElem?_cons_succ, List.set_cons_zero, List.set_cons_succ, List.length_cons, List.length_nil, bind_ok, ofO_some, ofE_ok, oS_some, noX_ok, wp_ok, ws_nx, ws_rt, fz, dref, fIx, atI0, atI1, atI2, ixN_20, ixN_21, ixN_10, Option.map_some, fGt, fGe, fSub, fI, fI0, fAdd, fInt, fLen, lenD, outsOf, parOnly, notSlt, List.take_succ_cons, List.take_zero, if_true, if_false, Bool.false_eq_true, decide_true, decide_false, Bool.not_true, Bool.not_false, fIs, fIsNot, isNoneD, sTg, gmT, gmCons, gmN, gmNil, mPop, sAug, mExt, sPar, and_true, true_and, List.isEmpty_nil, List.isEmpty_cons, Nat.reduceAdd, Nat.reduceLeDiff, Nat.reduceLT, le_sz, lt_sz, fLt_i, fEq_i, fNe_i, fLe_i, dec0]; exact rfl) ?_); simp only [sIf, ws_ofE, wp_bind, wp_noX, mTB, mTr, mNotT, mAndT, mOrT, mAnd, mOr, mNot, mIf, mNeg, mBin, bin2, mChain, mVar, mK, mB, mCall_eq, aNil, aCons, mTup, mLst, mSl, oNo, oSome, mIsi, anyT, isT, truD, sSet, setR, sRet, retR, sNil, sEx, sDvm, sSt, lstAt, putLst, drefs, dats, List.map_cons, List.map_nil, List.cons_append, List.nil_append, List.append_nil, List.replicate, List.getElem?_cons_zero, List.getElem?_cons_succ, List.set_cons_zero, List.set_cons_succ, List.length_cons, List.length_nil, bind_ok, ofO_some, ofE_ok, oS_some, noX_ok, wp_ok, ws_nx, ws_rt, fz, dref, fIx, atI0, atI1, atI2, ixN_20, ixN_21, ixN_10, Option.map_some, fGt, fGe, fSub, fI, fI0, fAdd, fInt, fLen, lenD, outsOf, parOnly, notSlt, List.take_succ_cons, List.take_zero, if_true, if_false, Bool.false_eq_true, decide_true, decide_false, Bool.not_true, Bool.not_false, fIs, fIsNot, isNoneD, sTg, gmT, gmCons, gmN, gmNil, mPop, sAug, mExt, sPar, and_true, true_and, List.isEmpty_nil, List.isEmpty_cons, Nat.reduceAdd, Nat.reduceLeDiff, Nat.reduceLT, le_sz, lt_sz, fLt_i, fEq_i, fNe_i, fLe_i, dec0, ws_seq]; exact rfl
  | int b => refine wp_fn (ws_nxc (by simp only [sIf, ws_ofE, wp_bind, wp_noX, mTB, mTr, mNotT, mAndT, mOrT, mAnd, mOr, mNot, mIf, mNeg, mBin, bin2, mChain, mVar, mK, mB, mCall_eq, aNil, aCons, mTup, mLst, mSl, oNo, oSome, mIsi, anyT, isT, truD, sSet, setR, sRet, retR, sNil, sEx, sDvm, sSt, lstAt, putLst, drefs, dats, List.map_cons, List.map_nil, List.cons_append, List.nil_append, List.append_nil, List.replicate, List.getElem?_cons_zero, List.getElem?_cons_succ, List.set_cons_zero, List.set_cons_succ, List.length_cons, List.length_nil, bind_ok, ofO_some, ofE_ok, oS_some, noX_ok, wp_ok, ws_nx, ws_rt, fz, dref, fIx, atI0, atI1, atI2, ixN_20, ixN_21, ixN_10, Option.map_some, fGt, fGe, fSub, fI, fI0, fAdd, fInt, fLen, lenD, outsOf, parOnly, notSlt, List.take_succ_cons, List.take_zero, if_true, if_false, Bool.false_eq_true, decide_true, decide_false, Bool.not_true, Bool.not_false, fIs, fIsNot, isNoneD, sTg, gmT, gmCons, gmN, gmNil, mPop, sAug, mExt, sPar, and_true, true_and, List.isEmpty_nil, List.isEmpty_cons, Nat.reduceAdd, Nat.reduceLeDiff, Nat.reduceLT, le_sz, lt_sz, fLt_i, fEq_i, fNe_i, fLe_i, dec0]; exact rfl) ?_); simp only [sIf, ws_ofE, wp_bind, wp_noX, mTB, mTr, mNotT, mAndT, mOrT, mAnd, mOr, mNot, mIf, mNeg, mBin, bin2, mChain, mVar, mK, mB, mCall_eq, aNil, aCons, mTup, mLst, mSl, oNo, oSome, mIsi, anyT, isT, truD, sSet, setR, sRet, retR, sNil, sEx, sDvm, sSt, lstAt, putLst, drefs, dats, List.map_cons, List.map_nil, List.cons_append, List.nil_append, List.append_nil, List.replicate, List.getElem?_cons_zero, List.getElem?_cons_succ, List.set_cons_zero, List.set_cons_succ, List.length_cons, List.length_nil, bind_ok, ofO_some, ofE_ok, oS_some, noX_ok, wp_ok, ws_nx, ws_rt, fz, dref, fIx, atI0, atI1, atI2, ixN_20, ixN_21, ixN_10, Option.map_some, fGt, fGe, fSub, fI, fI0, fAdd, fInt, fLen, lenD, outsOf, parOnly, notSlt, List.take_succ_cons, List.take_zero, if_true, if_false, Bool.false_eq_true, decide_true, decide_false, Bool.not_true, Bool.not_false, fIs, fIsNot, isNoneD, sTg, gmT, gmCons, gmN, gmNil, mPop, sAug, mExt, sPar, and_true, true_and, List.isEmpty_nil, List.isEmpty_cons, Nat.reduceAdd, Nat.reduceLeDiff, Nat.reduceLT, le_sz, lt_sz, fLt_i, fEq_i, fNe_i, fLe_i, dec0, ws_seq]; exact rfl
  | list b => refine wp_fn (ws_nxc (by simp only [sIf, ws_ofE, wp_bind, wp_noX, mTB, mTr, mNotT, mAndT, mOrT, mAnd, mOr, mNot, mIf, mNeg, mBin, bin2, mChain, mVar, mK, mB, mCall_eq, aNil, aCons, mTup, mLst, mSl, oNo, oSome, mIsi, anyT, isT, truD, sSet, setR, sRet, retR, sNil, sEx, sDvm, sSt, lstAt, putLst, drefs, dats, List.map_cons, List.map_nil, List.cons_append, List.nil_append, List.append_nil, List.replicate, List.getElem?_cons_zero, List.getElem?_cons_succ, List.set_cons_zero, List.set_cons_succ, List.length_cons, List.length_nil, bind_ok, ofO_some, ofE_ok, oS_some, noX_ok, wp_ok, ws_nx, ws_rt, fz, dref, fIx, atI0, atI1, atI2, ixN_20, ixN_21, ixN_10, Option.map_some, fGt, fGe, fSub, fI, fI0, fAdd, fInt, fLen, lenD, outsOf, parOnly, notSlt, List.take_succ_cons, List.take_zero, if_true, if_false, Bool.false_eq_true, decide_true, decide_false, Bool.not_true, Bool.not_false, fIs, fIsNot, isNoneD, sTg, gmT, gmCons, gmN, gmNil, mPop, sAug, mExt, sPar, and_true, true_and, List.isEmpty_nil, List.isEmpty_cons, Nat.reduceAdd, Nat.reduceLeDiff, Nat.reduceLT, le_sz, lt_sz, fLt_i, fEq_i, fNe_i, fLe_i, dec0]; exact rfl) ?_); simp only [sIf, ws_ofE, wp_bind, wp_noX, mTB, mTr, mNotT, mAndT, mOrT, mAnd, mOr, mNot, mIf, mNeg, mBin, bin2, mChain, mVar, mK, mB, mCall_eq, aNil, aCons, mTup, mLst, mSl, oNo, oSome, mIsi, anyT, isT, truD, sSet, setR, sRet, retR, sNil, sEx, sDvm, sSt, lstAt, putLst, drefs, dats, List.map_cons, List.map_nil, List.cons_append, List.nil_append, List.append_nil, List.replicate, List.getElem?_cons_zero, List.getElem?_cons_succ, List.set_cons_zero, List.set_cons_succ, List.length_cons, List.length_nil, bind_ok, ofO_some, ofE_ok, oS_some, noX_ok, wp_ok, ws_nx, ws_rt, fz, dref, fIx, atI0, atI1, atI2, ixN_20, ixN_21, ixN_10, Option.map_some, fGt, fGe, fSub, fI, fI0, fAdd, fInt, fLen, lenD, outsOf, parOnly, notSlt, List.take_succ_cons, List.take_zero, if_true, if_false, Bool.false_eq_true, decide_true, decide_false, Bool.not_true, Bool.not_false, fIs, fIsNot, isNoneD, sTg, gmT, gmCons, gmN, gmNil, mPop, sAug, mExt, sPar, and_true, true_and, List.isEmpty_nil, List.isEmpty_cons, Nat.reduceAdd, Nat.reduceLeDiff, Nat.reduceLT, le_sz, lt_sz, fLt_i, fEq_i, fNe_i, fLe_i, dec0, ws_seq]; exact rfl
  | tuple b => refine wp_fn (ws_nxc (by simp only [sIf, ws_ofE, wp_bind, wp_noX, mTB, mTr, mNotT, mAndT, mOrT, mAnd, mOr, mNot, mIf, mNeg, mBin, bin2, mChain, mVar, mK, mB, mCall_eq, aNil, aCons, mTup, mLst, mSl, oNo, oSome, mIsi, anyT, isT, truD, sSet, setR, sRet, retR, sNil, sEx, sDvm, sSt, lstAt, putLst, drefs, dats, List.map_cons, List.map_nil, List.cons_append, List.nil_append, List.append_nil, List.replicate, List.getElem?_cons_zero, List.getElem?_cons_succ, List.set_cons_zero, List.set_cons_succ, List.length_cons, List.length_nil, bind_ok, ofO_some, ofE_ok, oS_some, noX_ok, wp_ok, ws_nx, ws_rt, fz, dref, fIx, atI0, atI1, atI2, ixN_20, ixN_21, ixN_10, Option.map_some, fGt, fGe, fSub, fI, fI0, fAdd, fInt, fLen, lenD, outsOf, parOnly, notSlt, List.take_succ_cons, List.take_zero, if_true, if_false, Bool.false_eq_true, decide_true, decide_false, Bool.not_true, Bool.not_false, fIs, fIsNot, isNoneD, sTg, gmT, gmCons, gmN, gmNil, mPop, sAug, mExt, sPar, and_true, true_and, List.isEmpty_nil, List.isEmpty_cons, Nat.reduceAdd, Nat.reduceLeDiff, Nat.reduceLT, le_sz, lt_sz, fLt_i, fEq_i, fNe_i, fLe_i, dec0]; exact rfl) ?_); simp only [sIf, ws_ofE, wp_bind, wp_noX, mTB, mTr, mNotT, mAndT, mOrT, mAnd, mOr, mNot, mIf, mNeg, mBin, bin2, mChain, mVar, mK, mB, mCall_eq, aNil, aCons, mTup, mLst, mSl, oNo, oSome, mIsi, anyT, isT, truD, sSet, setR, sRet, retR, sNil, sEx, sDvm, sSt, lstAt, putLst, drefs, dats, List.map_cons, List.map_nil, List.cons_append, List.nil_append, List.append_nil, List.replicate, List.getElem?_cons_zero, List.getElem?_cons_succ, List.set_cons_zero, List.set_cons_succ, List.length_cons, List.length_nil, bind_ok, ofO_some, ofE_ok, oS_some, noX_ok, wp_ok, ws_nx, ws_rt, fz, dref, fIx, atI0, atI1, atI2, ixN_20, ixN_21, ixN_10, Option.map_some, fGt, fGe, fSub, fI, fI0, fAdd, fInt, fLen, lenD, outsOf, parOnly, notSlt, List.take_succ_cons, List.take_zero, if_true, if_false, Bool.false_eq_true, decide_true, decide_false, Bool.not_true, Bool.not_false, fIs, fIsNot, isNoneD, sTg, gmT, gmCons, gmN, gmNil, mPop, sAug, mExt, sPar, and_true, true_and, List.isEmpty_nil, List.isEmpty_cons, Nat.reduceAdd, Nat.reduceLeDiff, Nat.reduceLT, le_sz, lt_sz, fLt_i, fEq_i, fNe_i, fLe_i, dec0, ws_seq]; exact rfl
  | str x =>
    have hl := okS_len (sm_okS h)
    refine wp_fn (ws_nxc (by simp only [sIf, ws_ofE, wp_bind, wp_noX, mTB, mTr, mNotT, mAndT, mOrT, mAnd, mOr, mNot, mIf, mNeg, mBin, bin2, mChain, mVar, mK, mB, mCall_eq, aNil, aCons, mTup, mLst, mSl, oNo, oSome, mIsi, anyT, isT, truD, sSet, setR, sRet, retR, sNil, sEx, sDvm, sSt, lstAt, putLst, drefs, dats, List.map_cons, List.map_nil, List.cons_append, List.nil_append, List.append_nil, List.replicate, List.getElem?_cons_zero, List.getElem?_cons_succ, List.set_cons_zero, List.set_cons_succ, List.length_cons, List.length_nil, bind_ok, ofO_some, ofE_ok, oS_some, noX_ok, wp_ok, ws_nx, ws_rt, fz, dref, fIx, atI0, atI1, atI2, ixN_20, ixN_21, ixN_10, Option.map_some, fGt, fGe, fSub, fI, fI0, fAdd, fInt, fLen, lenD, outsOf, parOnly, notSlt, List.take_succ_cons, List.take_zero, if_true, if_false, Bool.false_eq_true, decide_true, decide_false, Bool.not_true, Bool.not_false, fIs, fIsNot, isNoneD, sTg, gmT, gmCons, gmN, gmNil, mPop, sAug, mExt, sPar, and_true, true_and, List.isEmpty_nil, List.isEmpty_cons, Nat.reduceAdd, Nat.reduceLeDiff, Nat.reduceLT, le_sz, lt_sz, fLt_i, fEq_i, fNe_i, fLe_i, dec0]; exact rfl) ?_)
    have fin : nmS x = (decide (1 ≤ (x.length : Int)) && decide ((x.length : Int) ≤ 12) && !inK x && (chars x).all ltr) := rfl
    show Ws _ _ fun r ρ => notSlt r = true ∧ r = .dat (.bool (nmS x))
    cases hk : inK x with
    | true =>
      refine ws_rtc ?_
      simp only [sIf, ws_ofE, wp_bind, wp_noX, mTB, mTr, mNotT, mAndT, mOrT, mAnd, mOr, mNot, mIf, mNeg, mBin, bin2, mChain, mVar, mK, mB, mCall_eq, aNil, aCons, mTup, mLst, mSl, oNo, oSome, mIsi, anyT, isT, truD, sSet, setR, sRet, retR, sNil, sEx, sDvm, sSt, lstAt, putLst, drefs, dats, List.map_cons, List.map_nil, List.cons_append, List.nil_append, List.append_nil, List.replicate, List.getElem?_cons_zero, List.getElem?_cons_succ, List.set_cons_zero, List.set_cons_succ, List.length_cons, List.length_nil, bind_ok, ofO_some, ofE_ok, oS_some, noX_ok, wp_ok, ws_nx, ws_rt, fz, dref, fIx, atI0, atI1, atI2, ixN_20, ixN_21, ixN_10, Option.map_some, fGt, fGe, fSub, fI, fI0, fAdd, fInt, fLen, lenD, outsOf, parOnly, notSlt, List.take_succ_cons, List.take_zero, if_true, if_false, Bool.false_eq_true, decide_true, decide_false, Bool.not_true, Bool.not_false, fIs, fIsNot, isNoneD, sTg, gmT, gmCons, gmN, gmNil, mPop, sAug, mExt, sPar, and_true, true_and, List.isEmpty_nil, List.isEmpty_cons, Nat.reduceAdd, Nat.reduceLeDiff, Nat.reduceLT, le_sz, lt_sz, fLt_i, fEq_i, fNe_i, fLe_i, dec0, in_kl, hk]
      rw [fin, hk]; simp
    | false =>
      by_cases h1 : (1 : Int) ≤ (x.length : Int)
      · by_cases h2 : (x.length : Int) ≤ 12
        · refine ws_nxc (by simp only [sIf, ws_ofE, wp_bind, wp_noX, mTB, mTr, mNotT, mAndT, mOrT, mAnd, mOr, mNot, mIf, mNeg, mBin, bin2, mChain, mVar, mK, mB, mCall_eq, aNil, aCons, mTup, mLst, mSl, oNo, oSome, mIsi, anyT, isT, truD, sSet, setR, sRet, retR, sNil, sEx, sDvm, sSt, lstAt, putLst, drefs, dats, List.map_cons, List.map_nil, List.cons_append, List.nil_append, List.append_nil, List.replicate, List.getElem?_cons_zero, List.getElem?_cons_succ, List.set_cons_zero, List.set_cons_succ, List.length_cons, List.length_nil, bind_ok, ofO_some, ofE_ok, oS_some, noX_ok, wp_ok, ws_nx, ws_rt, fz, dref, fIx, atI0, atI1, atI2, ixN_20, ixN_21, ixN_10, Option.map_some, fGt, fGe, fSub, fI, fI0, fAdd, fInt, fLen, lenD, outsOf, parOnly, notSlt, List.take_succ_cons, List.take_zero, if_true, if_false, Bool.false_eq_true, decide_true, decide_false, Bool.not_true, Bool.not_false, fIs, fIsNot, isNoneD, sTg, gmT, gmCons, gmN, gmNil, mPop, sAug, mExt, sPar, and_true, true_and, List.isEmpty_nil, List.isEmpty_cons, Nat.reduceAdd, Nat.reduceLeDiff, Nat.reduceLT, le_sz, lt_sz, fLt_i, fEq_i, fNe_i, fLe_i, dec0, if_pos hl, if_pos h1, decide_eq_true h2, in_kl, hk]; exact rfl) ?_
          simp only [sIf, ws_ofE, wp_bind, wp_noX, mTB, mTr, mNotT, mAndT, mOrT, mAnd, mOr, mNot, mIf, mNeg, mBin, bin2, mChain, mVar, mK, mB, mCall_eq, aNil, aCons, mTup, mLst, mSl, oNo, oSome, mIsi, anyT, isT, truD, sSet, setR, sRet, retR, sNil, sEx, sDvm, sSt, lstAt, putLst, drefs, dats, List.map_cons, List.map_nil, List.cons_append, List.nil_append, List.append_nil, List.replicate, List.getElem?_cons_zero, List.getElem?_cons_succ, List.set_cons_zero, List.set_cons_succ, List.length_cons, List.length_nil, bind_ok, ofO_some, ofE_ok, oS_some, noX_ok, wp_ok, ws_nx, ws_rt, fz, dref, fIx, atI0, atI1, atI2, ixN_20, ixN_21, ixN_10, Option.map_some, fGt, fGe, fSub, fI, fI0, fAdd, fInt, fLen, lenD, outsOf, parOnly, notSlt, List.take_succ_cons, List.take_zero, if_true, if_false, Bool.false_eq_true, decide_true, decide_false, Bool.not_true, Bool.not_false, fIs, fIsNot, isNoneD, sTg, gmT, gmCons, gmN, gmNil, mPop, sAug, mExt, sPar, and_true, true_and, List.isEmpty_nil, List.isEmpty_cons, Nat.reduceAdd, Nat.reduceLeDiff, Nat.reduceLT, le_sz, lt_sz, fLt_i, fEq_i, fNe_i, fLe_i, dec0, mLcV, mLc, mSeq, itemsOf]
          refine (wp_eq (lc_ltr hl 2 [.dat (.str x), .own (.lst kts), .non] rfl)).mpr ?_
          simp only [sIf, ws_ofE, wp_bind, wp_noX, mTB, mTr, mNotT, mAndT, mOrT, mAnd, mOr, mNot, mIf, mNeg, mBin, bin2, mChain, mVar, mK, mB, mCall_eq, aNil, aCons, mTup, mLst, mSl, oNo, oSome, mIsi, anyT, isT, truD, sSet, setR, sRet, retR, sNil, sEx, sDvm, sSt, lstAt, putLst, drefs, dats, List.map_cons, List.map_nil, List.cons_append, List.nil_append, List.append_nil, List.replicate, List.getElem?_cons_zero, List.getElem?_cons_succ, List.set_cons_zero, List.set_cons_succ, List.length_cons, List.length_nil, bind_ok, ofO_some, ofE_ok, oS_some, noX_ok, wp_ok, ws_nx, ws_rt, fz, dref, fIx, atI0, atI1, atI2, ixN_20, ixN_21, ixN_10, Option.map_some, fGt, fGe, fSub, fI, fI0, fAdd, fInt, fLen, lenD, outsOf, parOnly, notSlt, List.take_succ_cons, List.take_zero, if_true, if_false, Bool.false_eq_true, decide_true, decide_false, Bool.not_true, Bool.not_false, fIs, fIsNot, isNoneD, sTg, gmT, gmCons, gmN, gmNil, mPop, sAug, mExt, sPar, and_true, true_and, List.isEmpty_nil, List.isEmpty_cons, Nat.reduceAdd, Nat.reduceLeDiff, Nat.reduceLT, le_sz, lt_sz, fLt_i, fEq_i, fNe_i, fLe_i, dec0, fAll, all_ltr]
          rw [fin, decide_eq_true h1, decide_eq_true h2, hk, List.all_map]; rfl
        · refine ws_rtc ?_
          simp only [sIf, ws_ofE, wp_bind, wp_noX, mTB, mTr, mNotT, mAndT, mOrT, mAnd, mOr, mNot, mIf, mNeg, mBin, bin2, mChain, mVar, mK, mB, mCall_eq, aNil, aCons, mTup, mLst, mSl, oNo, oSome, mIsi, anyT, isT, truD, sSet, setR, sRet, retR, sNil, sEx, sDvm, sSt, lstAt, putLst, drefs, dats, List.map_cons, List.map_nil, List.cons_append, List.nil_append, List.append_nil, List.replicate, List.getElem?_cons_zero, List.getElem?_cons_succ, List.set_cons_zero, List.set_cons_succ, List.length_cons, List.length_nil, bind_ok, ofO_some, ofE_ok, oS_some, noX_ok, wp_ok, ws_nx, ws_rt, fz, dref, fIx, atI0, atI1, atI2, ixN_20, ixN_21, ixN_10, Option.map_some, fGt, fGe, fSub, fI, fI0, fAdd, fInt, fLen, lenD, outsOf, parOnly, notSlt, List.take_succ_cons, List.take_zero, if_true, if_false, Bool.false_eq_true, decide_true, decide_false, Bool.not_true, Bool.not_false, fIs, fIsNot, isNoneD, sTg, gmT, gmCons, gmN, gmNil, mPop, sAug, mExt, sPar, and_true, true_and, List.isEmpty_nil, List.isEmpty_cons, Nat.reduceAdd, Nat.reduceLeDiff, Nat.reduceLT, le_sz, lt_sz, fLt_i, fEq_i, fNe_i, fLe_i, dec0, if_pos hl, if_pos h1, decide_eq_false h2, in_kl, hk]
          rw [fin, decide_eq_false h2]; simp
      · refine ws_rtc ?_
        simp only [sIf, ws_ofE, wp_bind, wp_noX, mTB, mTr, mNotT, mAndT, mOrT, mAnd, mOr, mNot, mIf, mNeg, mBin, bin2, mChain, mVar, mK, mB, mCall_eq, aNil, aCons, mTup, mLst, mSl, oNo, oSome, mIsi, anyT, isT, truD, sSet, setR, sRet, retR, sNil, sEx, sDvm, sSt, lstAt, putLst, drefs, dats, List.map_cons, List.map_nil, List.cons_append, List.nil_append, List.append_nil, List.replicate, List.getElem?_cons_zero, List.getElem?_cons_succ, List.set_cons_zero, List.set_cons_succ, List.length_cons, List.length_nil, bind_ok, ofO_some, ofE_ok, oS_some, noX_ok, wp_ok, ws_nx, ws_rt, fz, dref, fIx, atI0, atI1, atI2, ixN_20, ixN_21, ixN_10, Option.map_some, fGt, fGe, fSub, fI, fI0, fAdd, fInt, fLen, lenD, outsOf, parOnly, notSlt, List.take_succ_cons, List.take_zero, if_true, if_false, Bool.false_eq_true, decide_true, decide_false, Bool.not_true, Bool.not_false, fIs, fIsNot, isNoneD, sTg, gmT, gmCons, gmN, gmNil, mPop, sAug, mExt, sPar, and_true, true_and, List.isEmpty_nil, List.isEmpty_cons, Nat.reduceAdd, Nat.reduceLeDiff, Nat.reduceLT, le_sz, lt_sz, fLt_i, fEq_i, fNe_i, fLe_i, dec0, if_pos hl, if_neg h1, in_kl, hk]
        rw [fin, decide_eq_false h1]; simp
end Lw
end Vl

set_option Elab.async false
set_option linter.all false
set_option maxRecDepth 100000
namespace Vl
open PySem PySem.Spec PyProof.Rows L2
namespace Lw
def toldD (d : D) (w : Str) (k : Nat) : Bool := match d with
  | .tuple (.str x :: r) => decide (r.length + 1 = k) && (x == w)
  | _ => false
theorem told_ev {d : D} (h : Sm d) {w : Str} (hw : okS w = true) {k : Nat} (hk : 1 ≤ k) : Ev M_is_told [d, .str w, .int k] (.bool (toldD d w k)) := by
  unfold Ev M_is_told
  refine wp_fn ?_
  cases d with
  | dict es => have := h.1; simp [okD] at this
  | none => simp only [sIf, ws_ofE, wp_bind, wp_noX, mTB, mTr, mNotT, mAndT, mOrT, mAnd, mOr, mNot, mIf, mNeg, mBin, bin2, mChain, mVar, mK, mB, mCall_eq, aNil, aCons, mTup, mLst, mSl, oNo, oSome, mIsi, anyT, isT, truD, sSet, setR, sRet, retR, sNil, sEx, sDvm, sSt, lstAt, putLst, drefs, dats, List.map_cons, List.map_nil, List.cons_append, List.nil_append, List.append_nil, List.replicate, List.getElem?_cons_zero, List.getElem?_cons_succ, List.set_cons_zero, List.set_cons_succ, List.length_cons, List.length_nil, bind_ok, ofO_some, ofE_ok, oS_some, noX_ok, wp_ok, ws_nx, ws_rt, fz, dref, fIx, atI0, atI1, atI2, ixN_20, ixN_21, ixN_10, Option.map_some, fGt, fGe, fSub, fI, fI0, fAdd, fInt, fLen, lenD, outsOf, parOnly, notSlt, List.take_succ_cons, List.take_zero, if_true, if_false, Bool.false_eq_true, decide_true, decide_false, Bool.not_true, Bool.not_false, fIs, fIsNot, isNoneD, sTg, gmT, gmCons, gmN, gmNil, mPop, sAug, mExt, sPar, and_true, true_and, List.isEmpty_nil, List.isEmpty_cons, Nat.reduceAdd, Nat.reduceLeDiff, Nat.reduceLT, le_sz, lt_sz, fLt_i, fEq_i, fNe_i, fLe_i, dec0]; exact rfl
  | bool b => simp only [sIf, ws_ofE, wp_bind, wp_noX, mTB, mTr, mNotT, mAndT, mOrT, mAnd, mOr, mNot, mIf, mNeg, mBin, bin2, mChain, mVar, mK, mB, mCall_eq, aNil, aCons, mTup, mLst, mSl, oNo, oSome, mIsi, anyT, isT, truD, sSet, setR, sRet, retR, sNil, sEx, sDvm, sSt, lstAt, putLst, drefs, dats, List.map_cons, List.map_nil, List.cons_append, List.nil_append, List.append_nil, List.replicate, List.getElem?_cons_zero, List.getElem?_cons_succ, List.set_cons_zero, List.set_cons_succ, List.length_cons, List.length_nil, bind_ok, ofO_some, ofE_ok, oS_some, noX_ok, wp_ok, ws_nx, ws_rt, fz, dref, fIx, atI0, atI1, atI2, ixN_20, ixN_21, ixN_10, Option.map_some, fGt, fGe, fSub, fI, fI0, fAdd, fInt, fLen, lenD, outsOf, parOnly, notSlt, List.take_succ_cons, List.take_zero, if_true, if_false, Bool.false_eq_true, decide_true, decide_false, Bool.not_true, Bool.not_false, fIs, fIsNot, isNoneD, sTg, gmT, gmCons, gmN, gmNil, mPop, sAug, mExt, sPar, and_true, true_and, List.isEmpty_nil, List.isEmpty_cons, Nat.reduceAdd, Nat.reduceLeDiff, Nat.reduceLT, le_sz, lt_sz, fLt_i, fEq_i, fNe_i, fLe_i, dec0]; exact rfl
  | int b => simp only [sIf, ws_ofE, wp_bind, wp_noX, mTB, mTr, mNotT, mAndT, mOrT, mAnd, mOr, mNot, mIf, mNeg, mBin, bin2, mChain, mVar, mK, mB, mCall_eq, aNil, aCons, mTup, mLst, mSl, oNo, oSome, mIsi, anyT, isT, truD, sSet, setR, sRet, retR, sNil, sEx, sDvm, sSt, lstAt, putLst, drefs, dats, List.map_cons, List.map_nil, List.cons_append, List.nil_append, List.append_nil, List.replicate, List.getElem?_cons_zero, List.getElem?_cons_succ, List.set_cons_zero, List.set_cons_succ, List.length_cons, List.length_nil, bind_ok, ofO_some, ofE_ok, oS_some, noX_ok, wp_ok, ws_nx, ws_rt, fz, dref, fIx, atI0, atI1, atI2, ixN_20, ixN_21, ixN_10, Option.map_some, fGt, fGe, fSub, fI, fI0, fAdd, fInt, fLen, lenD, outsOf, parOnly, notSlt, List.take_succ_cons, List.take_zero, if_true, if_false, Bool.false_eq_true, decide_true, decide_false, Bool.not_true, Bool.not_false, fIs, fIsNot, isNoneD, sTg, gmT, gmCons, gmN, gmNil, mPop, sAug, mExt, sPar, and_true, true_and, List.isEmpty_nil, List.isEmpty_cons, Nat.reduceAdd, Nat.reduceLeDiff, Nat.reduceLT, le_sz, lt_sz, fLt_i, fEq_i, fNe_i, fLe_i, dec0]; exact rfl
  | list b => simp only [sIf, ws_ofE, wp_bind, wp_noX, mTB, mTr, mNotT, mAndT, mOrT, mAnd, mOr, mNot, mIf, mNeg, mBin, bin2, mChain, mVar, mK, mB, mCall_eq, aNil, aCons, mTup, mLst, mSl, oNo, oSome, mIsi, anyT, isT, truD, sSet, setR, sRet, retR, sNil, sEx, sDvm, sSt, lstAt, putLst, drefs, dats, List.map_cons, List.map_nil, List.cons_append, List.nil_append, List.append_nil, List.replicate, List.getElem?_cons_zero, List.getElem?_cons_succ, List.set_cons_zero, List.set_cons_succ, List.length_cons, List.length_nil, bind_ok, ofO_some, ofE_ok, oS_some, noX_ok, wp_ok, ws_nx, ws_rt, fz, dref, fIx, atI0, atI1, atI2, ixN_20, ixN_21, ixN_10, Option.map_some, fGt, fGe, fSub, fI, fI0, fAdd, fInt, fLen, lenD, outsOf, parOnly, notSlt, List.take_succ_cons, List.take_zero, if_true, if_false, Bool.false_eq_true, decide_true, decide_false, Bool.not_true, Bool.not_false, fIs, fIsNot, isNoneD, sTg, gmT, gmCons, gmN, gmNil, mPop, sAug, mExt, sPar, and_true, true_and, List.isEmpty_nil, List.isEmpty_cons, Nat.reduceAdd, Nat.reduceLeDiff, Nat.reduceLT, le_sz, lt_sz, fLt_i, fEq_i, fNe_i, fLe_i, dec0]; exact rfl
  | str b => simp only [sIf, ws_ofE, wp_bind, wp_noX, mTB, mTr, mNotT, mAndT, mOrT, mAnd, mOr, mNot, mIf, mNeg, mBin, bin2, mChain, mVar, mK, mB, mCall_eq, aNil, aCons, mTup, mLst, mSl, oNo, oSome, mIsi, anyT, isT, truD, sSet, setR, sRet, retR, sNil, sEx, sDvm, sSt, lstAt, putLst, drefs, dats, List.map_cons, List.map_nil, List.cons_append, List.nil_append, List.append_nil, List.replicate, List.getElem?_cons_zero, List.getElem?_cons_succ, List.set_cons_zero, List.set_cons_succ, List.length_cons, List.length_nil, bind_ok, ofO_some, ofE_ok, oS_some, noX_ok, wp_ok, ws_nx, ws_rt, fz, dref, fIx, atI0, atI1, atI2, ixN_20, ixN_21, ixN_10, Option.map_some, fGt, fGe, fSub, fI, fI0, fAdd, fInt, fLen, lenD, outsOf, parOnly, notSlt, List.take_succ_cons, List.take_zero, if_true, if_false, Bool.false_eq_true, decide_true, decide_false, Bool.not_true, Bool.not_false, fIs, fIsNot, isNoneD, sTg, gmT, gmCons, gmN, gmNil, mPop, sAug, mExt, sPar, and_true, true_and, List.isEmpty_nil, List.isEmpty_cons, Nat.reduceAdd, Nat.reduceLeDiff, Nat.reduceLT, le_sz, lt_sz, fLt_i, fEq_i, fNe_i, fLe_i, dec0]; exact rfl
  | tuple ds =>
    cases ds with
    | nil =>
      simp only [sIf, ws_ofE, wp_bind, wp_noX, mTB, mTr, mNotT, mAndT, mOrT, mAnd, mOr, mNot, mIf, mNeg, mBin, bin2, mChain, mVar, mK, mB, mCall_eq, aNil, aCons, mTup, mLst, mSl, oNo, oSome, mIsi, anyT, isT, truD, sSet, setR, sRet, retR, sNil, sEx, sDvm, sSt, lstAt, putLst, drefs, dats, List.map_cons, List.map_nil, List.cons_append, List.nil_append, List.append_nil, List.replicate, List.getElem?_cons_zero, List.getElem?_cons_succ, List.set_cons_zero, List.set_cons_succ, List.length_cons, List.length_nil, bind_ok, ofO_some, ofE_ok, oS_some, noX_ok, wp_ok, ws_nx, ws_rt, fz, dref, fIx, atI0, atI1, atI2, ixN_20, ixN_21, ixN_10, Option.map_some, fGt, fGe, fSub, fI, fI0, fAdd, fInt, fLen, lenD, outsOf, parOnly, notSlt, List.take_succ_cons, List.take_zero, if_true, if_false, Bool.false_eq_true, decide_true, decide_false, Bool.not_true, Bool.not_false, fIs, fIsNot, isNoneD, sTg, gmT, gmCons, gmN, gmNil, mPop, sAug, mExt, sPar, and_true, true_and, List.isEmpty_nil, List.isEmpty_cons, Nat.reduceAdd, Nat.reduceLeDiff, Nat.reduceLT, le_sz, lt_sz, fLt_i, fEq_i, fNe_i, fLe_i, dec0, decide_eq_false (show ¬ ((0 : Nat) : Int) = (k : Int) by omega)]
      exact rfl
    | cons e r =>
      by_cases hl : r.length + 1 = k
      · have hl' : ((r.length + 1 : Nat) : Int) = (k : Int) := by omega
        simp only [sIf, ws_ofE, wp_bind, wp_noX, mTB, mTr, mNotT, mAndT, mOrT, mAnd, mOr, mNot, mIf, mNeg, mBin, bin2, mChain, mVar, mK, mB, mCall_eq, aNil, aCons, mTup, mLst, mSl, oNo, oSome, mIsi, anyT, isT, truD, sSet, setR, sRet, retR, sNil, sEx, sDvm, sSt, lstAt, putLst, drefs, dats, List.map_cons, List.map_nil, List.cons_append, List.nil_append, List.append_nil, List.replicate, List.getElem?_cons_zero, List.getElem?_cons_succ, List.set_cons_zero, List.set_cons_succ, List.length_cons, List.length_nil, bind_ok, ofO_some, ofE_ok, oS_some, noX_ok, wp_ok, ws_nx, ws_rt, fz, dref, fIx, atI0, atI1, atI2, ixN_20, ixN_21, ixN_10, Option.map_some, fGt, fGe, fSub, fI, fI0, fAdd, fInt, fLen, lenD, outsOf, parOnly, notSlt, List.take_succ_cons, List.take_zero, if_true, if_false, Bool.false_eq_true, decide_true, decide_false, Bool.not_true, Bool.not_false, fIs, fIsNot, isNoneD, sTg, gmT, gmCons, gmN, gmNil, mPop, sAug, mExt, sPar, and_true, true_and, List.isEmpty_nil, List.isEmpty_cons, Nat.reduceAdd, Nat.reduceLeDiff, Nat.reduceLT, le_sz, lt_sz, fLt_i, fEq_i, fNe_i, fLe_i, dec0, decide_eq_true hl']
        have he := h.sub (d := e) (by simp)
        cases e with
        | dict es => have := he.1; simp [okD] at this
        | none => simp only [sIf, ws_ofE, wp_bind, wp_noX, mTB, mTr, mNotT, mAndT, mOrT, mAnd, mOr, mNot, mIf, mNeg, mBin, bin2, mChain, mVar, mK, mB, mCall_eq, aNil, aCons, mTup, mLst, mSl, oNo, oSome, mIsi, anyT, isT, truD, sSet, setR, sRet, retR, sNil, sEx, sDvm, sSt, lstAt, putLst, drefs, dats, List.map_cons, List.map_nil, List.cons_append, List.nil_append, List.append_nil, List.replicate, List.getElem?_cons_zero, List.getElem?_cons_succ, List.set_cons_zero, List.set_cons_succ, List.length_cons, List.length_nil, bind_ok, ofO_some, ofE_ok, oS_some, noX_ok, wp_ok, ws_nx, ws_rt, fz, dref, fIx, atI0, atI1, atI2, ixN_20, ixN_21, ixN_10, Option.map_some, fGt, fGe, fSub, fI, fI0, fAdd, fInt, fLen, lenD, outsOf, parOnly, notSlt, List.take_succ_cons, List.take_zero, if_true, if_false, Bool.false_eq_true, decide_true, decide_false, Bool.not_true, Bool.not_false, fIs, fIsNot, isNoneD, sTg, gmT, gmCons, gmN, gmNil, mPop, sAug, mExt, sPar, and_true, true_and, List.isEmpty_nil, List.isEmpty_cons, Nat.reduceAdd, Nat.reduceLeDiff, Nat.reduceLT, le_sz, lt_sz, fLt_i, fEq_i, fNe_i, fLe_i, dec0]; exact rfl
        | bool b => simp only [sIf, ws_ofE, wp_bind, wp_noX, mTB, mTr, mNotT, mAndT, mOrT, mAnd, mOr, mNot, mIf, mNeg, mBin, bin2, mChain, mVar, mK, mB, mCall_eq, aNil, aCons, mTup, mLst, mSl, oNo, oSome, mIsi, anyT, isT, truD, sSet, setR, sRet, retR, sNil, sEx, sDvm, sSt, lstAt, putLst, drefs, dats, List.map_cons, List.map_nil, List.cons_append, List.nil_append, List.append_nil, List.replicate, List.getElem?_cons_zero, List.getElem?_cons_succ, List.set_cons_zero, List.set_cons_succ, List.length_cons, List.length_nil, bind_ok, ofO_some, ofE_ok, oS_some, noX_ok, wp_ok, ws_nx, ws_rt, fz, dref, fIx, atI0, atI1, atI2, ixN_20, ixN_21, ixN_10, Option.map_some, fGt, fGe, fSub, fI, fI0, fAdd, fInt, fLen, lenD, outsOf, parOnly, notSlt, List.take_succ_cons, List.take_zero, if_true, if_false, Bool.false_eq_true, decide_true, decide_false, Bool.not_true, Bool.not_false, fIs, fIsNot, isNoneD, sTg, gmT, gmCons, gmN, gmNil, mPop, sAug, mExt, sPar, and_true, true_and, List.isEmpty_nil, List.isEmpty_cons, Nat.reduceAdd, Nat.reduceLeDiff, Nat.reduceLT, le_sz, lt_sz, fLt_i, fEq_i, fNe_i, fLe_i, dec0]; exact rfl
        | int b => simp only [sIf, ws_ofE, wp_bind, wp_noX, mTB, mTr, mNotT, mAndT, mOrT, mAnd, mOr, mNot, mIf, mNeg, mBin, bin2, mChain, mVar, mK, mB, mCall_eq, aNil, aCons, mTup, mLst, mSl, oNo, oSome, mIsi, anyT, isT, truD, sSet, setR, sRet, retR, sNil, sEx, sDvm, sSt, lstAt, putLst, drefs, dats, List.map_cons, List.map_nil, List.cons_append, List.nil_append, List.append_nil, List.replicate, List.getElem?_cons_zero, List.getElem?_cons_succ, List.set_cons_zero, List.set_cons_succ, List.length_cons, List.length_nil, bind_ok, ofO_some, ofE_ok, oS_some, noX_ok, wp_ok, ws_nx, ws_rt, fz, dref, fIx, atI0, atI1, atI2, ixN_20, ixN_21, ixN_10, Option.map_some, fGt, fGe, fSub, fI, fI0, fAdd, fInt, fLen, lenD, outsOf, parOnly, notSlt, List.take_succ_cons, List.take_zero, if_true, if_false, Bool.false_eq_true, decide_true, decide_false, Bool.not_true, Bool.not_false, fIs, fIsNot, isNoneD, sTg, gmT, gmCons, gmN, gmNil, mPop, sAug, mExt, sPar, and_true, true_and, List.isEmpty_nil, List.isEmpty_cons, Nat.reduceAdd, Nat.reduceLeDiff, Nat.reduceLT, le_sz, lt_sz, fLt_i, fEq_i, fNe_i, fLe_i, dec0]; exact rfl
        | list b => simp only [sIf, ws_ofE, wp_bind, wp_noX, mTB, mTr, mNotT, mAndT, mOrT, mAnd, mOr, mNot, mIf, mNeg, mBin, bin2, mChain, mVar, mK, mB, mCall_eq, aNil, aCons, mTup, mLst, mSl, oNo, oSome, mIsi, anyT, isT, truD, sSet, setR, sRet, retR, sNil, sEx, sDvm, sSt, lstAt, putLst, drefs, dats, List.map_cons, List.map_nil, List.cons_append, List.nil_append, List.append_nil, List.replicate, List.getElem?_cons_zero, List.getElem?_cons_succ, List.set_cons_zero, List.set_cons_succ, List.length_cons, List.length_nil, bind_ok, ofO_some, ofE_ok, oS_some, noX_ok, wp_ok, ws_nx, ws_rt, fz, dref, fIx, atI0, atI1, atI2, ixN_20, ixN_21, ixN_10, Option.map_some, fGt, fGe, fSub, fI, fI0, fAdd, fInt, fLen, lenD, outsOf, parOnly, notSlt, List.take_succ_cons, List.take_zero, if_true, if_false, Bool.false_eq_true, decide_true, decide_false, Bool.not_true, Bool.not_false, fIs, fIsNot, isNoneD, sTg, gmT, gmCons, gmN, gmNil, mPop, sAug, mExt, sPar, and_true, true_and, List.isEmpty_nil, List.isEmpty_cons, Nat.reduceAdd, Nat.reduceLeDiff, Nat.reduceLT, le_sz, lt_sz, fLt_i, fEq_i, fNe_i, fLe_i, dec0]; exact rfl
        | tuple b => simp only [sIf, ws_ofE, wp_bind, wp_noX, mTB, mTr, mNotT, mAndT, mOrT, mAnd, mOr, mNot, mIf, mNeg, mBin, bin2, mChain, mVar, mK, mB, mCall_eq, aNil, aCons, mTup, mLst, mSl, oNo, oSome, mIsi, anyT, isT, truD, sSet, setR, sRet, retR, sNil, sEx, sDvm, sSt, lstAt, putLst, drefs, dats, List.map_cons, List.map_nil, List.cons_append, List.nil_append, List.append_nil, List.replicate, List.getElem?_cons_zero, List.getElem?_cons_succ, List.set_cons_zero, List.set_cons_succ, List.length_cons, List.length_nil, bind_ok, ofO_some, ofE_ok, oS_some, noX_ok, wp_ok, ws_nx, ws_rt, fz, dref, fIx, atI0, atI1, atI2, ixN_20, ixN_21, ixN_10, Option.map_some, fGt, fGe, fSub, fI, fI0, fAdd, fInt, fLen, lenD, outsOf, parOnly, notSlt, List.take_succ_cons, List.take_zero, if_true, if_false, Bool.false_eq_true, decide_true, decide_false, Bool.not_true, Bool.not_false, fIs, fIsNot, isNoneD, sTg, gmT, gmCons, gmN, gmNil, mPop, sAug, mExt, sPar, and_true, true_and, List.isEmpty_nil, List.isEmpty_cons, Nat.reduceAdd, Nat.reduceLeDiff, Nat.reduceLT, le_sz, lt_sz, fLt_i, fEq_i, fNe_i, fLe_i, dec0]; exact rfl
        | str x =>
          simp only [sIf, ws_ofE, wp_bind, wp_noX, mTB, mTr, mNotT, mAndT, mOrT, mAnd, mOr, mNot, mIf, mNeg, mBin, bin2, mChain, mVar, mK, mB, mCall_eq, aNil, aCons, mTup, mLst, mSl, oNo, oSome, mIsi, anyT, isT, truD, sSet, setR, sRet, retR, sNil, sEx, sDvm, sSt, lstAt, putLst, drefs, dats, List.map_cons, List.map_nil, List.cons_append, List.nil_append, List.append_nil, List.replicate, List.getElem?_cons_zero, List.getElem?_cons_succ, List.set_cons_zero, List.set_cons_succ, List.length_cons, List.length_nil, bind_ok, ofO_some, ofE_ok, oS_some, noX_ok, wp_ok, ws_nx, ws_rt, fz, dref, fIx, atI0, atI1, atI2, ixN_20, ixN_21, ixN_10, Option.map_some, fGt, fGe, fSub, fI, fI0, fAdd, fInt, fLen, lenD, outsOf, parOnly, notSlt, List.take_succ_cons, List.take_zero, if_true, if_false, Bool.false_eq_true, decide_true, decide_false, Bool.not_true, Bool.not_false, fIs, fIsNot, isNoneD, sTg, gmT, gmCons, gmN, gmNil, mPop, sAug, mExt, sPar, and_true, true_and, List.isEmpty_nil, List.isEmpty_cons, Nat.reduceAdd, Nat.reduceLeDiff, Nat.reduceLT, le_sz, lt_sz, fLt_i, fEq_i, fNe_i, fLe_i, dec0, fEq_s (sm_okS he) hw]
          show _ = Res.dat (.bool (decide (r.length + 1 = k) && (x == w)))
          rw [decide_eq_true hl]; rfl
      · have hl' : ¬ ((r.length + 1 : Nat) : Int) = (k : Int) := by omega
        simp only [sIf, ws_ofE, wp_bind, wp_noX, mTB, mTr, mNotT, mAndT, mOrT, mAnd, mOr, mNot, mIf, mNeg, mBin, bin2, mChain, mVar, mK, mB, mCall_eq, aNil, aCons, mTup, mLst, mSl, oNo, oSome, mIsi, anyT, isT, truD, sSet, setR, sRet, retR, sNil, sEx, sDvm, sSt, lstAt, putLst, drefs, dats, List.map_cons, List.map_nil, List.cons_append, List.nil_append, List.append_nil, List.replicate, List.getElem?_cons_zero, List.getElem?_cons_succ, List.set_cons_zero, List.set_cons_succ, List.length_cons, List.length_nil, bind_ok, ofO_some, ofE_ok, oS_some, noX_ok, wp_ok, ws_nx, ws_rt, fz, dref, fIx, atI0, atI1, atI2, ixN_20, ixN_21, ixN_10, Option.map_some, fGt, fGe, fSub, fI, fI0, fAdd, fInt, fLen, lenD, outsOf, parOnly, notSlt, List.take_succ_cons, List.take_zero, if_true, if_false, Bool.false_eq_true, decide_true, decide_false, Bool.not_true, Bool.not_false, fIs, fIsNot, isNoneD, sTg, gmT, gmCons, gmN, gmNil, mPop, sAug, mExt, sPar, and_true, true_and, List.isEmpty_nil, List.isEmpty_cons, Nat.reduceAdd, Nat.reduceLeDiff, Nat.reduceLT, le_sz, lt_sz, fLt_i, fEq_i, fNe_i, fLe_i, dec0, decide_eq_false hl']
        show _ = Res.dat (.bool (toldD (.tuple (e :: r)) w k))
        cases e <;> simp [toldD, hl]
theorem told_t {d : D} {w : Str} {k : Nat} (h : toldD d w k = true) : ∃ r, d = .tuple (.str w :: r) ∧ r.length + 1 = k := by
  unfold toldD at h
  split at h
  · rw [Bool.and_eq_true, decide_eq_true_eq, beq_iff_eq] at h
    obtain ⟨h1, rfl⟩ := h
    exact ⟨_, rfl, h1⟩
  · cases h
def leafD (d : D) : Bool := match d with
  | .tuple [.str x, y] => (x == "is") && nameD y
  | _ => false
theorem leaf_ev {d : D} (h : Sm d) : Ev M_is_leaf [d] (.bool (leafD d)) := by
  unfold Ev M_is_leaf
  refine wp_fn ?_
  have t : Ev M_is_told [d, .str "is", .int 2] (.bool (toldD d "is" 2)) := told_ev h (w := "is") okw.2.2.1 (k := 2) (by omega)
  simp only [sIf, ws_ofE, wp_bind, wp_noX, mTB, mTr, mNotT, mAndT, mOrT, mAnd, mOr, mNot, mIf, mNeg, mBin, bin2, mChain, mVar, mK, mB, mCall_eq, aNil, aCons, mTup, mLst, mSl, oNo, oSome, mIsi, anyT, isT, truD, sSet, setR, sRet, retR, sNil, sEx, sDvm, sSt, lstAt, putLst, drefs, dats, List.map_cons, List.map_nil, List.cons_append, List.nil_append, List.append_nil, List.replicate, List.getElem?_cons_zero, List.getElem?_cons_succ, List.set_cons_zero, List.set_cons_succ, List.length_cons, List.length_nil, bind_ok, ofO_some, ofE_ok, oS_some, noX_ok, wp_ok, ws_nx, ws_rt, fz, dref, fIx, atI0, atI1, atI2, ixN_20, ixN_21, ixN_10, Option.map_some, fGt, fGe, fSub, fI, fI0, fAdd, fInt, fLen, lenD, outsOf, parOnly, notSlt, List.take_succ_cons, List.take_zero, if_true, if_false, Bool.false_eq_true, decide_true, decide_false, Bool.not_true, Bool.not_false, fIs, fIsNot, isNoneD, sTg, gmT, gmCons, gmN, gmNil, mPop, sAug, mExt, sPar, and_true, true_and, List.isEmpty_nil, List.isEmpty_cons, Nat.reduceAdd, Nat.reduceLeDiff, Nat.reduceLT, le_sz, lt_sz, fLt_i, fEq_i, fNe_i, fLe_i, dec0, ev3 t]
  cases ht : toldD d "is" 2 with
  | false =>
    simp only [sIf, ws_ofE, wp_bind, wp_noX, mTB, mTr, mNotT, mAndT, mOrT, mAnd, mOr, mNot, mIf, mNeg, mBin, bin2, mChain, mVar, mK, mB, mCall_eq, aNil, aCons, mTup, mLst, mSl, oNo, oSome, mIsi, anyT, isT, truD, sSet, setR, sRet, retR, sNil, sEx, sDvm, sSt, lstAt, putLst, drefs, dats, List.map_cons, List.map_nil, List.cons_append, List.nil_append, List.append_nil, List.replicate, List.getElem?_cons_zero, List.getElem?_cons_succ, List.set_cons_zero, List.set_cons_succ, List.length_cons, List.length_nil, bind_ok, ofO_some, ofE_ok, oS_some, noX_ok, wp_ok, ws_nx, ws_rt, fz, dref, fIx, atI0, atI1, atI2, ixN_20, ixN_21, ixN_10, Option.map_some, fGt, fGe, fSub, fI, fI0, fAdd, fInt, fLen, lenD, outsOf, parOnly, notSlt, List.take_succ_cons, List.take_zero, if_true, if_false, Bool.false_eq_true, decide_true, decide_false, Bool.not_true, Bool.not_false, fIs, fIsNot, isNoneD, sTg, gmT, gmCons, gmN, gmNil, mPop, sAug, mExt, sPar, and_true, true_and, List.isEmpty_nil, List.isEmpty_cons, Nat.reduceAdd, Nat.reduceLeDiff, Nat.reduceLT, le_sz, lt_sz, fLt_i, fEq_i, fNe_i, fLe_i, dec0]
    show Res.dat (.bool false) = Res.dat (.bool (leafD d))
    congr 2
    unfold leafD
    split
    · rename_i x y
      cases hx : (x == ("is" : Str)) with
      | false => rfl
      | true => simp [toldD, hx] at ht
    · rfl
  | true =>
    obtain ⟨r, rfl, hr⟩ := told_t ht
    match r, hr with
    | [y], _ =>
      have n := name_ev (h.sub (d := y) (by simp))
      simp only [sIf, ws_ofE, wp_bind, wp_noX, mTB, mTr, mNotT, mAndT, mOrT, mAnd, mOr, mNot, mIf, mNeg, mBin, bin2, mChain, mVar, mK, mB, mCall_eq, aNil, aCons, mTup, mLst, mSl, oNo, oSome, mIsi, anyT, isT, truD, sSet, setR, sRet, retR, sNil, sEx, sDvm, sSt, lstAt, putLst, drefs, dats, List.map_cons, List.map_nil, List.cons_append, List.nil_append, List.append_nil, List.replicate, List.getElem?_cons_zero, List.getElem?_cons_succ, List.set_cons_zero, List.set_cons_succ, List.length_cons, List.length_nil, bind_ok, ofO_some, ofE_ok, oS_some, noX_ok, wp_ok, ws_nx, ws_rt, fz, dref, fIx, atI0, atI1, atI2, ixN_20, ixN_21, ixN_10, Option.map_some, fGt, fGe, fSub, fI, fI0, fAdd, fInt, fLen, lenD, outsOf, parOnly, notSlt, List.take_succ_cons, List.take_zero, if_true, if_false, Bool.false_eq_true, decide_true, decide_false, Bool.not_true, Bool.not_false, fIs, fIsNot, isNoneD, sTg, gmT, gmCons, gmN, gmNil, mPop, sAug, mExt, sPar, and_true, true_and, List.isEmpty_nil, List.isEmpty_cons, Nat.reduceAdd, Nat.reduceLeDiff, Nat.reduceLT, le_sz, lt_sz, fLt_i, fEq_i, fNe_i, fLe_i, dec0, ev1 n]
      simp [leafD]
def callD (d : D) : Bool := match d with
  | .tuple [.str x, y, .tuple ps] => (x == "call") && nameD y && !ps.isEmpty
  | _ => false
theorem call_ev {d : D} (h : Sm d) : Ev M_is_call [d] (.bool (callD d)) := by
  unfold Ev M_is_call
  refine wp_fn ?_
  have t : Ev M_is_told [d, .str "call", .int 3] (.bool (toldD d "call" 3)) := told_ev h (w := "call") okw.2.2.2.2.2.2.2.2.2.1 (k := 3) (by omega)
  simp only [sIf, ws_ofE, wp_bind, wp_noX, mTB, mTr, mNotT, mAndT, mOrT, mAnd, mOr, mNot, mIf, mNeg, mBin, bin2, mChain, mVar, mK, mB, mCall_eq, aNil, aCons, mTup, mLst, mSl, oNo, oSome, mIsi, anyT, isT, truD, sSet, setR, sRet, retR, sNil, sEx, sDvm, sSt, lstAt, putLst, drefs, dats, List.map_cons, List.map_nil, List.cons_append, List.nil_append, List.append_nil, List.replicate, List.getElem?_cons_zero, List.getElem?_cons_succ, List.set_cons_zero, List.set_cons_succ, List.length_cons, List.length_nil, bind_ok, ofO_some, ofE_ok, oS_some, noX_ok, wp_ok, ws_nx, ws_rt, fz, dref, fIx, atI0, atI1, atI2, ixN_20, ixN_21, ixN_10, Option.map_some, fGt, fGe, fSub, fI, fI0, fAdd, fInt, fLen, lenD, outsOf, parOnly, notSlt, List.take_succ_cons, List.take_zero, if_true, if_false, Bool.false_eq_true, decide_true, decide_false, Bool.not_true, Bool.not_false, fIs, fIsNot, isNoneD, sTg, gmT, gmCons, gmN, gmNil, mPop, sAug, mExt, sPar, and_true, true_and, List.isEmpty_nil, List.isEmpty_cons, Nat.reduceAdd, Nat.reduceLeDiff, Nat.reduceLT, le_sz, lt_sz, fLt_i, fEq_i, fNe_i, fLe_i, dec0, ev3 t]
  cases ht : toldD d "call" 3 with
  | false =>
    simp only [sIf, ws_ofE, wp_bind, wp_noX, mTB, mTr, mNotT, mAndT, mOrT, mAnd, mOr, mNot, mIf, mNeg, mBin, bin2, mChain, mVar, mK, mB, mCall_eq, aNil, aCons, mTup, mLst, mSl, oNo, oSome, mIsi, anyT, isT, truD, sSet, setR, sRet, retR, sNil, sEx, sDvm, sSt, lstAt, putLst, drefs, dats, List.map_cons, List.map_nil, List.cons_append, List.nil_append, List.append_nil, List.replicate, List.getElem?_cons_zero, List.getElem?_cons_succ, List.set_cons_zero, List.set_cons_succ, List.length_cons, List.length_nil, bind_ok, ofO_some, ofE_ok, oS_some, noX_ok, wp_ok, ws_nx, ws_rt, fz, dref, fIx, atI0, atI1, atI2, ixN_20, ixN_21, ixN_10, Option.map_some, fGt, fGe, fSub, fI, fI0, fAdd, fInt, fLen, lenD, outsOf, parOnly, notSlt, List.take_succ_cons, List.take_zero, if_true, if_false, Bool.false_eq_true, decide_true, decide_false, Bool.not_true, Bool.not_false, fIs, fIsNot, isNoneD, sTg, gmT, gmCons, gmN, gmNil, mPop, sAug, mExt, sPar, and_true, true_and, List.isEmpty_nil, List.isEmpty_cons, Nat.reduceAdd, Nat.reduceLeDiff, Nat.reduceLT, le_sz, lt_sz, fLt_i, fEq_i, fNe_i, fLe_i, dec0]
    show Res.dat (.bool false) = Res.dat (.bool (callD d))
    congr 2
    unfold callD
    split
    · rename_i x y ps
      cases hx : (x == ("call" : Str)) with
      | false => rfl
      | true => simp [toldD, hx] at ht
    · rfl
  | true =>
    obtain ⟨r, rfl, hr⟩ := told_t ht
    match r, hr with
    | [y, z], _ =>
      have n := name_ev (h.sub (d := y) (by simp))
      have hz := h.sub (d := z) (by simp)
      simp only [sIf, ws_ofE, wp_bind, wp_noX, mTB, mTr, mNotT, mAndT, mOrT, mAnd, mOr, mNot, mIf, mNeg, mBin, bin2, mChain, mVar, mK, mB, mCall_eq, aNil, aCons, mTup, mLst, mSl, oNo, oSome, mIsi, anyT, isT, truD, sSet, setR, sRet, retR, sNil, sEx, sDvm, sSt, lstAt, putLst, drefs, dats, List.map_cons, List.map_nil, List.cons_append, List.nil_append, List.append_nil, List.replicate, List.getElem?_cons_zero, List.getElem?_cons_succ, List.set_cons_zero, List.set_cons_succ, List.length_cons, List.length_nil, bind_ok, ofO_some, ofE_ok, oS_some, noX_ok, wp_ok, ws_nx, ws_rt, fz, dref, fIx, atI0, atI1, atI2, ixN_20, ixN_21, ixN_10, Option.map_some, fGt, fGe, fSub, fI, fI0, fAdd, fInt, fLen, lenD, outsOf, parOnly, notSlt, List.take_succ_cons, List.take_zero, if_true, if_false, Bool.false_eq_true, decide_true, decide_false, Bool.not_true, Bool.not_false, fIs, fIsNot, isNoneD, sTg, gmT, gmCons, gmN, gmNil, mPop, sAug, mExt, sPar, and_true, true_and, List.isEmpty_nil, List.isEmpty_cons, Nat.reduceAdd, Nat.reduceLeDiff, Nat.reduceLT, le_sz, lt_sz, fLt_i, fEq_i, fNe_i, fLe_i, dec0, ev1 n]
      cases hn : nameD y with
      | false => simp only [sIf, ws_ofE, wp_bind, wp_noX, mTB, mTr, mNotT, mAndT, mOrT, mAnd, mOr, mNot, mIf, mNeg, mBin, bin2, mChain, mVar, mK, mB, mCall_eq, aNil, aCons, mTup, mLst, mSl, oNo, oSome, mIsi, anyT, isT, truD, sSet, setR, sRet, retR, sNil, sEx, sDvm, sSt, lstAt, putLst, drefs, dats, List.map_cons, List.map_nil, List.cons_append, List.nil_append, List.append_nil, List.replicate, List.getElem?_cons_zero, List.getElem?_cons_succ, List.set_cons_zero, List.set_cons_succ, List.length_cons, List.length_nil, bind_ok, ofO_some, ofE_ok, oS_some, noX_ok, wp_ok, ws_nx, ws_rt, fz, dref, fIx, atI0, atI1, atI2, ixN_20, ixN_21, ixN_10, Option.map_some, fGt, fGe, fSub, fI, fI0, fAdd, fInt, fLen, lenD, outsOf, parOnly, notSlt, List.take_succ_cons, List.take_zero, if_true, if_false, Bool.false_eq_true, decide_true, decide_false, Bool.not_true, Bool.not_false, fIs, fIsNot, isNoneD, sTg, gmT, gmCons, gmN, gmNil, mPop, sAug, mExt, sPar, and_true, true_and, List.isEmpty_nil, List.isEmpty_cons, Nat.reduceAdd, Nat.reduceLeDiff, Nat.reduceLT, le_sz, lt_sz, fLt_i, fEq_i, fNe_i, fLe_i, dec0]; cases z <;> simp [callD, hn]
      | true =>
        simp only [sIf, ws_ofE, wp_bind, wp_noX, mTB, mTr, mNotT, mAndT, mOrT, mAnd, mOr, mNot, mIf, mNeg, mBin, bin2, mChain, mVar, mK, mB, mCall_eq, aNil, aCons, mTup, mLst, mSl, oNo, oSome, mIsi, anyT, isT, truD, sSet, setR, sRet, retR, sNil, sEx, sDvm, sSt, lstAt, putLst, drefs, dats, List.map_cons, List.map_nil, List.cons_append, List.nil_append, List.append_nil, List.replicate, List.getElem?_cons_zero, List.getElem?_cons_succ, List.set_cons_zero, List.set_cons_succ, List.length_cons, List.length_nil, bind_ok, ofO_some, ofE_ok, oS_some, noX_ok, wp_ok, ws_nx, ws_rt, fz, dref, fIx, atI0, atI1, atI2, ixN_20, ixN_21, ixN_10, Option.map_some, fGt, fGe, fSub, fI, fI0, fAdd, fInt, fLen, lenD, outsOf, parOnly, notSlt, List.take_succ_cons, List.take_zero, if_true, if_false, Bool.false_eq_true, decide_true, decide_false, Bool.not_true, Bool.not_false, fIs, fIsNot, isNoneD, sTg, gmT, gmCons, gmN, gmNil, mPop, sAug, mExt, sPar, and_true, true_and, List.isEmpty_nil, List.isEmpty_cons, Nat.reduceAdd, Nat.reduceLeDiff, Nat.reduceLT, le_sz, lt_sz, fLt_i, fEq_i, fNe_i, fLe_i, dec0]
        cases z with
        | dict es => have := hz.1; simp [okD] at this
        | none => simp only [sIf, ws_ofE, wp_bind, wp_noX, mTB, mTr, mNotT, mAndT, mOrT, mAnd, mOr, mNot, mIf, mNeg, mBin, bin2, mChain, mVar, mK, mB, mCall_eq, aNil, aCons, mTup, mLst, mSl, oNo, oSome, mIsi, anyT, isT, truD, sSet, setR, sRet, retR, sNil, sEx, sDvm, sSt, lstAt, putLst, drefs, dats, List.map_cons, List.map_nil, List.cons_append, List.nil_append, List.append_nil, List.replicate, List.getElem?_cons_zero, List.getElem?_cons_succ, List.set_cons_zero, List.set_cons_succ, List.length_cons, List.length_nil, bind_ok, ofO_some, ofE_ok, oS_some, noX_ok, wp_ok, ws_nx, ws_rt, fz, dref, fIx, atI0, atI1, atI2, ixN_20, ixN_21, ixN_10, Option.map_some, fGt, fGe, fSub, fI, fI0, fAdd, fInt, fLen, lenD, outsOf, parOnly, notSlt, List.take_succ_cons, List.take_zero, if_true, if_false, Bool.false_eq_true, decide_true, decide_false, Bool.not_true, Bool.not_false, fIs, fIsNot, isNoneD, sTg, gmT, gmCons, gmN, gmNil, mPop, sAug, mExt, sPar, and_true, true_and, List.isEmpty_nil, List.isEmpty_cons, Nat.reduceAdd, Nat.reduceLeDiff, Nat.reduceLT, le_sz, lt_sz, fLt_i, fEq_i, fNe_i, fLe_i, dec0]; exact rfl
        | bool b => simp only [sIf, ws_ofE, wp_bind, wp_noX, mTB, mTr, mNotT, mAndT, mOrT, mAnd, mOr, mNot, mIf, mNeg, mBin, bin2, mChain, mVar, mK, mB, mCall_eq, aNil, aCons, mTup, mLst, mSl, oNo, oSome, mIsi, anyT, isT, truD, sSet, setR, sRet, retR, sNil, sEx, sDvm, sSt, lstAt, putLst, drefs, dats, List.map_cons, List.map_nil, List.cons_append, List.nil_append, List.append_nil, List.replicate, List.getElem?_cons_zero, List.getElem?_cons_succ, List.set_cons_zero, List.set_cons_succ, List.length_cons, List.length_nil, bind_ok, ofO_some, ofE_ok, oS_some, noX_ok, wp_ok, ws_nx, ws_rt, fz, dref, fIx, atI0, atI1, atI2, ixN_20, ixN_21, ixN_10, Option.map_some, fGt, fGe, fSub, fI, fI0, fAdd, fInt, fLen, lenD, outsOf, parOnly, notSlt, List.take_succ_cons, List.take_zero, if_true, if_false, Bool.false_eq_true, decide_true, decide_false, Bool.not_true, Bool.not_false, fIs, fIsNot, isNoneD, sTg, gmT, gmCons, gmN, gmNil, mPop, sAug, mExt, sPar, and_true, true_and, List.isEmpty_nil, List.isEmpty_cons, Nat.reduceAdd, Nat.reduceLeDiff, Nat.reduceLT, le_sz, lt_sz, fLt_i, fEq_i, fNe_i, fLe_i, dec0]; exact rfl
        | int b => simp only [sIf, ws_ofE, wp_bind, wp_noX, mTB, mTr, mNotT, mAndT, mOrT, mAnd, mOr, mNot, mIf, mNeg, mBin, bin2, mChain, mVar, mK, mB, mCall_eq, aNil, aCons, mTup, mLst, mSl, oNo, oSome, mIsi, anyT, isT, truD, sSet, setR, sRet, retR, sNil, sEx, sDvm, sSt, lstAt, putLst, drefs, dats, List.map_cons, List.map_nil, List.cons_append, List.nil_append, List.append_nil, List.replicate, List.getElem?_cons_zero, List.getElem?_cons_succ, List.set_cons_zero, List.set_cons_succ, List.length_cons, List.length_nil, bind_ok, ofO_some, ofE_ok, oS_some, noX_ok, wp_ok, ws_nx, ws_rt, fz, dref, fIx, atI0, atI1, atI2, ixN_20, ixN_21, ixN_10, Option.map_some, fGt, fGe, fSub, fI, fI0, fAdd, fInt, fLen, lenD, outsOf, parOnly, notSlt, List.take_succ_cons, List.take_zero, if_true, if_false, Bool.false_eq_true, decide_true, decide_false, Bool.not_true, Bool.not_false, fIs, fIsNot, isNoneD, sTg, gmT, gmCons, gmN, gmNil, mPop, sAug, mExt, sPar, and_true, true_and, List.isEmpty_nil, List.isEmpty_cons, Nat.reduceAdd, Nat.reduceLeDiff, Nat.reduceLT, le_sz, lt_sz, fLt_i, fEq_i, fNe_i, fLe_i, dec0]; exact rfl
        | list b => simp only [sIf, ws_ofE, wp_bind, wp_noX, mTB, mTr, mNotT, mAndT, mOrT, mAnd, mOr, mNot, mIf, mNeg, mBin, bin2, mChain, mVar, mK, mB, mCall_eq, aNil, aCons, mTup, mLst, mSl, oNo, oSome, mIsi, anyT, isT, truD, sSet, setR, sRet, retR, sNil, sEx, sDvm, sSt, lstAt, putLst, drefs, dats, List.map_cons, List.map_nil, List.cons_append, List.nil_append, List.append_nil, List.replicate, List.getElem?_cons_zero, List.getElem?_cons_succ, List.set_cons_zero, List.set_cons_succ, List.length_cons, List.length_nil, bind_ok, ofO_some, ofE_ok, oS_some, noX_ok, wp_ok, ws_nx, ws_rt, fz, dref, fIx, atI0, atI1, atI2, ixN_20, ixN_21, ixN_10, Option.map_some, fGt, fGe, fSub, fI, fI0, fAdd, fInt, fLen, lenD, outsOf, parOnly, notSlt, List.take_succ_cons, List.take_zero, if_true, if_false, Bool.false_eq_true, decide_true, decide_false, Bool.not_true, Bool.not_false, fIs, fIsNot, isNoneD, sTg, gmT, gmCons, gmN, gmNil, mPop, sAug, mExt, sPar, and_true, true_and, List.isEmpty_nil, List.isEmpty_cons, Nat.reduceAdd, Nat.reduceLeDiff, Nat.reduceLT, le_sz, lt_sz, fLt_i, fEq_i, fNe_i, fLe_i, dec0]; exact rfl
        | str b => simp only [sIf, ws_ofE, wp_bind, wp_noX, mTB, mTr, mNotT, mAndT, mOrT, mAnd, mOr, mNot, mIf, mNeg, mBin, bin2, mChain, mVar, mK, mB, mCall_eq, aNil, aCons, mTup, mLst, mSl, oNo, oSome, mIsi, anyT, isT, truD, sSet, setR, sRet, retR, sNil, sEx, sDvm, sSt, lstAt, putLst, drefs, dats, List.map_cons, List.map_nil, List.cons_append, List.nil_append, List.append_nil, List.replicate, List.getElem?_cons_zero, List.getElem?_cons_succ, List.set_cons_zero, List.set_cons_succ, List.length_cons, List.length_nil, bind_ok, ofO_some, ofE_ok, oS_some, noX_ok, wp_ok, ws_nx, ws_rt, fz, dref, fIx, atI0, atI1, atI2, ixN_20, ixN_21, ixN_10, Option.map_some, fGt, fGe, fSub, fI, fI0, fAdd, fInt, fLen, lenD, outsOf, parOnly, notSlt, List.take_succ_cons, List.take_zero, if_true, if_false, Bool.false_eq_true, decide_true, decide_false, Bool.not_true, Bool.not_false, fIs, fIsNot, isNoneD, sTg, gmT, gmCons, gmN, gmNil, mPop, sAug, mExt, sPar, and_true, true_and, List.isEmpty_nil, List.isEmpty_cons, Nat.reduceAdd, Nat.reduceLeDiff, Nat.reduceLT, le_sz, lt_sz, fLt_i, fEq_i, fNe_i, fLe_i, dec0]; exact rfl
        | tuple ps => simp only [sIf, ws_ofE, wp_bind, wp_noX, mTB, mTr, mNotT, mAndT, mOrT, mAnd, mOr, mNot, mIf, mNeg, mBin, bin2, mChain, mVar, mK, mB, mCall_eq, aNil, aCons, mTup, mLst, mSl, oNo, oSome, mIsi, anyT, isT, truD, sSet, setR, sRet, retR, sNil, sEx, sDvm, sSt, lstAt, putLst, drefs, dats, List.map_cons, List.map_nil, List.cons_append, List.nil_append, List.append_nil, List.replicate, List.getElem?_cons_zero, List.getElem?_cons_succ, List.set_cons_zero, List.set_cons_succ, List.length_cons, List.length_nil, bind_ok, ofO_some, ofE_ok, oS_some, noX_ok, wp_ok, ws_nx, ws_rt, fz, dref, fIx, atI0, atI1, atI2, ixN_20, ixN_21, ixN_10, Option.map_some, fGt, fGe, fSub, fI, fI0, fAdd, fInt, fLen, lenD, outsOf, parOnly, notSlt, List.take_succ_cons, List.take_zero, if_true, if_false, Bool.false_eq_true, decide_true, decide_false, Bool.not_true, Bool.not_false, fIs, fIsNot, isNoneD, sTg, gmT, gmCons, gmN, gmNil, mPop, sAug, mExt, sPar, and_true, true_and, List.isEmpty_nil, List.isEmpty_cons, Nat.reduceAdd, Nat.reduceLeDiff, Nat.reduceLT, le_sz, lt_sz, fLt_i, fEq_i, fNe_i, fLe_i, dec0, fNe_t hz]; simp [callD, hn]
def tbI : List (Str × Int) := [("yes", 0), ("no", 0), ("not", 1), ("and", 2), ("or", 2), ("same", 2), ("if", 3)]
theorem tb_eq (z : Str) : tb_PARTS.lookup z = (tbI.lookup z).map PyData.int := look_map z tbI
def wordD (d : D) : Bool := match d with
  | .tuple (.str x :: r) => (match tbI.lookup x with
    | some n => decide ((r.length : Int) = n)
    | none => false)
  | _ => false
theorem word_ev {d : D} (h : Sm d) : Ev M_is_worded [d] (.bool (wordD d)) := by
  unfold Ev M_is_worded
  refine wp_fn ?_
  cases d with
  | dict es => have := h.1; simp [okD] at this
  | none => simp only [sIf, ws_ofE, wp_bind, wp_noX, mTB, mTr, mNotT, mAndT, mOrT, mAnd, mOr, mNot, mIf, mNeg, mBin, bin2, mChain, mVar, mK, mB, mCall_eq, aNil, aCons, mTup, mLst, mSl, oNo, oSome, mIsi, anyT, isT, truD, sSet, setR, sRet, retR, sNil, sEx, sDvm, sSt, lstAt, putLst, drefs, dats, List.map_cons, List.map_nil, List.cons_append, List.nil_append, List.append_nil, List.replicate, List.getElem?_cons_zero, List.getElem?_cons_succ, List.set_cons_zero, List.set_cons_succ, List.length_cons, List.length_nil, bind_ok, ofO_some, ofE_ok, oS_some, noX_ok, wp_ok, ws_nx, ws_rt, fz, dref, fIx, atI0, atI1, atI2, ixN_20, ixN_21, ixN_10, Option.map_some, fGt, fGe, fSub, fI, fI0, fAdd, fInt, fLen, lenD, outsOf, parOnly, notSlt, List.take_succ_cons, List.take_zero, if_true, if_false, Bool.false_eq_true, decide_true, decide_false, Bool.not_true, Bool.not_false, fIs, fIsNot, isNoneD, sTg, gmT, gmCons, gmN, gmNil, mPop, sAug, mExt, sPar, and_true, true_and, List.isEmpty_nil, List.isEmpty_cons, Nat.reduceAdd, Nat.reduceLeDiff, Nat.reduceLT, le_sz, lt_sz, fLt_i, fEq_i, fNe_i, fLe_i, dec0, ws_seq]; exact rfl
  | bool b => simp only [sIf, ws_ofE, wp_bind, wp_noX, mTB, mTr, mNotT, mAndT, mOrT, mAnd, mOr, mNot, mIf, mNeg, mBin, bin2, mChain, mVar, mK, mB, mCall_eq, aNil, aCons, mTup, mLst, mSl, oNo, oSome, mIsi, anyT, isT, truD, sSet, setR, sRet, retR, sNil, sEx, sDvm, sSt, lstAt, putLst, drefs, dats, List.map_cons, List.map_nil, List.cons_append, List.nil_append, List.append_nil, List.replicate, List.getElem?_cons_zero, List.getElem?_cons_succ, List.set_cons_zero, List.set_cons_succ, List.length_cons, List.length_nil, bind_ok, ofO_some, ofE_ok, oS_some, noX_ok, wp_ok, ws_nx, ws_rt, fz, dref, fIx, atI0, atI1, atI2, ixN_20, ixN_21, ixN_10, Option.map_some, fGt, fGe, fSub, fI, fI0, fAdd, fInt, fLen, lenD, outsOf, parOnly, notSlt, List.take_succ_cons, List.take_zero, if_true, if_false, Bool.false_eq_true, decide_true, decide_false, Bool.not_true, Bool.not_false, fIs, fIsNot, isNoneD, sTg, gmT, gmCons, gmN, gmNil, mPop, sAug, mExt, sPar, and_true, true_and, List.isEmpty_nil, List.isEmpty_cons, Nat.reduceAdd, Nat.reduceLeDiff, Nat.reduceLT, le_sz, lt_sz, fLt_i, fEq_i, fNe_i, fLe_i, dec0, ws_seq]; exact rfl
  | int b => simp only [sIf, ws_ofE, wp_bind, wp_noX, mTB, mTr, mNotT, mAndT, mOrT, mAnd, mOr, mNot, mIf, mNeg, mBin, bin2, mChain, mVar, mK, mB, mCall_eq, aNil, aCons, mTup, mLst, mSl, oNo, oSome, mIsi, anyT, isT, truD, sSet, setR, sRet, retR, sNil, sEx, sDvm, sSt, lstAt, putLst, drefs, dats, List.map_cons, List.map_nil, List.cons_append, List.nil_append, List.append_nil, List.replicate, List.getElem?_cons_zero, List.getElem?_cons_succ, List.set_cons_zero, List.set_cons_succ, List.length_cons, List.length_nil, bind_ok, ofO_some, ofE_ok, oS_some, noX_ok, wp_ok, ws_nx, ws_rt, fz, dref, fIx, atI0, atI1, atI2, ixN_20, ixN_21, ixN_10, Option.map_some, fGt, fGe, fSub, fI, fI0, fAdd, fInt, fLen, lenD, outsOf, parOnly, notSlt, List.take_succ_cons, List.take_zero, if_true, if_false, Bool.false_eq_true, decide_true, decide_false, Bool.not_true, Bool.not_false, fIs, fIsNot, isNoneD, sTg, gmT, gmCons, gmN, gmNil, mPop, sAug, mExt, sPar, and_true, true_and, List.isEmpty_nil, List.isEmpty_cons, Nat.reduceAdd, Nat.reduceLeDiff, Nat.reduceLT, le_sz, lt_sz, fLt_i, fEq_i, fNe_i, fLe_i, dec0, ws_seq]; exact rfl
  | list b => simp only [sIf, ws_ofE, wp_bind, wp_noX, mTB, mTr, mNotT, mAndT, mOrT, mAnd, mOr, mNot, mIf, mNeg, mBin, bin2, mChain, mVar, mK, mB, mCall_eq, aNil, aCons, mTup, mLst, mSl, oNo, oSome, mIsi, anyT, isT, truD, sSet, setR, sRet, retR, sNil, sEx, sDvm, sSt, lstAt, putLst, drefs, dats, List.map_cons, List.map_nil, List.cons_append, List.nil_append, List.append_nil, List.replicate, List.getElem?_cons_zero, List.getElem?_cons_succ, List.set_cons_zero, List.set_cons_succ, List.length_cons, List.length_nil, bind_ok, ofO_some, ofE_ok, oS_some, noX_ok, wp_ok, ws_nx, ws_rt, fz, dref, fIx, atI0, atI1, atI2, ixN_20, ixN_21, ixN_10, Option.map_some, fGt, fGe, fSub, fI, fI0, fAdd, fInt, fLen, lenD, outsOf, parOnly, notSlt, List.take_succ_cons, List.take_zero, if_true, if_false, Bool.false_eq_true, decide_true, decide_false, Bool.not_true, Bool.not_false, fIs, fIsNot, isNoneD, sTg, gmT, gmCons, gmN, gmNil, mPop, sAug, mExt, sPar, and_true, true_and, List.isEmpty_nil, List.isEmpty_cons, Nat.reduceAdd, Nat.reduceLeDiff, Nat.reduceLT, le_sz, lt_sz, fLt_i, fEq_i, fNe_i, fLe_i, dec0, ws_seq]; exact rfl
  | str b => simp only [sIf, ws_ofE, wp_bind, wp_noX, mTB, mTr, mNotT, mAndT, mOrT, mAnd, mOr, mNot, mIf, mNeg, mBin, bin2, mChain, mVar, mK, mB, mCall_eq, aNil, aCons, mTup, mLst, mSl, oNo, oSome, mIsi, anyT, isT, truD, sSet, setR, sRet, retR, sNil, sEx, sDvm, sSt, lstAt, putLst, drefs, dats, List.map_cons, List.map_nil, List.cons_append, List.nil_append, List.append_nil, List.replicate, List.getElem?_cons_zero, List.getElem?_cons_succ, List.set_cons_zero, List.set_cons_succ, List.length_cons, List.length_nil, bind_ok, ofO_some, ofE_ok, oS_some, noX_ok, wp_ok, ws_nx, ws_rt, fz, dref, fIx, atI0, atI1, atI2, ixN_20, ixN_21, ixN_10, Option.map_some, fGt, fGe, fSub, fI, fI0, fAdd, fInt, fLen, lenD, outsOf, parOnly, notSlt, List.take_succ_cons, List.take_zero, if_true, if_false, Bool.false_eq_true, decide_true, decide_false, Bool.not_true, Bool.not_false, fIs, fIsNot, isNoneD, sTg, gmT, gmCons, gmN, gmNil, mPop, sAug, mExt, sPar, and_true, true_and, List.isEmpty_nil, List.isEmpty_cons, Nat.reduceAdd, Nat.reduceLeDiff, Nat.reduceLT, le_sz, lt_sz, fLt_i, fEq_i, fNe_i, fLe_i, dec0, ws_seq]; exact rfl
  | tuple ds =>
    cases ds with
    | nil => simp only [sIf, ws_ofE, wp_bind, wp_noX, mTB, mTr, mNotT, mAndT, mOrT, mAnd, mOr, mNot, mIf, mNeg, mBin, bin2, mChain, mVar, mK, mB, mCall_eq, aNil, aCons, mTup, mLst, mSl, oNo, oSome, mIsi, anyT, isT, truD, sSet, setR, sRet, retR, sNil, sEx, sDvm, sSt, lstAt, putLst, drefs, dats, List.map_cons, List.map_nil, List.cons_append, List.nil_append, List.append_nil, List.replicate, List.getElem?_cons_zero, List.getElem?_cons_succ, List.set_cons_zero, List.set_cons_succ, List.length_cons, List.length_nil, bind_ok, ofO_some, ofE_ok, oS_some, noX_ok, wp_ok, ws_nx, ws_rt, fz, dref, fIx, atI0, atI1, atI2, ixN_20, ixN_21, ixN_10, Option.map_some, fGt, fGe, fSub, fI, fI0, fAdd, fInt, fLen, lenD, outsOf, parOnly, notSlt, List.take_succ_cons, List.take_zero, if_true, if_false, Bool.false_eq_true, decide_true, decide_false, Bool.not_true, Bool.not_false, fIs, fIsNot, isNoneD, sTg, gmT, gmCons, gmN, gmNil, mPop, sAug, mExt, sPar, and_true, true_and, List.isEmpty_nil, List.isEmpty_cons, Nat.reduceAdd, Nat.reduceLeDiff, Nat.reduceLT, le_sz, lt_sz, fLt_i, fEq_i, fNe_i, fLe_i, dec0, ws_seq, fEq_t h]; exact rfl
    | cons e r =>
      have he := h.sub (d := e) (by simp)
      cases e with
      | dict es => have := he.1; simp [okD] at this
      | none => simp only [sIf, ws_ofE, wp_bind, wp_noX, mTB, mTr, mNotT, mAndT, mOrT, mAnd, mOr, mNot, mIf, mNeg, mBin, bin2, mChain, mVar, mK, mB, mCall_eq, aNil, aCons, mTup, mLst, mSl, oNo, oSome, mIsi, anyT, isT, truD, sSet, setR, sRet, retR, sNil, sEx, sDvm, sSt, lstAt, putLst, drefs, dats, List.map_cons, List.map_nil, List.cons_append, List.nil_append, List.append_nil, List.replicate, List.getElem?_cons_zero, List.getElem?_cons_succ, List.set_cons_zero, List.set_cons_succ, List.length_cons, List.length_nil, bind_ok, ofO_some, ofE_ok, oS_some, noX_ok, wp_ok, ws_nx, ws_rt, fz, dref, fIx, atI0, atI1, atI2, ixN_20, ixN_21, ixN_10, Option.map_some, fGt, fGe, fSub, fI, fI0, fAdd, fInt, fLen, lenD, outsOf, parOnly, notSlt, List.take_succ_cons, List.take_zero, if_true, if_false, Bool.false_eq_true, decide_true, decide_false, Bool.not_true, Bool.not_false, fIs, fIsNot, isNoneD, sTg, gmT, gmCons, gmN, gmNil, mPop, sAug, mExt, sPar, and_true, true_and, List.isEmpty_nil, List.isEmpty_cons, Nat.reduceAdd, Nat.reduceLeDiff, Nat.reduceLT, le_sz, lt_sz, fLt_i, fEq_i, fNe_i, fLe_i, dec0, ws_seq, fEq_t h]; exact rfl
      | bool b => simp only [sIf, ws_ofE, wp_bind, wp_noX, mTB, mTr, mNotT, mAndT, mOrT, mAnd, mOr, mNot, mIf, mNeg, mBin, bin2, mChain, mVar, mK, mB, mCall_eq, aNil, aCons, mTup, mLst, mSl, oNo, oSome, mIsi, anyT, isT, truD, sSet, setR, sRet, retR, sNil, sEx, sDvm, sSt, lstAt, putLst, drefs, dats, List.map_cons, List.map_nil, List.cons_append, List.nil_append, List.append_nil, List.replicate, List.getElem?_cons_zero, List.getElem?_cons_succ, List.set_cons_zero, List.set_cons_succ, List.length_cons, List.length_nil, bind_ok, ofO_some, ofE_ok, oS_some, noX_ok, wp_ok, ws_nx, ws_rt, fz, dref, fIx, atI0, atI1, atI2, ixN_20, ixN_21, ixN_10, Option.map_some, fGt, fGe, fSub, fI, fI0, fAdd, fInt, fLen, lenD, outsOf, parOnly, notSlt, List.take_succ_cons, List.take_zero, if_true, if_false, Bool.false_eq_true, decide_true, decide_false, Bool.not_true, Bool.not_false, fIs, fIsNot, isNoneD, sTg, gmT, gmCons, gmN, gmNil, mPop, sAug, mExt, sPar, and_true, true_and, List.isEmpty_nil, List.isEmpty_cons, Nat.reduceAdd, Nat.reduceLeDiff, Nat.reduceLT, le_sz, lt_sz, fLt_i, fEq_i, fNe_i, fLe_i, dec0, ws_seq, fEq_t h]; exact rfl
      | int b => simp only [sIf, ws_ofE, wp_bind, wp_noX, mTB, mTr, mNotT, mAndT, mOrT, mAnd, mOr, mNot, mIf, mNeg, mBin, bin2, mChain, mVar, mK, mB, mCall_eq, aNil, aCons, mTup, mLst, mSl, oNo, oSome, mIsi, anyT, isT, truD, sSet, setR, sRet, retR, sNil, sEx, sDvm, sSt, lstAt, putLst, drefs, dats, List.map_cons, List.map_nil, List.cons_append, List.nil_append, List.append_nil, List.replicate, List.getElem?_cons_zero, List.getElem?_cons_succ, List.set_cons_zero, List.set_cons_succ, List.length_cons, List.length_nil, bind_ok, ofO_some, ofE_ok, oS_some, noX_ok, wp_ok, ws_nx, ws_rt, fz, dref, fIx, atI0, atI1, atI2, ixN_20, ixN_21, ixN_10, Option.map_some, fGt, fGe, fSub, fI, fI0, fAdd, fInt, fLen, lenD, outsOf, parOnly, notSlt, List.take_succ_cons, List.take_zero, if_true, if_false, Bool.false_eq_true, decide_true, decide_false, Bool.not_true, Bool.not_false, fIs, fIsNot, isNoneD, sTg, gmT, gmCons, gmN, gmNil, mPop, sAug, mExt, sPar, and_true, true_and, List.isEmpty_nil, List.isEmpty_cons, Nat.reduceAdd, Nat.reduceLeDiff, Nat.reduceLT, le_sz, lt_sz, fLt_i, fEq_i, fNe_i, fLe_i, dec0, ws_seq, fEq_t h]; exact rfl
      | list b => simp only [sIf, ws_ofE, wp_bind, wp_noX, mTB, mTr, mNotT, mAndT, mOrT, mAnd, mOr, mNot, mIf, mNeg, mBin, bin2, mChain, mVar, mK, mB, mCall_eq, aNil, aCons, mTup, mLst, mSl, oNo, oSome, mIsi, anyT, isT, truD, sSet, setR, sRet, retR, sNil, sEx, sDvm, sSt, lstAt, putLst, drefs, dats, List.map_cons, List.map_nil, List.cons_append, List.nil_append, List.append_nil, List.replicate, List.getElem?_cons_zero, List.getElem?_cons_succ, List.set_cons_zero, List.set_cons_succ, List.length_cons, List.length_nil, bind_ok, ofO_some, ofE_ok, oS_some, noX_ok, wp_ok, ws_nx, ws_rt, fz, dref, fIx, atI0, atI1, atI2, ixN_20, ixN_21, ixN_10, Option.map_some, fGt, fGe, fSub, fI, fI0, fAdd, fInt, fLen, lenD, outsOf, parOnly, notSlt, List.take_succ_cons, List.take_zero, if_true, if_false, Bool.false_eq_true, decide_true, decide_false, Bool.not_true, Bool.not_false, fIs, fIsNot, isNoneD, sTg, gmT, gmCons, gmN, gmNil, mPop, sAug, mExt, sPar, and_true, true_and, List.isEmpty_nil, List.isEmpty_cons, Nat.reduceAdd, Nat.reduceLeDiff, Nat.reduceLT, le_sz, lt_sz, fLt_i, fEq_i, fNe_i, fLe_i, dec0, ws_seq, fEq_t h]; exact rfl
      | tuple b => simp only [sIf, ws_ofE, wp_bind, wp_noX, mTB, mTr, mNotT, mAndT, mOrT, mAnd, mOr, mNot, mIf, mNeg, mBin, bin2, mChain, mVar, mK, mB, mCall_eq, aNil, aCons, mTup, mLst, mSl, oNo, oSome, mIsi, anyT, isT, truD, sSet, setR, sRet, retR, sNil, sEx, sDvm, sSt, lstAt, putLst, drefs, dats, List.map_cons, List.map_nil, List.cons_append, List.nil_append, List.append_nil, List.replicate, List.getElem?_cons_zero, List.getElem?_cons_succ, List.set_cons_zero, List.set_cons_succ, List.length_cons, List.length_nil, bind_ok, ofO_some, ofE_ok, oS_some, noX_ok, wp_ok, ws_nx, ws_rt, fz, dref, fIx, atI0, atI1, atI2, ixN_20, ixN_21, ixN_10, Option.map_some, fGt, fGe, fSub, fI, fI0, fAdd, fInt, fLen, lenD, outsOf, parOnly, notSlt, List.take_succ_cons, List.take_zero, if_true, if_false, Bool.false_eq_true, decide_true, decide_false, Bool.not_true, Bool.not_false, fIs, fIsNot, isNoneD, sTg, gmT, gmCons, gmN, gmNil, mPop, sAug, mExt, sPar, and_true, true_and, List.isEmpty_nil, List.isEmpty_cons, Nat.reduceAdd, Nat.reduceLeDiff, Nat.reduceLT, le_sz, lt_sz, fLt_i, fEq_i, fNe_i, fLe_i, dec0, ws_seq, fEq_t h]; exact rfl
      | str x =>
        refine ws_nxc (by simp only [sIf, ws_ofE, wp_bind, wp_noX, mTB, mTr, mNotT, mAndT, mOrT, mAnd, mOr, mNot, mIf, mNeg, mBin, bin2, mChain, mVar, mK, mB, mCall_eq, aNil, aCons, mTup, mLst, mSl, oNo, oSome, mIsi, anyT, isT, truD, sSet, setR, sRet, retR, sNil, sEx, sDvm, sSt, lstAt, putLst, drefs, dats, List.map_cons, List.map_nil, List.cons_append, List.nil_append, List.append_nil, List.replicate, List.getElem?_cons_zero, List.getElem?_cons_succ, List.set_cons_zero, List.set_cons_succ, List.length_cons, List.length_nil, bind_ok, ofO_some, ofE_ok, oS_some, noX_ok, wp_ok, ws_nx, ws_rt, fz, dref, fIx, atI0, atI1, atI2, ixN_20, ixN_21, ixN_10, Option.map_some, fGt, fGe, fSub, fI, fI0, fAdd, fInt, fLen, lenD, outsOf, parOnly, notSlt, List.take_succ_cons, List.take_zero, if_true, if_false, Bool.false_eq_true, decide_true, decide_false, Bool.not_true, Bool.not_false, fIs, fIsNot, isNoneD, sTg, gmT, gmCons, gmN, gmNil, mPop, sAug, mExt, sPar, and_true, true_and, List.isEmpty_nil, List.isEmpty_cons, Nat.reduceAdd, Nat.reduceLeDiff, Nat.reduceLT, le_sz, lt_sz, fLt_i, fEq_i, fNe_i, fLe_i, dec0, fEq_t h]; exact rfl) ?_
        cases hx : tbI.lookup x with
        | none =>
          simp only [sIf, ws_ofE, wp_bind, wp_noX, mTB, mTr, mNotT, mAndT, mOrT, mAnd, mOr, mNot, mIf, mNeg, mBin, bin2, mChain, mVar, mK, mB, mCall_eq, aNil, aCons, mTup, mLst, mSl, oNo, oSome, mIsi, anyT, isT, truD, sSet, setR, sRet, retR, sNil, sEx, sDvm, sSt, lstAt, putLst, drefs, dats, List.map_cons, List.map_nil, List.cons_append, List.nil_append, List.append_nil, List.replicate, List.getElem?_cons_zero, List.getElem?_cons_succ, List.set_cons_zero, List.set_cons_succ, List.length_cons, List.length_nil, bind_ok, ofO_some, ofE_ok, oS_some, noX_ok, wp_ok, ws_nx, ws_rt, fz, dref, fIx, atI0, atI1, atI2, ixN_20, ixN_21, ixN_10, Option.map_some, fGt, fGe, fSub, fI, fI0, fAdd, fInt, fLen, lenD, outsOf, parOnly, notSlt, List.take_succ_cons, List.take_zero, if_true, if_false, Bool.false_eq_true, decide_true, decide_false, Bool.not_true, Bool.not_false, fIs, fIsNot, isNoneD, sTg, gmT, gmCons, gmN, gmNil, mPop, sAug, mExt, sPar, and_true, true_and, List.isEmpty_nil, List.isEmpty_cons, Nat.reduceAdd, Nat.reduceLeDiff, Nat.reduceLT, le_sz, lt_sz, fLt_i, fEq_i, fNe_i, fLe_i, dec0, mTabIn, mTabGet, tb_eq, hx, Option.map_none, Option.isSome_none]
          simp [wordD, hx]
        | some n =>
          simp only [sIf, ws_ofE, wp_bind, wp_noX, mTB, mTr, mNotT, mAndT, mOrT, mAnd, mOr, mNot, mIf, mNeg, mBin, bin2, mChain, mVar, mK, mB, mCall_eq, aNil, aCons, mTup, mLst, mSl, oNo, oSome, mIsi, anyT, isT, truD, sSet, setR, sRet, retR, sNil, sEx, sDvm, sSt, lstAt, putLst, drefs, dats, List.map_cons, List.map_nil, List.cons_append, List.nil_append, List.append_nil, List.replicate, List.getElem?_cons_zero, List.getElem?_cons_succ, List.set_cons_zero, List.set_cons_succ, List.length_cons, List.length_nil, bind_ok, ofO_some, ofE_ok, oS_some, noX_ok, wp_ok, ws_nx, ws_rt, fz, dref, fIx, atI0, atI1, atI2, ixN_20, ixN_21, ixN_10, Option.map_some, fGt, fGe, fSub, fI, fI0, fAdd, fInt, fLen, lenD, outsOf, parOnly, notSlt, List.take_succ_cons, List.take_zero, if_true, if_false, Bool.false_eq_true, decide_true, decide_false, Bool.not_true, Bool.not_false, fIs, fIsNot, isNoneD, sTg, gmT, gmCons, gmN, gmNil, mPop, sAug, mExt, sPar, and_true, true_and, List.isEmpty_nil, List.isEmpty_cons, Nat.reduceAdd, Nat.reduceLeDiff, Nat.reduceLT, le_sz, lt_sz, fLt_i, fEq_i, fNe_i, fLe_i, dec0, mTabIn, mTabGet, tb_eq, hx, Option.isSome_some]
          simp [wordD, hx]
end Lw
end Vl

set_option Elab.async false
set_option linter.all false
set_option maxRecDepth 100000
namespace Vl
open PySem PySem.Spec PyProof.Rows L2
theorem lc_gen {gm : GM} {tm : TM} {em : EM} {vs : List Nat} {g : D → D} {up : D → List Sl} {ρ : List Sl} : ∀ (ds acc : List D), (∀ d ∈ ds, gm d ρ = some (up d) ∧ tm (up d) = .ok true (up d) ∧ em (up d) = .ok (.dat (g d)) (up d) ∧ wipeS (up d) vs = ρ) → acc.length + ds.length ≤ sizeLine →
    lcL gm (fun ρ => noX (tm ρ)) (fun ρ => noX (em ρ)) vs ds ρ acc = .ok (.frs (.lst (acc ++ ds.map g))) ρ
  | [], acc, _, _ => by rw [List.map_nil, List.append_nil]; rfl
  | d :: ds, acc, h, hl => by
    obtain ⟨h0, h1, h2, h3⟩ := h d List.mem_cons_self
    unfold lcL
    rw [h0, ofO_some, h1, noX_ok, bind_ok, if_pos rfl, h2, noX_ok, bind_ok]
    show (if acc.length < sizeLine then _ else _) = _
    rw [List.length_cons] at hl
    rw [if_pos (by omega), h3, lc_gen ds (acc ++ [g d]) (fun d' hd => h d' (List.mem_cons_of_mem _ hd)) (by rw [List.length_append]; show acc.length + 1 + ds.length ≤ _; omega), List.map_cons, List.append_assoc]
    rfl
namespace Lw
def countD : D → Bool
  | .int i => decide (0 ≤ i)
  | _ => false
theorem integer_ev {d : D} (h : Sm d) : Ev M_is_integer [d] (.bool (match d with | .int _ => true | _ => false)) := by
  unfold Ev M_is_integer
  refine wp_fn ?_
  cases d with
  | dict es => have := h.1; simp [okD] at this
  | none => simp only [sIf, ws_ofE, wp_bind, wp_noX, mTB, mTr, mNotT, mAndT, mOrT, mAnd, mOr, mNot, mIf, mNeg, mBin, bin2, mChain, mVar, mK, mB, mCall_eq, aNil, aCons, mTup, mLst, mSl, oNo, oSome, mIsi, anyT, isT, truD, sSet, setR, sRet, retR, sNil, sEx, sDvm, sSt, lstAt, putLst, drefs, dats, List.map_cons, List.map_nil, List.cons_append, List.nil_append, List.append_nil, List.replicate, List.getElem?_cons_zero, List.getElem?_cons_succ, List.set_cons_zero, List.set_cons_succ, List.length_cons, List.length_nil, bind_ok, ofO_some, ofE_ok, oS_some, noX_ok, wp_ok, ws_nx, ws_rt, fz, dref, fIx, atI0, atI1, atI2, ixN_20, ixN_21, ixN_10, Option.map_some, fGt, fGe, fSub, fI, fI0, fAdd, fInt, fLen, lenD, outsOf, parOnly, notSlt, List.take_succ_cons, List.take_zero, if_true, if_false, Bool.false_eq_true, decide_true, decide_false, Bool.not_true, Bool.not_false, fIs, fIsNot, isNoneD, sTg, gmT, gmCons, gmN, gmNil, mPop, sAug, mExt, sPar, and_true, true_and, List.isEmpty_nil, List.isEmpty_cons, Nat.reduceAdd, Nat.reduceLeDiff, Nat.reduceLT, le_sz, lt_sz, fLt_i, fEq_i, fNe_i, fLe_i, dec0]
  | bool b => simp only [sIf, ws_ofE, wp_bind, wp_noX, mTB, mTr, mNotT, mAndT, mOrT, mAnd, mOr, mNot, mIf, mNeg, mBin, bin2, mChain, mVar, mK, mB, mCall_eq, aNil, aCons, mTup, mLst, mSl, oNo, oSome, mIsi, anyT, isT, truD, sSet, setR, sRet, retR, sNil, sEx, sDvm, sSt, lstAt, putLst, drefs, dats, List.map_cons, List.map_nil, List.cons_append, List.nil_append, List.append_nil, List.replicate, List.getElem?_cons_zero, List.getElem?_cons_succ, List.set_cons_zero, List.set_cons_succ, List.length_cons, List.length_nil, bind_ok, ofO_some, ofE_ok, oS_some, noX_ok, wp_ok, ws_nx, ws_rt, fz, dref, fIx, atI0, atI1, atI2, ixN_20, ixN_21, ixN_10, Option.map_some, fGt, fGe, fSub, fI, fI0, fAdd, fInt, fLen, lenD, outsOf, parOnly, notSlt, List.take_succ_cons, List.take_zero, if_true, if_false, Bool.false_eq_true, decide_true, decide_false, Bool.not_true, Bool.not_false, fIs, fIsNot, isNoneD, sTg, gmT, gmCons, gmN, gmNil, mPop, sAug, mExt, sPar, and_true, true_and, List.isEmpty_nil, List.isEmpty_cons, Nat.reduceAdd, Nat.reduceLeDiff, Nat.reduceLT, le_sz, lt_sz, fLt_i, fEq_i, fNe_i, fLe_i, dec0]
  | int b => simp only [sIf, ws_ofE, wp_bind, wp_noX, mTB, mTr, mNotT, mAndT, mOrT, mAnd, mOr, mNot, mIf, mNeg, mBin, bin2, mChain, mVar, mK, mB, mCall_eq, aNil, aCons, mTup, mLst, mSl, oNo, oSome, mIsi, anyT, isT, truD, sSet, setR, sRet, retR, sNil, sEx, sDvm, sSt, lstAt, putLst, drefs, dats, List.map_cons, List.map_nil, List.cons_append, List.nil_append, List.append_nil, List.replicate, List.getElem?_cons_zero, List.getElem?_cons_succ, List.set_cons_zero, List.set_cons_succ, List.length_cons, List.length_nil, bind_ok, ofO_some, ofE_ok, oS_some, noX_ok, wp_ok, ws_nx, ws_rt, fz, dref, fIx, atI0, atI1, atI2, ixN_20, ixN_21, ixN_10, Option.map_some, fGt, fGe, fSub, fI, fI0, fAdd, fInt, fLen, lenD, outsOf, parOnly, notSlt, List.take_succ_cons, List.take_zero, if_true, if_false, Bool.false_eq_true, decide_true, decide_false, Bool.not_true, Bool.not_false, fIs, fIsNot, isNoneD, sTg, gmT, gmCons, gmN, gmNil, mPop, sAug, mExt, sPar, and_true, true_and, List.isEmpty_nil, List.isEmpty_cons, Nat.reduceAdd, Nat.reduceLeDiff, Nat.reduceLT, le_sz, lt_sz, fLt_i, fEq_i, fNe_i, fLe_i, dec0]
  | list b => simp only [sIf, ws_ofE, wp_bind, wp_noX, mTB, mTr, mNotT, mAndT, mOrT, mAnd, mOr, mNot, mIf, mNeg, mBin, bin2, mChain, mVar, mK, mB, mCall_eq, aNil, aCons, mTup, mLst, mSl, oNo, oSome, mIsi, anyT, isT, truD, sSet, setR, sRet, retR, sNil, sEx, sDvm, sSt, lstAt, putLst, drefs, dats, List.map_cons, List.map_nil, List.cons_append, List.nil_append, List.append_nil, List.replicate, List.getElem?_cons_zero, List.getElem?_cons_succ, List.set_cons_zero, List.set_cons_succ, List.length_cons, List.length_nil, bind_ok, ofO_some, ofE_ok, oS_some, noX_ok, wp_ok, ws_nx, ws_rt, fz, dref, fIx, atI0, atI1, atI2, ixN_20, ixN_21, ixN_10, Option.map_some, fGt, fGe, fSub, fI, fI0, fAdd, fInt, fLen, lenD, outsOf, parOnly, notSlt, List.take_succ_cons, List.take_zero, if_true, if_false, Bool.false_eq_true, decide_true, decide_false, Bool.not_true, Bool.not_false, fIs, fIsNot, isNoneD, sTg, gmT, gmCons, gmN, gmNil, mPop, sAug, mExt, sPar, and_true, true_and, List.isEmpty_nil, List.isEmpty_cons, Nat.reduceAdd, Nat.reduceLeDiff, Nat.reduceLT, le_sz, lt_sz, fLt_i, fEq_i, fNe_i, fLe_i, dec0]
  | str b => simp only [sIf, ws_ofE, wp_bind, wp_noX, mTB, mTr, mNotT, mAndT, mOrT, mAnd, mOr, mNot, mIf, mNeg, mBin, bin2, mChain, mVar, mK, mB, mCall_eq, aNil, aCons, mTup, mLst, mSl, oNo, oSome, mIsi, anyT, isT, truD, sSet, setR, sRet, retR, sNil, sEx, sDvm, sSt, lstAt, putLst, drefs, dats, List.map_cons, List.map_nil, List.cons_append, List.nil_append, List.append_nil, List.replicate, List.getElem?_cons_zero, List.getElem?_cons_succ, List.set_cons_zero, List.set_cons_succ, List.length_cons, List.length_nil, bind_ok, ofO_some, ofE_ok, oS_some, noX_ok, wp_ok, ws_nx, ws_rt, fz, dref, fIx, atI0, atI1, atI2, ixN_20, ixN_21, ixN_10, Option.map_some, fGt, fGe, fSub, fI, fI0, fAdd, fInt, fLen, lenD, outsOf, parOnly, notSlt, List.take_succ_cons, List.take_zero, if_true, if_false, Bool.false_eq_true, decide_true, decide_false, Bool.not_true, Bool.not_false, fIs, fIsNot, isNoneD, sTg, gmT, gmCons, gmN, gmNil, mPop, sAug, mExt, sPar, and_true, true_and, List.isEmpty_nil, List.isEmpty_cons, Nat.reduceAdd, Nat.reduceLeDiff, Nat.reduceLT, le_sz, lt_sz, fLt_i, fEq_i, fNe_i, fLe_i, dec0]
  | tuple ds => simp only [sIf, ws_ofE, wp_bind, wp_noX, mTB, mTr, mNotT, mAndT, mOrT, mAnd, mOr, mNot, mIf, mNeg, mBin, bin2, mChain, mVar, mK, mB, mCall_eq, aNil, aCons, mTup, mLst, mSl, oNo, oSome, mIsi, anyT, isT, truD, sSet, setR, sRet, retR, sNil, sEx, sDvm, sSt, lstAt, putLst, drefs, dats, List.map_cons, List.map_nil, List.cons_append, List.nil_append, List.append_nil, List.replicate, List.getElem?_cons_zero, List.getElem?_cons_succ, List.set_cons_zero, List.set_cons_succ, List.length_cons, List.length_nil, bind_ok, ofO_some, ofE_ok, oS_some, noX_ok, wp_ok, ws_nx, ws_rt, fz, dref, fIx, atI0, atI1, atI2, ixN_20, ixN_21, ixN_10, Option.map_some, fGt, fGe, fSub, fI, fI0, fAdd, fInt, fLen, lenD, outsOf, parOnly, notSlt, List.take_succ_cons, List.take_zero, if_true, if_false, Bool.false_eq_true, decide_true, decide_false, Bool.not_true, Bool.not_false, fIs, fIsNot, isNoneD, sTg, gmT, gmCons, gmN, gmNil, mPop, sAug, mExt, sPar, and_true, true_and, List.isEmpty_nil, List.isEmpty_cons, Nat.reduceAdd, Nat.reduceLeDiff, Nat.reduceLT, le_sz, lt_sz, fLt_i, fEq_i, fNe_i, fLe_i, dec0]
theorem count_ev {d : D} (h : Sm d) : Ev M_is_count [d] (.bool (countD d)) := by
  unfold Ev M_is_count
  refine wp_fn ?_
  have t := integer_ev h
  cases d with
  | dict es => have := h.1; simp [okD] at this
  | none => simp only [sIf, ws_ofE, wp_bind, wp_noX, mTB, mTr, mNotT, mAndT, mOrT, mAnd, mOr, mNot, mIf, mNeg, mBin, bin2, mChain, mVar, mK, mB, mCall_eq, aNil, aCons, mTup, mLst, mSl, oNo, oSome, mIsi, anyT, isT, truD, sSet, setR, sRet, retR, sNil, sEx, sDvm, sSt, lstAt, putLst, drefs, dats, List.map_cons, List.map_nil, List.cons_append, List.nil_append, List.append_nil, List.replicate, List.getElem?_cons_zero, List.getElem?_cons_succ, List.set_cons_zero, List.set_cons_succ, List.length_cons, List.length_nil, bind_ok, ofO_some, ofE_ok, oS_some, noX_ok, wp_ok, ws_nx, ws_rt, fz, dref, fIx, atI0, atI1, atI2, ixN_20, ixN_21, ixN_10, Option.map_some, fGt, fGe, fSub, fI, fI0, fAdd, fInt, fLen, lenD, outsOf, parOnly, notSlt, List.take_succ_cons, List.take_zero, if_true, if_false, Bool.false_eq_true, decide_true, decide_false, Bool.not_true, Bool.not_false, fIs, fIsNot, isNoneD, sTg, gmT, gmCons, gmN, gmNil, mPop, sAug, mExt, sPar, and_true, true_and, List.isEmpty_nil, List.isEmpty_cons, Nat.reduceAdd, Nat.reduceLeDiff, Nat.reduceLT, le_sz, lt_sz, fLt_i, fEq_i, fNe_i, fLe_i, dec0, ev1 t]; exact rfl
  | bool b => simp only [sIf, ws_ofE, wp_bind, wp_noX, mTB, mTr, mNotT, mAndT, mOrT, mAnd, mOr, mNot, mIf, mNeg, mBin, bin2, mChain, mVar, mK, mB, mCall_eq, aNil, aCons, mTup, mLst, mSl, oNo, oSome, mIsi, anyT, isT, truD, sSet, setR, sRet, retR, sNil, sEx, sDvm, sSt, lstAt, putLst, drefs, dats, List.map_cons, List.map_nil, List.cons_append, List.nil_append, List.append_nil, List.replicate, List.getElem?_cons_zero, List.getElem?_cons_succ, List.set_cons_zero, List.set_cons_succ, List.length_cons, List.length_nil, bind_ok, ofO_some, ofE_ok, oS_some, noX_ok, wp_ok, ws_nx, ws_rt, fz, dref, fIx, atI0, atI1, atI2, ixN_20, ixN_21, ixN_10, Option.map_some, fGt, fGe, fSub, fI, fI0, fAdd, fInt, fLen, lenD, outsOf, parOnly, notSlt, List.take_succ_cons, List.take_zero, if_true, if_false, Bool.false_eq_true, decide_true, decide_false, Bool.not_true, Bool.not_false, fIs, fIsNot, isNoneD, sTg, gmT, gmCons, gmN, gmNil, mPop, sAug, mExt, sPar, and_true, true_and, List.isEmpty_nil, List.isEmpty_cons, Nat.reduceAdd, Nat.reduceLeDiff, Nat.reduceLT, le_sz, lt_sz, fLt_i, fEq_i, fNe_i, fLe_i, dec0, ev1 t]; exact rfl
  | int b => simp only [sIf, ws_ofE, wp_bind, wp_noX, mTB, mTr, mNotT, mAndT, mOrT, mAnd, mOr, mNot, mIf, mNeg, mBin, bin2, mChain, mVar, mK, mB, mCall_eq, aNil, aCons, mTup, mLst, mSl, oNo, oSome, mIsi, anyT, isT, truD, sSet, setR, sRet, retR, sNil, sEx, sDvm, sSt, lstAt, putLst, drefs, dats, List.map_cons, List.map_nil, List.cons_append, List.nil_append, List.append_nil, List.replicate, List.getElem?_cons_zero, List.getElem?_cons_succ, List.set_cons_zero, List.set_cons_succ, List.length_cons, List.length_nil, bind_ok, ofO_some, ofE_ok, oS_some, noX_ok, wp_ok, ws_nx, ws_rt, fz, dref, fIx, atI0, atI1, atI2, ixN_20, ixN_21, ixN_10, Option.map_some, fGt, fGe, fSub, fI, fI0, fAdd, fInt, fLen, lenD, outsOf, parOnly, notSlt, List.take_succ_cons, List.take_zero, if_true, if_false, Bool.false_eq_true, decide_true, decide_false, Bool.not_true, Bool.not_false, fIs, fIsNot, isNoneD, sTg, gmT, gmCons, gmN, gmNil, mPop, sAug, mExt, sPar, and_true, true_and, List.isEmpty_nil, List.isEmpty_cons, Nat.reduceAdd, Nat.reduceLeDiff, Nat.reduceLT, le_sz, lt_sz, fLt_i, fEq_i, fNe_i, fLe_i, dec0, ev1 t]; exact rfl
  | list b => simp only [sIf, ws_ofE, wp_bind, wp_noX, mTB, mTr, mNotT, mAndT, mOrT, mAnd, mOr, mNot, mIf, mNeg, mBin, bin2, mChain, mVar, mK, mB, mCall_eq, aNil, aCons, mTup, mLst, mSl, oNo, oSome, mIsi, anyT, isT, truD, sSet, setR, sRet, retR, sNil, sEx, sDvm, sSt, lstAt, putLst, drefs, dats, List.map_cons, List.map_nil, List.cons_append, List.nil_append, List.append_nil, List.replicate, List.getElem?_cons_zero, List.getElem?_cons_succ, List.set_cons_zero, List.set_cons_succ, List.length_cons, List.length_nil, bind_ok, ofO_some, ofE_ok, oS_some, noX_ok, wp_ok, ws_nx, ws_rt, fz, dref, fIx, atI0, atI1, atI2, ixN_20, ixN_21, ixN_10, Option.map_some, fGt, fGe, fSub, fI, fI0, fAdd, fInt, fLen, lenD, outsOf, parOnly, notSlt, List.take_succ_cons, List.take_zero, if_true, if_false, Bool.false_eq_true, decide_true, decide_false, Bool.not_true, Bool.not_false, fIs, fIsNot, isNoneD, sTg, gmT, gmCons, gmN, gmNil, mPop, sAug, mExt, sPar, and_true, true_and, List.isEmpty_nil, List.isEmpty_cons, Nat.reduceAdd, Nat.reduceLeDiff, Nat.reduceLT, le_sz, lt_sz, fLt_i, fEq_i, fNe_i, fLe_i, dec0, ev1 t]; exact rfl
  | str b => simp only [sIf, ws_ofE, wp_bind, wp_noX, mTB, mTr, mNotT, mAndT, mOrT, mAnd, mOr, mNot, mIf, mNeg, mBin, bin2, mChain, mVar, mK, mB, mCall_eq, aNil, aCons, mTup, mLst, mSl, oNo, oSome, mIsi, anyT, isT, truD, sSet, setR, sRet, retR, sNil, sEx, sDvm, sSt, lstAt, putLst, drefs, dats, List.map_cons, List.map_nil, List.cons_append, List.nil_append, List.append_nil, List.replicate, List.getElem?_cons_zero, List.getElem?_cons_succ, List.set_cons_zero, List.set_cons_succ, List.length_cons, List.length_nil, bind_ok, ofO_some, ofE_ok, oS_some, noX_ok, wp_ok, ws_nx, ws_rt, fz, dref, fIx, atI0, atI1, atI2, ixN_20, ixN_21, ixN_10, Option.map_some, fGt, fGe, fSub, fI, fI0, fAdd, fInt, fLen, lenD, outsOf, parOnly, notSlt, List.take_succ_cons, List.take_zero, if_true, if_false, Bool.false_eq_true, decide_true, decide_false, Bool.not_true, Bool.not_false, fIs, fIsNot, isNoneD, sTg, gmT, gmCons, gmN, gmNil, mPop, sAug, mExt, sPar, and_true, true_and, List.isEmpty_nil, List.isEmpty_cons, Nat.reduceAdd, Nat.reduceLeDiff, Nat.reduceLT, le_sz, lt_sz, fLt_i, fEq_i, fNe_i, fLe_i, dec0, ev1 t]; exact rfl
  | tuple ds => simp only [sIf, ws_ofE, wp_bind, wp_noX, mTB, mTr, mNotT, mAndT, mOrT, mAnd, mOr, mNot, mIf, mNeg, mBin, bin2, mChain, mVar, mK, mB, mCall_eq, aNil, aCons, mTup, mLst, mSl, oNo, oSome, mIsi, anyT, isT, truD, sSet, setR, sRet, retR, sNil, sEx, sDvm, sSt, lstAt, putLst, drefs, dats, List.map_cons, List.map_nil, List.cons_append, List.nil_append, List.append_nil, List.replicate, List.getElem?_cons_zero, List.getElem?_cons_succ, List.set_cons_zero, List.set_cons_succ, List.length_cons, List.length_nil, bind_ok, ofO_some, ofE_ok, oS_some, noX_ok, wp_ok, ws_nx, ws_rt, fz, dref, fIx, atI0, atI1, atI2, ixN_20, ixN_21, ixN_10, Option.map_some, fGt, fGe, fSub, fI, fI0, fAdd, fInt, fLen, lenD, outsOf, parOnly, notSlt, List.take_succ_cons, List.take_zero, if_true, if_false, Bool.false_eq_true, decide_true, decide_false, Bool.not_true, Bool.not_false, fIs, fIsNot, isNoneD, sTg, gmT, gmCons, gmN, gmNil, mPop, sAug, mExt, sPar, and_true, true_and, List.isEmpty_nil, List.isEmpty_cons, Nat.reduceAdd, Nat.reduceLeDiff, Nat.reduceLT, le_sz, lt_sz, fLt_i, fEq_i, fNe_i, fLe_i, dec0, ev1 t]; exact rfl
def letD (d : D) : Bool := match d with
  | .tuple [.str x, y] => (x == "at") && countD y
  | _ => false
theorem letter_ev {d : D} (h : Sm d) : Ev M_is_letter [d, .none] (.bool (letD d)) := by
  unfold Ev M_is_letter
  refine wp_fn ?_
  have t : Ev M_is_told [d, .str "at", .int 2] (.bool (toldD d "at" 2)) := told_ev h (w := "at") okw.2.2.2.1 (k := 2) (by omega)
  simp only [sIf, ws_ofE, wp_bind, wp_noX, mTB, mTr, mNotT, mAndT, mOrT, mAnd, mOr, mNot, mIf, mNeg, mBin, bin2, mChain, mVar, mK, mB, mCall_eq, aNil, aCons, mTup, mLst, mSl, oNo, oSome, mIsi, anyT, isT, truD, sSet, setR, sRet, retR, sNil, sEx, sDvm, sSt, lstAt, putLst, drefs, dats, List.map_cons, List.map_nil, List.cons_append, List.nil_append, List.append_nil, List.replicate, List.getElem?_cons_zero, List.getElem?_cons_succ, List.set_cons_zero, List.set_cons_succ, List.length_cons, List.length_nil, bind_ok, ofO_some, ofE_ok, oS_some, noX_ok, wp_ok, ws_nx, ws_rt, fz, dref, fIx, atI0, atI1, atI2, ixN_20, ixN_21, ixN_10, Option.map_some, fGt, fGe, fSub, fI, fI0, fAdd, fInt, fLen, lenD, outsOf, parOnly, notSlt, List.take_succ_cons, List.take_zero, if_true, if_false, Bool.false_eq_true, decide_true, decide_false, Bool.not_true, Bool.not_false, fIs, fIsNot, isNoneD, sTg, gmT, gmCons, gmN, gmNil, mPop, sAug, mExt, sPar, and_true, true_and, List.isEmpty_nil, List.isEmpty_cons, Nat.reduceAdd, Nat.reduceLeDiff, Nat.reduceLT, le_sz, lt_sz, fLt_i, fEq_i, fNe_i, fLe_i, dec0, ev3 t]
  cases ht : toldD d "at" 2 with
  | false =>
    simp only [sIf, ws_ofE, wp_bind, wp_noX, mTB, mTr, mNotT, mAndT, mOrT, mAnd, mOr, mNot, mIf, mNeg, mBin, bin2, mChain, mVar, mK, mB, mCall_eq, aNil, aCons, mTup, mLst, mSl, oNo, oSome, mIsi, anyT, isT, truD, sSet, setR, sRet, retR, sNil, sEx, sDvm, sSt, lstAt, putLst, drefs, dats, List.map_cons, List.map_nil, List.cons_append, List.nil_append, List.append_nil, List.replicate, List.getElem?_cons_zero, List.getElem?_cons_succ, List.set_cons_zero, List.set_cons_succ, List.length_cons, List.length_nil, bind_ok, ofO_some, ofE_ok, oS_some, noX_ok, wp_ok, ws_nx, ws_rt, fz, dref, fIx, atI0, atI1, atI2, ixN_20, ixN_21, ixN_10, Option.map_some, fGt, fGe, fSub, fI, fI0, fAdd, fInt, fLen, lenD, outsOf, parOnly, notSlt, List.take_succ_cons, List.take_zero, if_true, if_false, Bool.false_eq_true, decide_true, decide_false, Bool.not_true, Bool.not_false, fIs, fIsNot, isNoneD, sTg, gmT, gmCons, gmN, gmNil, mPop, sAug, mExt, sPar, and_true, true_and, List.isEmpty_nil, List.isEmpty_cons, Nat.reduceAdd, Nat.reduceLeDiff, Nat.reduceLT, le_sz, lt_sz, fLt_i, fEq_i, fNe_i, fLe_i, dec0]
    show Res.dat (.bool false) = Res.dat (.bool (letD d))
    congr 2
    unfold letD
    split
    · rename_i x y
      cases hx : (x == ("at" : Str)) with
      | false => rfl
      | true => simp [toldD, hx] at ht
    · rfl
  | true =>
    obtain ⟨r, rfl, hr⟩ := told_t ht
    match r, hr with
    | [y], _ =>
      have n := count_ev (h.sub (d := y) (by simp))
      simp only [sIf, ws_ofE, wp_bind, wp_noX, mTB, mTr, mNotT, mAndT, mOrT, mAnd, mOr, mNot, mIf, mNeg, mBin, bin2, mChain, mVar, mK, mB, mCall_eq, aNil, aCons, mTup, mLst, mSl, oNo, oSome, mIsi, anyT, isT, truD, sSet, setR, sRet, retR, sNil, sEx, sDvm, sSt, lstAt, putLst, drefs, dats, List.map_cons, List.map_nil, List.cons_append, List.nil_append, List.append_nil, List.replicate, List.getElem?_cons_zero, List.getElem?_cons_succ, List.set_cons_zero, List.set_cons_succ, List.length_cons, List.length_nil, bind_ok, ofO_some, ofE_ok, oS_some, noX_ok, wp_ok, ws_nx, ws_rt, fz, dref, fIx, atI0, atI1, atI2, ixN_20, ixN_21, ixN_10, Option.map_some, fGt, fGe, fSub, fI, fI0, fAdd, fInt, fLen, lenD, outsOf, parOnly, notSlt, List.take_succ_cons, List.take_zero, if_true, if_false, Bool.false_eq_true, decide_true, decide_false, Bool.not_true, Bool.not_false, fIs, fIsNot, isNoneD, sTg, gmT, gmCons, gmN, gmNil, mPop, sAug, mExt, sPar, and_true, true_and, List.isEmpty_nil, List.isEmpty_cons, Nat.reduceAdd, Nat.reduceLeDiff, Nat.reduceLT, le_sz, lt_sz, fLt_i, fEq_i, fNe_i, fLe_i, dec0, ev1 n]
      cases hc : countD y with
      | false => simp only [sIf, ws_ofE, wp_bind, wp_noX, mTB, mTr, mNotT, mAndT, mOrT, mAnd, mOr, mNot, mIf, mNeg, mBin, bin2, mChain, mVar, mK, mB, mCall_eq, aNil, aCons, mTup, mLst, mSl, oNo, oSome, mIsi, anyT, isT, truD, sSet, setR, sRet, retR, sNil, sEx, sDvm, sSt, lstAt, putLst, drefs, dats, List.map_cons, List.map_nil, List.cons_append, List.nil_append, List.append_nil, List.replicate, List.getElem?_cons_zero, List.getElem?_cons_succ, List.set_cons_zero, List.set_cons_succ, List.length_cons, List.length_nil, bind_ok, ofO_some, ofE_ok, oS_some, noX_ok, wp_ok, ws_nx, ws_rt, fz, dref, fIx, atI0, atI1, atI2, ixN_20, ixN_21, ixN_10, Option.map_some, fGt, fGe, fSub, fI, fI0, fAdd, fInt, fLen, lenD, outsOf, parOnly, notSlt, List.take_succ_cons, List.take_zero, if_true, if_false, Bool.false_eq_true, decide_true, decide_false, Bool.not_true, Bool.not_false, fIs, fIsNot, isNoneD, sTg, gmT, gmCons, gmN, gmNil, mPop, sAug, mExt, sPar, and_true, true_and, List.isEmpty_nil, List.isEmpty_cons, Nat.reduceAdd, Nat.reduceLeDiff, Nat.reduceLT, le_sz, lt_sz, fLt_i, fEq_i, fNe_i, fLe_i, dec0]; simp [letD, hc]
      | true => simp only [sIf, ws_ofE, wp_bind, wp_noX, mTB, mTr, mNotT, mAndT, mOrT, mAnd, mOr, mNot, mIf, mNeg, mBin, bin2, mChain, mVar, mK, mB, mCall_eq, aNil, aCons, mTup, mLst, mSl, oNo, oSome, mIsi, anyT, isT, truD, sSet, setR, sRet, retR, sNil, sEx, sDvm, sSt, lstAt, putLst, drefs, dats, List.map_cons, List.map_nil, List.cons_append, List.nil_append, List.append_nil, List.replicate, List.getElem?_cons_zero, List.getElem?_cons_succ, List.set_cons_zero, List.set_cons_succ, List.length_cons, List.length_nil, bind_ok, ofO_some, ofE_ok, oS_some, noX_ok, wp_ok, ws_nx, ws_rt, fz, dref, fIx, atI0, atI1, atI2, ixN_20, ixN_21, ixN_10, Option.map_some, fGt, fGe, fSub, fI, fI0, fAdd, fInt, fLen, lenD, outsOf, parOnly, notSlt, List.take_succ_cons, List.take_zero, if_true, if_false, Bool.false_eq_true, decide_true, decide_false, Bool.not_true, Bool.not_false, fIs, fIsNot, isNoneD, sTg, gmT, gmCons, gmN, gmNil, mPop, sAug, mExt, sPar, and_true, true_and, List.isEmpty_nil, List.isEmpty_cons, Nat.reduceAdd, Nat.reduceLeDiff, Nat.reduceLT, le_sz, lt_sz, fLt_i, fEq_i, fNe_i, fLe_i, dec0]; simp [letD, hc]
/-! ### a node's parts -/
def partsD (d : D) : List D := match d with
  | .tuple (.str x :: r) => if (x == "is") || (x == "at") then [] else if x == "call" then (match r with
    | [_, .tuple ps] => ps
    | _ => []) else r
  | _ => []
theorem in_two (x : Str) : fIn (.str x) (.tuple [.str "is", .str "at"]) = some (.dat (.bool ((x == "is") || (x == "at")))) := by
  unfold fIn inD
  dsimp only
  rw [if_pos ⟨rfl, by decide⟩]
  simp only [List.any_cons, List.any_nil, Bool.or_false, Option.map_some, PyData.eqv]
  rw [show (("is" : Str) == x) = (x == ("is" : Str)) from Bool.beq_comm .., show (("at" : Str) == x) = (x == ("at" : Str)) from Bool.beq_comm ..]
theorem cut1 (a : D) (r : List D) : cutD (a :: r) (some 1) none = r := by
  unfold cutD
  rw [show HT.sIx (a :: r).length 0 (some 1) = min 1 (a :: r).length from HT.sIx_nat (a :: r).length 0 1, HT.sIx_none]
  rw [show min 1 (a :: r).length = 1 by rw [List.length_cons]; omega]
  show List.take ((a :: r).length - 1) r = r
  rw [List.length_cons, Nat.add_sub_cancel]
  exact List.take_length
theorem word_look {x : Str} {n : Int} (h : tbI.lookup x = some n) : (x == ("is" : Str)) = false ∧ (x == ("at" : Str)) = false ∧ (x == ("call" : Str)) = false := by
  have a1 : tbI.lookup ("is" : Str) = none := by decide
  have a2 : tbI.lookup ("at" : Str) = none := by decide
  have a3 : tbI.lookup ("call" : Str) = none := by decide
  refine ⟨beq_eq_false_iff_ne.mpr fun e => ?_, beq_eq_false_iff_ne.mpr fun e => ?_, beq_eq_false_iff_ne.mpr fun e => ?_⟩
  · rw [e, a1] at h; cases h
  · rw [e, a2] at h; cases h
  · rw [e, a3] at h; cases h
theorem parts_ev {d : D} (h : Sm d) (hv : leafD d = true ∨ letD d = true ∨ callD d = true ∨ wordD d = true) : Ev M_parts_of [d] (.tuple (partsD d)) := by
  unfold Ev M_parts_of
  refine wp_fn ?_
  rcases hv with hv | hv | hv | hv
  · unfold leafD at hv
    split at hv
    · rename_i x y
      rw [Bool.and_eq_true, beq_iff_eq] at hv
      obtain ⟨rfl, _⟩ := hv
      refine ws_rtc ?_
      simp only [sIf, ws_ofE, wp_bind, wp_noX, mTB, mTr, mNotT, mAndT, mOrT, mAnd, mOr, mNot, mIf, mNeg, mBin, bin2, mChain, mVar, mK, mB, mCall_eq, aNil, aCons, mTup, mLst, mSl, oNo, oSome, mIsi, anyT, isT, truD, sSet, setR, sRet, retR, sNil, sEx, sDvm, sSt, lstAt, putLst, drefs, dats, List.map_cons, List.map_nil, List.cons_append, List.nil_append, List.append_nil, List.replicate, List.getElem?_cons_zero, List.getElem?_cons_succ, List.set_cons_zero, List.set_cons_succ, List.length_cons, List.length_nil, bind_ok, ofO_some, ofE_ok, oS_some, noX_ok, wp_ok, ws_nx, ws_rt, fz, dref, fIx, atI0, atI1, atI2, ixN_20, ixN_21, ixN_10, Option.map_some, fGt, fGe, fSub, fI, fI0, fAdd, fInt, fLen, lenD, outsOf, parOnly, notSlt, List.take_succ_cons, List.take_zero, if_true, if_false, Bool.false_eq_true, decide_true, decide_false, Bool.not_true, Bool.not_false, fIs, fIsNot, isNoneD, sTg, gmT, gmCons, gmN, gmNil, mPop, sAug, mExt, sPar, and_true, true_and, List.isEmpty_nil, List.isEmpty_cons, Nat.reduceAdd, Nat.reduceLeDiff, Nat.reduceLT, le_sz, lt_sz, fLt_i, fEq_i, fNe_i, fLe_i, dec0, in_two, beq_self_eq_true, Bool.true_or]
      exact rfl
    · cases hv
  · unfold letD at hv
    split at hv
    · rename_i x y
      rw [Bool.and_eq_true, beq_iff_eq] at hv
      obtain ⟨rfl, _⟩ := hv
      refine ws_rtc ?_
      simp only [sIf, ws_ofE, wp_bind, wp_noX, mTB, mTr, mNotT, mAndT, mOrT, mAnd, mOr, mNot, mIf, mNeg, mBin, bin2, mChain, mVar, mK, mB, mCall_eq, aNil, aCons, mTup, mLst, mSl, oNo, oSome, mIsi, anyT, isT, truD, sSet, setR, sRet, retR, sNil, sEx, sDvm, sSt, lstAt, putLst, drefs, dats, List.map_cons, List.map_nil, List.cons_append, List.nil_append, List.append_nil, List.replicate, List.getElem?_cons_zero, List.getElem?_cons_succ, List.set_cons_zero, List.set_cons_succ, List.length_cons, List.length_nil, bind_ok, ofO_some, ofE_ok, oS_some, noX_ok, wp_ok, ws_nx, ws_rt, fz, dref, fIx, atI0, atI1, atI2, ixN_20, ixN_21, ixN_10, Option.map_some, fGt, fGe, fSub, fI, fI0, fAdd, fInt, fLen, lenD, outsOf, parOnly, notSlt, List.take_succ_cons, List.take_zero, if_true, if_false, Bool.false_eq_true, decide_true, decide_false, Bool.not_true, Bool.not_false, fIs, fIsNot, isNoneD, sTg, gmT, gmCons, gmN, gmNil, mPop, sAug, mExt, sPar, and_true, true_and, List.isEmpty_nil, List.isEmpty_cons, Nat.reduceAdd, Nat.reduceLeDiff, Nat.reduceLT, le_sz, lt_sz, fLt_i, fEq_i, fNe_i, fLe_i, dec0, in_two, beq_self_eq_true, Bool.or_true]
      exact rfl
    · cases hv
  · unfold callD at hv
    split at hv
    · rename_i x y ps
      rw [Bool.and_eq_true, Bool.and_eq_true, beq_iff_eq] at hv
      obtain ⟨⟨rfl, _⟩, _⟩ := hv
      have e1 : (("call" : Str) == ("is" : Str)) = false := by decide
      have e2 : (("call" : Str) == ("at" : Str)) = false := by decide
      refine ws_nxc (by simp only [sIf, ws_ofE, wp_bind, wp_noX, mTB, mTr, mNotT, mAndT, mOrT, mAnd, mOr, mNot, mIf, mNeg, mBin, bin2, mChain, mVar, mK, mB, mCall_eq, aNil, aCons, mTup, mLst, mSl, oNo, oSome, mIsi, anyT, isT, truD, sSet, setR, sRet, retR, sNil, sEx, sDvm, sSt, lstAt, putLst, drefs, dats, List.map_cons, List.map_nil, List.cons_append, List.nil_append, List.append_nil, List.replicate, List.getElem?_cons_zero, List.getElem?_cons_succ, List.set_cons_zero, List.set_cons_succ, List.length_cons, List.length_nil, bind_ok, ofO_some, ofE_ok, oS_some, noX_ok, wp_ok, ws_nx, ws_rt, fz, dref, fIx, atI0, atI1, atI2, ixN_20, ixN_21, ixN_10, Option.map_some, fGt, fGe, fSub, fI, fI0, fAdd, fInt, fLen, lenD, outsOf, parOnly, notSlt, List.take_succ_cons, List.take_zero, if_true, if_false, Bool.false_eq_true, decide_true, decide_false, Bool.not_true, Bool.not_false, fIs, fIsNot, isNoneD, sTg, gmT, gmCons, gmN, gmNil, mPop, sAug, mExt, sPar, and_true, true_and, List.isEmpty_nil, List.isEmpty_cons, Nat.reduceAdd, Nat.reduceLeDiff, Nat.reduceLT, le_sz, lt_sz, fLt_i, fEq_i, fNe_i, fLe_i, dec0, in_two, e1, e2, Bool.or_false]; exact rfl) ?_
      simp only [sIf, ws_ofE, wp_bind, wp_noX, mTB, mTr, mNotT, mAndT, mOrT, mAnd, mOr, mNot, mIf, mNeg, mBin, bin2, mChain, mVar, mK, mB, mCall_eq, aNil, aCons, mTup, mLst, mSl, oNo, oSome, mIsi, anyT, isT, truD, sSet, setR, sRet, retR, sNil, sEx, sDvm, sSt, lstAt, putLst, drefs, dats, List.map_cons, List.map_nil, List.cons_append, List.nil_append, List.append_nil, List.replicate, List.getElem?_cons_zero, List.getElem?_cons_succ, List.set_cons_zero, List.set_cons_succ, List.length_cons, List.length_nil, bind_ok, ofO_some, ofE_ok, oS_some, noX_ok, wp_ok, ws_nx, ws_rt, fz, dref, fIx, atI0, atI1, atI2, ixN_20, ixN_21, ixN_10, Option.map_some, fGt, fGe, fSub, fI, fI0, fAdd, fInt, fLen, lenD, outsOf, parOnly, notSlt, List.take_succ_cons, List.take_zero, if_true, if_false, Bool.false_eq_true, decide_true, decide_false, Bool.not_true, Bool.not_false, fIs, fIsNot, isNoneD, sTg, gmT, gmCons, gmN, gmNil, mPop, sAug, mExt, sPar, and_true, true_and, List.isEmpty_nil, List.isEmpty_cons, Nat.reduceAdd, Nat.reduceLeDiff, Nat.reduceLT, le_sz, lt_sz, fLt_i, fEq_i, fNe_i, fLe_i, dec0, fEq_s okw.2.2.2.2.2.2.2.2.2.1 okw.2.2.2.2.2.2.2.2.2.1, beq_self_eq_true]
      simp [partsD, e1, e2]
    · cases hv
  · unfold wordD at hv
    split at hv
    · rename_i x r
      split at hv
      · rename_i n hn
        obtain ⟨e1, e2, e3⟩ := word_look hn
        have hx := sm_okS (h.sub (d := .str x) (by simp))
        refine ws_nxc (by simp only [sIf, ws_ofE, wp_bind, wp_noX, mTB, mTr, mNotT, mAndT, mOrT, mAnd, mOr, mNot, mIf, mNeg, mBin, bin2, mChain, mVar, mK, mB, mCall_eq, aNil, aCons, mTup, mLst, mSl, oNo, oSome, mIsi, anyT, isT, truD, sSet, setR, sRet, retR, sNil, sEx, sDvm, sSt, lstAt, putLst, drefs, dats, List.map_cons, List.map_nil, List.cons_append, List.nil_append, List.append_nil, List.replicate, List.getElem?_cons_zero, List.getElem?_cons_succ, List.set_cons_zero, List.set_cons_succ, List.length_cons, List.length_nil, bind_ok, ofO_some, ofE_ok, oS_some, noX_ok, wp_ok, ws_nx, ws_rt, fz, dref, fIx, atI0, atI1, atI2, ixN_20, ixN_21, ixN_10, Option.map_some, fGt, fGe, fSub, fI, fI0, fAdd, fInt, fLen, lenD, outsOf, parOnly, notSlt, List.take_succ_cons, List.take_zero, if_true, if_false, Bool.false_eq_true, decide_true, decide_false, Bool.not_true, Bool.not_false, fIs, fIsNot, isNoneD, sTg, gmT, gmCons, gmN, gmNil, mPop, sAug, mExt, sPar, and_true, true_and, List.isEmpty_nil, List.isEmpty_cons, Nat.reduceAdd, Nat.reduceLeDiff, Nat.reduceLT, le_sz, lt_sz, fLt_i, fEq_i, fNe_i, fLe_i, dec0, in_two, e1, e2, Bool.or_false]; exact rfl) ?_
        simp only [sIf, ws_ofE, wp_bind, wp_noX, mTB, mTr, mNotT, mAndT, mOrT, mAnd, mOr, mNot, mIf, mNeg, mBin, bin2, mChain, mVar, mK, mB, mCall_eq, aNil, aCons, mTup, mLst, mSl, oNo, oSome, mIsi, anyT, isT, truD, sSet, setR, sRet, retR, sNil, sEx, sDvm, sSt, lstAt, putLst, drefs, dats, List.map_cons, List.map_nil, List.cons_append, List.nil_append, List.append_nil, List.replicate, List.getElem?_cons_zero, List.getElem?_cons_succ, List.set_cons_zero, List.set_cons_succ, List.length_cons, List.length_nil, bind_ok, ofO_some, ofE_ok, oS_some, noX_ok, wp_ok, ws_nx, ws_rt, fz, dref, fIx, atI0, atI1, atI2, ixN_20, ixN_21, ixN_10, Option.map_some, fGt, fGe, fSub, fI, fI0, fAdd, fInt, fLen, lenD, outsOf, parOnly, notSlt, List.take_succ_cons, List.take_zero, if_true, if_false, Bool.false_eq_true, decide_true, decide_false, Bool.not_true, Bool.not_false, fIs, fIsNot, isNoneD, sTg, gmT, gmCons, gmN, gmNil, mPop, sAug, mExt, sPar, and_true, true_and, List.isEmpty_nil, List.isEmpty_cons, Nat.reduceAdd, Nat.reduceLeDiff, Nat.reduceLT, le_sz, lt_sz, fLt_i, fEq_i, fNe_i, fLe_i, dec0, fEq_s hx okw.2.2.2.2.2.2.2.2.2.1, e3, fSl, cut1]
        simp [partsD, e1, e2, e3]
      · cases hv
    · cases hv
end Lw
end Vl

set_option Elab.async false
set_option linter.all false
set_option maxRecDepth 100000
namespace Vl
open PySem PySem.Spec PyProof.Rows L2
namespace Lw
/-! ### the plain law: trees of nodes -/
section
variable (nd : D → Option (List (D × Nat)))
def sumS (f : D → Option (Nat × Nat)) : List (D × Nat) → Option (Nat × Nat)
  | [] => some (0, 0)
  | (d, k) :: r => match f d, sumS f r with
    | some a, some b => some (a.1 + b.1, max (a.2 + k) b.2)
    | _, _ => none
def mG : Nat → D → Option (Nat × Nat)
  | 0, _ => none
  | n + 1, d => match nd d with
    | some cs => (sumS (mG n) cs).map fun p => (p.1 + 1, max 1 p.2)
    | none => none
theorem sumS_mono {f g : D → Option (Nat × Nat)} (h : ∀ d p, f d = some p → g d = some p) : ∀ {cs : List (D × Nat)} {p : Nat × Nat}, sumS f cs = some p → sumS g cs = some p
  | [], p, e => e
  | (d, k) :: r, p, e => by
    unfold sumS at e ⊢
    cases h1 : f d with
    | none => rw [h1] at e; cases e
    | some a =>
      cases h2 : sumS f r with
      | none => rw [h1, h2] at e; cases e
      | some b =>
        rw [h1, h2] at e
        rw [h d a h1, sumS_mono h h2]
        exact e
theorem mG_mono : ∀ {n : Nat} {d : D} {p : Nat × Nat}, mG nd n d = some p → mG nd (n + 1) d = some p
  | 0, d, p, h => by simp [mG] at h
  | n + 1, d, p, h => by
    unfold mG at h ⊢
    cases hc : nd d with
    | none => rw [hc] at h; cases h
    | some cs =>
      rw [hc] at h
      dsimp only at h ⊢
      rw [Option.map_eq_some_iff] at h ⊢
      obtain ⟨q, h1, h2⟩ := h
      exact ⟨q, sumS_mono (fun d p e => mG_mono e) h1, h2⟩
theorem mG_le {n m : Nat} (h : n ≤ m) {d : D} {p : Nat × Nat} (e : mG nd n d = some p) : mG nd m d = some p := by
  induction h with
  | refl => exact e
  | step _ ih => exact mG_mono nd ih
/-- the node's measure, whatever the fuel -/
def Ms (d : D) (p : Nat × Nat) : Prop := ∃ n, mG nd n d = some p
theorem Ms.fn {d : D} {p q : Nat × Nat} (h : Ms nd d p) (h' : Ms nd d q) : p = q := by
  obtain ⟨n, a⟩ := h
  obtain ⟨m, b⟩ := h'
  have a' := mG_le nd (Nat.le_max_left n m) a
  have b' := mG_le nd (Nat.le_max_right n m) b
  rw [a'] at b'
  exact Option.some.inj b'
/-- as deep as that: so much fuel is enough -/
theorem mG_of (hk : ∀ d cs, nd d = some cs → ∀ c ∈ cs, 1 ≤ c.2) : ∀ (n m : Nat) (d : D) (p : Nat × Nat), mG nd m d = some p → p.2 ≤ n → mG nd n d = some p
  | n, 0, d, p, h, _ => by simp [mG] at h
  | 0, m + 1, d, p, h, hn => by
    unfold mG at h
    cases hc : nd d with
    | none => rw [hc] at h; cases h
    | some cs =>
      rw [hc] at h
      dsimp only at h
      rw [Option.map_eq_some_iff] at h
      obtain ⟨q, _, rfl⟩ := h
      have : 1 ≤ max 1 q.2 := Nat.le_max_left _ _
      omega
  | n + 1, m + 1, d, p, h, hn => by
    unfold mG at h ⊢
    cases hc : nd d with
    | none => rw [hc] at h; cases h
    | some cs =>
      rw [hc] at h
      dsimp only at h ⊢
      rw [Option.map_eq_some_iff] at h ⊢
      obtain ⟨q, h1, rfl⟩ := h
      have hq : q.2 ≤ n + 1 := Nat.le_trans (Nat.le_max_right 1 q.2) hn
      refine ⟨q, ?_, rfl⟩
      have key : ∀ (cs' : List (D × Nat)) (q : Nat × Nat), (∀ c ∈ cs', 1 ≤ c.2) → sumS (mG nd m) cs' = some q → q.2 ≤ n + 1 → sumS (mG nd n) cs' = some q := by
        intro cs'
        induction cs' with
        | nil => intro q _ e _; exact e
        | cons c r ih =>
          obtain ⟨d', k⟩ := c
          intro q h1 e hq
          unfold sumS at e ⊢
          cases e1 : mG nd m d' with
          | none => rw [e1] at e; cases e
          | some a =>
            cases e2 : sumS (mG nd m) r with
            | none => rw [e1, e2] at e; cases e
            | some b =>
              rw [e1, e2] at e
              cases e
              have hq : max (a.2 + k) b.2 ≤ n + 1 := hq
              have k1 : 1 ≤ k := h1 _ List.mem_cons_self
              have l1 := Nat.le_max_left (a.2 + k) b.2
              have l2 := Nat.le_max_right (a.2 + k) b.2
              rw [mG_of hk n m d' a e1 (by omega), ih b (fun c hc => h1 c (List.mem_cons_of_mem _ hc)) e2 (by omega)]
      exact key cs q (hk d cs hc) h1 hq
/-- a stack's sum; all of it within the depth -/
def Tot (DL : Nat) : List (D × Nat) → Nat → Prop
  | [], t => t = 0
  | (d, k) :: r, t => ∃ p t', Ms nd d p ∧ k + p.2 ≤ DL + 1 ∧ Tot DL r t' ∧ t = p.1 + t'
theorem tot_app {DL : Nat} : ∀ {a b : List (D × Nat)} {t : Nat}, Tot nd DL (a ++ b) t ↔ ∃ t1 t2, Tot nd DL a t1 ∧ Tot nd DL b t2 ∧ t = t1 + t2
  | [], b, t => ⟨fun h => ⟨0, t, rfl, h, by omega⟩, fun ⟨t1, t2, h1, h2, e⟩ => by
      have h1 : t1 = 0 := h1
      have : t = t2 := by omega
      rw [this]; exact h2⟩
  | (d, k) :: a, b, t => by
    constructor
    · rintro ⟨p, t', h1, h2, h3, e⟩
      obtain ⟨u1, u2, g1, g2, g3⟩ := tot_app.mp h3
      exact ⟨p.1 + u1, u2, ⟨p, u1, h1, h2, g1, rfl⟩, g2, by omega⟩
    · rintro ⟨t1, t2, ⟨p, t', h1, h2, h3, e⟩, g, e'⟩
      exact ⟨p, t' + t2, h1, h2, tot_app.mpr ⟨t', t2, h3, g, rfl⟩, by omega⟩
theorem ms_pos {d : D} {p : Nat × Nat} (h : Ms nd d p) : 1 ≤ p.1 ∧ 1 ≤ p.2 := by
  obtain ⟨n, h⟩ := h
  cases n with
  | zero => simp [mG] at h
  | succ n =>
    unfold mG at h
    cases hc : nd d with
    | none => rw [hc] at h; cases h
    | some cs =>
      rw [hc] at h
      dsimp only at h
      rw [Option.map_eq_some_iff] at h
      obtain ⟨q, _, rfl⟩ := h
      exact ⟨Nat.succ_pos _, Nat.le_max_left _ _⟩
theorem tot_kids {DL k : Nat} : ∀ (cs : List (D × Nat)), (∃ t, Tot nd DL (cs.map fun c => (c.1, k + c.2)) t) → ∃ n q, sumS (mG nd n) cs = some q ∧ k + q.2 ≤ max k (DL + 1) ∧ Tot nd DL (cs.map fun c => (c.1, k + c.2)) q.1
  | [], _ => ⟨0, (0, 0), rfl, Nat.le_max_left _ _, rfl⟩
  | (d, st) :: r, ⟨t, p, t', h1, h2, h3, e⟩ => by
    obtain ⟨n, q, g1, g2, g3⟩ := tot_kids r ⟨t', h3⟩
    obtain ⟨m, h1'⟩ := h1
    refine ⟨max n m, (p.1 + q.1, max (p.2 + st) q.2), ?_, ?_, ⟨p, q.1, ⟨m, h1'⟩, h2, g3, rfl⟩⟩
    · unfold sumS
      rw [mG_le nd (Nat.le_max_right n m) h1', sumS_mono (fun d p e => mG_le nd (Nat.le_max_left n m) e) g1]
    · have h2 : k + st + p.2 ≤ DL + 1 := h2
      have : k + max (p.2 + st) q.2 = max (k + (p.2 + st)) (k + q.2) := by omega
      show k + max (p.2 + st) q.2 ≤ _
      omega
theorem kids_tot {DL k n : Nat} : ∀ (cs : List (D × Nat)) (q : Nat × Nat), sumS (mG nd n) cs = some q → k + q.2 ≤ DL + 1 → Tot nd DL (cs.map fun c => (c.1, k + c.2)) q.1
  | [], q, h, _ => by cases h; rfl
  | (d, st) :: r, q, h, hq => by
    unfold sumS at h
    cases e1 : mG nd n d with
    | none => rw [e1] at h; cases h
    | some a =>
      cases e2 : sumS (mG nd n) r with
      | none => rw [e1, e2] at h; cases h
      | some b =>
        rw [e1, e2] at h
        cases h
        have hq : k + max (a.2 + st) b.2 ≤ DL + 1 := hq
        exact ⟨a, b.1, ⟨n, e1⟩, by show k + st + a.2 ≤ _; omega, kids_tot r b e2 (by omega), rfl⟩
/-- one node, by its parts -/
theorem node_tot {DL k : Nat} {d : D} {t : Nat} (k1 : k ≤ DL) : (∃ p, Ms nd d p ∧ k + p.2 ≤ DL + 1 ∧ t = p.1) ↔ ∃ cs t', nd d = some cs ∧ Tot nd DL (cs.map fun c => (c.1, k + c.2)) t' ∧ t = t' + 1 := by
  constructor
  · rintro ⟨p, ⟨n, h⟩, h2, rfl⟩
    cases n with
    | zero => simp [mG] at h
    | succ n =>
      unfold mG at h
      cases hc : nd d with
      | none => rw [hc] at h; cases h
      | some cs =>
        rw [hc] at h
        dsimp only at h
        rw [Option.map_eq_some_iff] at h
        obtain ⟨q, h1, rfl⟩ := h
        have h2 : k + max 1 q.2 ≤ DL + 1 := h2
        exact ⟨cs, q.1, rfl, kids_tot nd cs q h1 (by omega), rfl⟩
  · rintro ⟨cs, t', hc, ht, rfl⟩
    obtain ⟨n, q, h1, h2, h3⟩ := tot_kids nd (k := k) cs ⟨t', ht⟩
    have uniq : ∀ (l : List (D × Nat)) (a b : Nat), Tot nd DL l a → Tot nd DL l b → a = b := by
      intro l
      induction l with
      | nil => intro a b ha hb; exact (show a = 0 from ha).trans (show b = 0 from hb).symm
      | cons c r ih =>
        obtain ⟨d', k'⟩ := c
        rintro a b ⟨p, u, g1, _, g3, rfl⟩ ⟨p', u', g1', _, g3', rfl⟩
        rw [Ms.fn nd g1 g1', ih u u' g3 g3']
    have e := uniq _ _ _ ht h3
    refine ⟨(q.1 + 1, max 1 q.2), ⟨n + 1, ?_⟩, ?_, by rw [e]⟩
    · unfold mG
      rw [hc]
      dsimp only
      rw [h1]; rfl
    · show k + max 1 q.2 ≤ DL + 1
      omega
end
end Lw
end Vl

set_option Elab.async false
set_option linter.all false
set_option maxRecDepth 100000
namespace Vl
open PySem PySem.Spec PyProof.Rows L2
namespace Lw
def nF (d : D) : Option (List (D × Nat)) := if leafD d || wordD d || callD d then some ((partsD d).map fun x => (x, 1)) else none
def isF (d : D) : Bool := match mG nF 21 d with
  | some p => decide (p.1 ≤ 200) && decide (p.2 ≤ 20)
  | none => false
def enc (c : D × Nat) : D := .tuple [c.1, .int c.2]
theorem tot_len (nd : D → Option (List (D × Nat))) {DL : Nat} : ∀ {l : List (D × Nat)} {t : Nat}, Tot nd DL l t → l.length ≤ t
  | [], t, h => Nat.zero_le _
  | (d, k) :: r, t, ⟨p, t', h1, h2, h3, e⟩ => by
    have := tot_len nd h3
    have := (ms_pos nd h1).1
    rw [List.length_cons]; omega
theorem eqvl_nil (ds : List D) : PyData.eqv (.list ds) (.list []) = ds.isEmpty := by
  cases ds <;> simp only [PyData.eqv, PyData.eqvAll] <;> rfl
theorem lay_all : ∀ {ds : List D}, (∀ d ∈ ds, d.canLay0 = true ∧ d.depth ≤ 61) → PyData.canLayAll0 ds = true ∧ PyData.depthAll ds ≤ 61
  | [], _ => ⟨by simp only [PyData.canLayAll0], by simp [PyData.depthAll]⟩
  | d :: ds, h => by
    obtain ⟨a, b⟩ := lay_all (fun d' hd => h d' (List.mem_cons_of_mem _ hd))
    obtain ⟨c, e⟩ := h d List.mem_cons_self
    exact ⟨by simp only [PyData.canLayAll0, c, a, Bool.and_self], by simp only [PyData.depthAll]; omega⟩
theorem stack_shp {st : List (D × Nat)} (h : ∀ c ∈ st, Gd c.1) : SeqAt.shaped (.list (st.map enc)) = true := by
  have := lay_all (ds := st.map enc) fun d hd => by
    obtain ⟨c, hc, rfl⟩ := List.mem_map.mp hd
    obtain ⟨g1, g2, g3⟩ := h c hc
    refine ⟨?_, ?_⟩
    · simp only [enc, PyData.canLay0, PyData.canLayAll0, ok_lay c.1 g1, Bool.and_self]
    · simp only [enc, PyData.depth, PyData.depthAll]; omega
  unfold SeqAt.shaped
  rw [Bool.and_eq_true, decide_eq_true_eq]
  refine ⟨by simp only [PyData.canLay0]; exact this.1, ?_⟩
  simp only [PyData.depth]; omega
theorem fNe_st {st : List (D × Nat)} (h : ∀ c ∈ st, Gd c.1) : fNe (.list (st.map enc)) (.list []) = some (.dat (.bool (!(st.map enc).isEmpty))) := by
  unfold fNe
  rw [if_pos ⟨stack_shp h, by decide⟩, eqvl_nil]
theorem parts_sub {d : D} (h : Gd d) : (∀ x ∈ partsD d, Gd x) ∧ (partsD d).length ≤ sizeLine := by
  have hl : ∀ {ds : List D}, Gd (.tuple ds) → ds.length ≤ sizeLine := fun {ds} g => by
    have : ∀ es : List D, es.length ≤ wtAll es := by
      intro es
      induction es with
      | nil => exact Nat.le_refl _
      | cons e es ih => simp only [wtAll, List.length_cons]; have := wt_pos e; omega
    have h1 := this ds
    have h2 := g.2.1
    simp only [wt] at h2
    rw [sizeLine_eq]; omega
  unfold partsD
  split
  · rename_i x r
    split
    · exact ⟨fun x hx => absurd hx List.not_mem_nil, Nat.zero_le _⟩
    · split
      · split
        · rename_i y ps
          have g := h.sub (d := .tuple ps) (by simp)
          exact ⟨fun x hx => g.sub hx, hl g⟩
        · exact ⟨fun x hx => absurd hx List.not_mem_nil, Nat.zero_le _⟩
      · have := hl h
        rw [List.length_cons] at this
        exact ⟨fun y hy => h.sub (List.mem_cons_of_mem _ hy), by omega⟩
  · exact ⟨fun x hx => absurd hx List.not_mem_nil, Nat.zero_le _⟩
theorem sl_len : (200 : Nat) + 200 ≤ sizeLine := by rw [sizeLine_eq]; omega
theorem formula_ev {d : D} (h : Gd d) : Ev M_is_formula [d] (.bool (isF d)) := by
  have C0 : ∀ b : Bool, (b = true ↔ ∃ t, Tot nF 20 [(d, 1)] t ∧ 0 + t ≤ 200) → b = isF d := fun b hb => by
    have hk : ∀ d cs, nF d = some cs → ∀ c ∈ cs, 1 ≤ c.2 := fun d cs e c hc => by
      unfold nF at e
      split at e
      · cases e
        obtain ⟨x, _, rfl⟩ := List.mem_map.mp hc
        exact Nat.le_refl _
      · cases e
    have two : isF d = true ↔ ∃ t, Tot nF 20 [(d, 1)] t ∧ 0 + t ≤ 200 := by
      unfold isF
      constructor
      · intro e
        split at e
        · rename_i p hp
          rw [Bool.and_eq_true, decide_eq_true_eq, decide_eq_true_eq] at e
          exact ⟨p.1, ⟨p, 0, ⟨21, hp⟩, by omega, rfl, by omega⟩, by omega⟩
        · cases e
      · rintro ⟨t, ⟨p, t', ⟨n, h1⟩, h2, h3, e⟩, h4⟩
        have h3 : t' = 0 := h3
        rw [mG_le nF (by omega : 20 ≤ 21) (mG_of nF hk 20 n d p h1 (by omega))]
        rw [Bool.and_eq_true, decide_eq_true_eq, decide_eq_true_eq]
        omega
    cases b <;> cases hf : isF d
    · rfl
    · exact hb.mpr (two.mp hf)
    · exact absurd (two.mpr (hb.mp rfl)) (by rw [hf]; decide)
    · rfl
  unfold Ev M_is_formula
  refine wp_fn (ws_nxc (by simp only [sIf, ws_ofE, wp_bind, wp_noX, mTB, mTr, mNotT, mAndT, mOrT, mAnd, mOr, mNot, mIf, mNeg, mBin, bin2, mChain, mVar, mK, mB, mCall_eq, aNil, aCons, mTup, mLst, mSl, oNo, oSome, mIsi, anyT, isT, truD, sSet, setR, sRet, retR, sNil, sEx, sDvm, sSt, lstAt, putLst, drefs, dats, List.map_cons, List.map_nil, List.cons_append, List.nil_append, List.append_nil, List.replicate, List.getElem?_cons_zero, List.getElem?_cons_succ, List.set_cons_zero, List.set_cons_succ, List.length_cons, List.length_nil, bind_ok, ofO_some, ofE_ok, oS_some, noX_ok, wp_ok, ws_nx, ws_rt, fz, dref, fIx, atI0, atI1, atI2, ixN_20, ixN_21, ixN_10, Option.map_some, fGt, fGe, fSub, fI, fI0, fAdd, fInt, fLen, lenD, outsOf, parOnly, notSlt, List.take_succ_cons, List.take_zero, if_true, if_false, Bool.false_eq_true, decide_true, decide_false, Bool.not_true, Bool.not_false, fIs, fIsNot, isNoneD, sTg, gmT, gmCons, gmN, gmNil, mPop, sAug, mExt, sPar, and_true, true_and, List.isEmpty_nil, List.isEmpty_cons, Nat.reduceAdd, Nat.reduceLeDiff, Nat.reduceLT, le_sz, lt_sz, fLt_i, fEq_i, fNe_i, fLe_i, dec0, sPar]; exact rfl) ?_)
  refine ws_both (M := fun _ => ∃ t, Tot nF 20 [(d, 1)] t ∧ 0 + t ≤ 200) ?_ fun ρ hρ => ?_
  · refine loop_wp (fun n ρ => ∃ (st : List (D × Nat)) (s : Nat) (x y : Sl), n = 201 - s ∧ s ≤ 200 ∧ st.length ≤ 200 ∧ (∀ c ∈ st, Gd c.1) ∧ ((∃ t, Tot nF 20 st t ∧ s + t ≤ 200) ↔ ∃ t, Tot nF 20 [(d, 1)] t ∧ 0 + t ≤ 200) ∧ ρ = [.dat d, .own (.lst (st.map enc)), .dat (.int s), x, y, .non]) ?_ 203 201 _ (by omega) ⟨[(d, 1)], 0, _, _, rfl, by omega, by simp, fun c hc => by rw [List.mem_singleton.mp hc]; exact h, Iff.rfl, rfl⟩
    rintro n ρ ⟨st, s, x, y, rfl, hs, hlen, hst, hiff, rfl⟩
    rcases List.eq_nil_or_concat st with rfl | ⟨st', ⟨e, k⟩, hc⟩
    · simp only [sIf, ws_ofE, wp_bind, wp_noX, mTB, mTr, mNotT, mAndT, mOrT, mAnd, mOr, mNot, mIf, mNeg, mBin, bin2, mChain, mVar, mK, mB, mCall_eq, aNil, aCons, mTup, mLst, mSl, oNo, oSome, mIsi, anyT, isT, truD, sSet, setR, sRet, retR, sNil, sEx, sDvm, sSt, lstAt, putLst, drefs, dats, List.map_cons, List.map_nil, List.cons_append, List.nil_append, List.append_nil, List.replicate, List.getElem?_cons_zero, List.getElem?_cons_succ, List.set_cons_zero, List.set_cons_succ, List.length_cons, List.length_nil, bind_ok, ofO_some, ofE_ok, oS_some, noX_ok, wp_ok, ws_nx, ws_rt, fz, dref, fIx, atI0, atI1, atI2, ixN_20, ixN_21, ixN_10, Option.map_some, fGt, fGe, fSub, fI, fI0, fAdd, fInt, fLen, lenD, outsOf, parOnly, notSlt, List.take_succ_cons, List.take_zero, if_true, if_false, Bool.false_eq_true, decide_true, decide_false, Bool.not_true, Bool.not_false, fIs, fIsNot, isNoneD, sTg, gmT, gmCons, gmN, gmNil, mPop, sAug, mExt, sPar, and_true, true_and, List.isEmpty_nil, List.isEmpty_cons, Nat.reduceAdd, Nat.reduceLeDiff, Nat.reduceLT, le_sz, lt_sz, fLt_i, fEq_i, fNe_i, fLe_i, dec0, fNe_st hst]
      exact hiff.mp ⟨0, rfl, by omega⟩
    · rw [List.concat_eq_append] at hc
      subst hc
      have ge : Gd e := hst (e, k) (by simp)
      have hst' : ∀ c ∈ st', Gd c.1 := fun c hc => hst c (List.mem_append_left _ hc)
      rw [List.length_append] at hlen
      have hlen' : st'.length + 1 ≤ 200 := hlen
      have hne : ((st' ++ [(e, k)]).map enc).isEmpty = false := by cases st' <;> rfl
      have hlast : ((st' ++ [(e, k)]).map enc)[((st' ++ [(e, k)]).map enc).length - 1]? = some (.tuple [e, .int k]) := by simp [enc]
      have hdrop : ((st' ++ [(e, k)]).map enc).dropLast = st'.map enc := by simp
      have hf := fNe_st hst
      generalize hL : (st' ++ [(e, k)]).map enc = L at hne hlast hdrop hf
      have spl : ∀ {t : Nat}, Tot nF 20 (st' ++ [(e, k)]) t ↔ ∃ t1 t2, Tot nF 20 st' t1 ∧ (∃ p, Ms nF e p ∧ k + p.2 ≤ 21 ∧ t2 = p.1) ∧ t = t1 + t2 := fun {t} => by
        rw [tot_app]
        constructor
        · rintro ⟨t1, t2, h1, ⟨p, t', h2, h3, h4, h5⟩, h6⟩
          have h4 : t' = 0 := h4
          exact ⟨t1, t2, h1, ⟨p, h2, h3, by omega⟩, h6⟩
        · rintro ⟨t1, t2, h1, ⟨p, h2, h3, h4⟩, h6⟩
          exact ⟨t1, t2, h1, ⟨p, 0, h2, h3, rfl, by omega⟩, h6⟩
      have out : ¬ (∃ t, Tot nF 20 (st' ++ [(e, k)]) t ∧ s + t ≤ 200) → isF d = false := fun hn => by
        cases hf : isF d with
        | false => rfl
        | true =>
          have := C0 false
          cases hb : isF d with
          | false => rw [hb] at hf; cases hf
          | true =>
            have hno : ¬ ∃ t, Tot nF 20 [(d, 1)] t ∧ 0 + t ≤ 200 := fun w => hn (hiff.mpr w)
            have := C0 false ⟨fun z => (by cases z), fun w => absurd w hno⟩
            rw [hb] at this; cases this
      simp only [sIf, ws_ofE, wp_bind, wp_noX, mTB, mTr, mNotT, mAndT, mOrT, mAnd, mOr, mNot, mIf, mNeg, mBin, bin2, mChain, mVar, mK, mB, mCall_eq, aNil, aCons, mTup, mLst, mSl, oNo, oSome, mIsi, anyT, isT, truD, sSet, setR, sRet, retR, sNil, sEx, sDvm, sSt, lstAt, putLst, drefs, dats, List.map_cons, List.map_nil, List.cons_append, List.nil_append, List.append_nil, List.replicate, List.getElem?_cons_zero, List.getElem?_cons_succ, List.set_cons_zero, List.set_cons_succ, List.length_cons, List.length_nil, bind_ok, ofO_some, ofE_ok, oS_some, noX_ok, wp_ok, ws_nx, ws_rt, fz, dref, fIx, atI0, atI1, atI2, ixN_20, ixN_21, ixN_10, Option.map_some, fGt, fGe, fSub, fI, fI0, fAdd, fInt, fLen, lenD, outsOf, parOnly, notSlt, List.take_succ_cons, List.take_zero, if_true, if_false, Bool.false_eq_true, decide_true, decide_false, Bool.not_true, Bool.not_false, fIs, fIsNot, isNoneD, sTg, gmT, gmCons, gmN, gmNil, mPop, sAug, mExt, sPar, and_true, true_and, List.isEmpty_nil, List.isEmpty_cons, Nat.reduceAdd, Nat.reduceLeDiff, Nat.reduceLT, le_sz, lt_sz, fLt_i, fEq_i, fNe_i, fLe_i, dec0, hf, hne]
      refine ws_cut (M := fun ρ => ρ = [.dat d, .own (.lst (st'.map enc)), .dat (.int s), .dat e, .dat (.int k), .non]) (by simp only [sIf, ws_ofE, wp_bind, wp_noX, mTB, mTr, mNotT, mAndT, mOrT, mAnd, mOr, mNot, mIf, mNeg, mBin, bin2, mChain, mVar, mK, mB, mCall_eq, aNil, aCons, mTup, mLst, mSl, oNo, oSome, mIsi, anyT, isT, truD, sSet, setR, sRet, retR, sNil, sEx, sDvm, sSt, lstAt, putLst, drefs, dats, List.map_cons, List.map_nil, List.cons_append, List.nil_append, List.append_nil, List.replicate, List.getElem?_cons_zero, List.getElem?_cons_succ, List.set_cons_zero, List.set_cons_succ, List.length_cons, List.length_nil, bind_ok, ofO_some, ofE_ok, oS_some, noX_ok, wp_ok, ws_nx, ws_rt, fz, dref, fIx, atI0, atI1, atI2, ixN_20, ixN_21, ixN_10, Option.map_some, fGt, fGe, fSub, fI, fI0, fAdd, fInt, fLen, lenD, outsOf, parOnly, notSlt, List.take_succ_cons, List.take_zero, if_true, if_false, Bool.false_eq_true, decide_true, decide_false, Bool.not_true, Bool.not_false, fIs, fIsNot, isNoneD, sTg, gmT, gmCons, gmN, gmNil, mPop, sAug, mExt, sPar, and_true, true_and, List.isEmpty_nil, List.isEmpty_cons, Nat.reduceAdd, Nat.reduceLeDiff, Nat.reduceLT, le_sz, lt_sz, fLt_i, fEq_i, fNe_i, fLe_i, dec0, hlast, hdrop]) fun ρ hρ => ?_
      subst hρ
      refine ws_nxc (by simp only [sIf, ws_ofE, wp_bind, wp_noX, mTB, mTr, mNotT, mAndT, mOrT, mAnd, mOr, mNot, mIf, mNeg, mBin, bin2, mChain, mVar, mK, mB, mCall_eq, aNil, aCons, mTup, mLst, mSl, oNo, oSome, mIsi, anyT, isT, truD, sSet, setR, sRet, retR, sNil, sEx, sDvm, sSt, lstAt, putLst, drefs, dats, List.map_cons, List.map_nil, List.cons_append, List.nil_append, List.append_nil, List.replicate, List.getElem?_cons_zero, List.getElem?_cons_succ, List.set_cons_zero, List.set_cons_succ, List.length_cons, List.length_nil, bind_ok, ofO_some, ofE_ok, oS_some, noX_ok, wp_ok, ws_nx, ws_rt, fz, dref, fIx, atI0, atI1, atI2, ixN_20, ixN_21, ixN_10, Option.map_some, fGt, fGe, fSub, fI, fI0, fAdd, fInt, fLen, lenD, outsOf, parOnly, notSlt, List.take_succ_cons, List.take_zero, if_true, if_false, Bool.false_eq_true, decide_true, decide_false, Bool.not_true, Bool.not_false, fIs, fIsNot, isNoneD, sTg, gmT, gmCons, gmN, gmNil, mPop, sAug, mExt, sPar, and_true, true_and, List.isEmpty_nil, List.isEmpty_cons, Nat.reduceAdd, Nat.reduceLeDiff, Nat.reduceLT, le_sz, lt_sz, fLt_i, fEq_i, fNe_i, fLe_i, dec0]; exact rfl) ?_
      by_cases c1 : (200 : Int) < (s : Int) + 1
      · refine ws_rtc ?_
        simp only [sIf, ws_ofE, wp_bind, wp_noX, mTB, mTr, mNotT, mAndT, mOrT, mAnd, mOr, mNot, mIf, mNeg, mBin, bin2, mChain, mVar, mK, mB, mCall_eq, aNil, aCons, mTup, mLst, mSl, oNo, oSome, mIsi, anyT, isT, truD, sSet, setR, sRet, retR, sNil, sEx, sDvm, sSt, lstAt, putLst, drefs, dats, List.map_cons, List.map_nil, List.cons_append, List.nil_append, List.append_nil, List.replicate, List.getElem?_cons_zero, List.getElem?_cons_succ, List.set_cons_zero, List.set_cons_succ, List.length_cons, List.length_nil, bind_ok, ofO_some, ofE_ok, oS_some, noX_ok, wp_ok, ws_nx, ws_rt, fz, dref, fIx, atI0, atI1, atI2, ixN_20, ixN_21, ixN_10, Option.map_some, fGt, fGe, fSub, fI, fI0, fAdd, fInt, fLen, lenD, outsOf, parOnly, notSlt, List.take_succ_cons, List.take_zero, if_true, if_false, Bool.false_eq_true, decide_true, decide_false, Bool.not_true, Bool.not_false, fIs, fIsNot, isNoneD, sTg, gmT, gmCons, gmN, gmNil, mPop, sAug, mExt, sPar, and_true, true_and, List.isEmpty_nil, List.isEmpty_cons, Nat.reduceAdd, Nat.reduceLeDiff, Nat.reduceLT, le_sz, lt_sz, fLt_i, fEq_i, fNe_i, fLe_i, dec0, decide_eq_true c1]
        rw [out fun ⟨t, ht, hle⟩ => by
          obtain ⟨t1, t2, _, ⟨p, hp, _, rfl⟩, rfl⟩ := spl.mp ht
          have := (ms_pos nF hp).1
          omega]
      · by_cases c2 : (20 : Int) < (k : Int)
        · refine ws_rtc ?_
          simp only [sIf, ws_ofE, wp_bind, wp_noX, mTB, mTr, mNotT, mAndT, mOrT, mAnd, mOr, mNot, mIf, mNeg, mBin, bin2, mChain, mVar, mK, mB, mCall_eq, aNil, aCons, mTup, mLst, mSl, oNo, oSome, mIsi, anyT, isT, truD, sSet, setR, sRet, retR, sNil, sEx, sDvm, sSt, lstAt, putLst, drefs, dats, List.map_cons, List.map_nil, List.cons_append, List.nil_append, List.append_nil, List.replicate, List.getElem?_cons_zero, List.getElem?_cons_succ, List.set_cons_zero, List.set_cons_succ, List.length_cons, List.length_nil, bind_ok, ofO_some, ofE_ok, oS_some, noX_ok, wp_ok, ws_nx, ws_rt, fz, dref, fIx, atI0, atI1, atI2, ixN_20, ixN_21, ixN_10, Option.map_some, fGt, fGe, fSub, fI, fI0, fAdd, fInt, fLen, lenD, outsOf, parOnly, notSlt, List.take_succ_cons, List.take_zero, if_true, if_false, Bool.false_eq_true, decide_true, decide_false, Bool.not_true, Bool.not_false, fIs, fIsNot, isNoneD, sTg, gmT, gmCons, gmN, gmNil, mPop, sAug, mExt, sPar, and_true, true_and, List.isEmpty_nil, List.isEmpty_cons, Nat.reduceAdd, Nat.reduceLeDiff, Nat.reduceLT, le_sz, lt_sz, fLt_i, fEq_i, fNe_i, fLe_i, dec0, decide_eq_false c1, decide_eq_true c2]
          rw [out fun ⟨t, ht, hle⟩ => by
            obtain ⟨t1, t2, _, ⟨p, hp, hk, rfl⟩, rfl⟩ := spl.mp ht
            have := (ms_pos nF hp).2
            omega]
        · have el := leaf_ev ge
          have ew := word_ev ge
          have ec := call_ev ge
          have nn : nF e = if leafD e || wordD e || callD e then some ((partsD e).map fun x => (x, 1)) else none := rfl
          by_cases hv : (leafD e || wordD e || callD e) = true
          · rw [if_pos hv] at nn
            refine ws_nxc (ρ1 := [.dat d, .own (.lst (st'.map enc)), .dat (.int (s + 1)), .dat e, .dat (.int k), .non]) ?_ ?_
            · cases hl : leafD e
              · cases hw : wordD e
                · cases hcc : callD e
                  · rw [hl, hw, hcc] at hv; cases hv
                  · simp only [sIf, ws_ofE, wp_bind, wp_noX, mTB, mTr, mNotT, mAndT, mOrT, mAnd, mOr, mNot, mIf, mNeg, mBin, bin2, mChain, mVar, mK, mB, mCall_eq, aNil, aCons, mTup, mLst, mSl, oNo, oSome, mIsi, anyT, isT, truD, sSet, setR, sRet, retR, sNil, sEx, sDvm, sSt, lstAt, putLst, drefs, dats, List.map_cons, List.map_nil, List.cons_append, List.nil_append, List.append_nil, List.replicate, List.getElem?_cons_zero, List.getElem?_cons_succ, List.set_cons_zero, List.set_cons_succ, List.length_cons, List.length_nil, bind_ok, ofO_some, ofE_ok, oS_some, noX_ok, wp_ok, ws_nx, ws_rt, fz, dref, fIx, atI0, atI1, atI2, ixN_20, ixN_21, ixN_10, Option.map_some, fGt, fGe, fSub, fI, fI0, fAdd, fInt, fLen, lenD, outsOf, parOnly, notSlt, List.take_succ_cons, List.take_zero, if_true, if_false, Bool.false_eq_true, decide_true, decide_false, Bool.not_true, Bool.not_false, fIs, fIsNot, isNoneD, sTg, gmT, gmCons, gmN, gmNil, mPop, sAug, mExt, sPar, and_true, true_and, List.isEmpty_nil, List.isEmpty_cons, Nat.reduceAdd, Nat.reduceLeDiff, Nat.reduceLT, le_sz, lt_sz, fLt_i, fEq_i, fNe_i, fLe_i, dec0, decide_eq_false c1, decide_eq_false c2, ev1 el, ev1 ew, ev1 ec, hl, hw, hcc]
                · simp only [sIf, ws_ofE, wp_bind, wp_noX, mTB, mTr, mNotT, mAndT, mOrT, mAnd, mOr, mNot, mIf, mNeg, mBin, bin2, mChain, mVar, mK, mB, mCall_eq, aNil, aCons, mTup, mLst, mSl, oNo, oSome, mIsi, anyT, isT, truD, sSet, setR, sRet, retR, sNil, sEx, sDvm, sSt, lstAt, putLst, drefs, dats, List.map_cons, List.map_nil, List.cons_append, List.nil_append, List.append_nil, List.replicate, List.getElem?_cons_zero, List.getElem?_cons_succ, List.set_cons_zero, List.set_cons_succ, List.length_cons, List.length_nil, bind_ok, ofO_some, ofE_ok, oS_some, noX_ok, wp_ok, ws_nx, ws_rt, fz, dref, fIx, atI0, atI1, atI2, ixN_20, ixN_21, ixN_10, Option.map_some, fGt, fGe, fSub, fI, fI0, fAdd, fInt, fLen, lenD, outsOf, parOnly, notSlt, List.take_succ_cons, List.take_zero, if_true, if_false, Bool.false_eq_true, decide_true, decide_false, Bool.not_true, Bool.not_false, fIs, fIsNot, isNoneD, sTg, gmT, gmCons, gmN, gmNil, mPop, sAug, mExt, sPar, and_true, true_and, List.isEmpty_nil, List.isEmpty_cons, Nat.reduceAdd, Nat.reduceLeDiff, Nat.reduceLT, le_sz, lt_sz, fLt_i, fEq_i, fNe_i, fLe_i, dec0, decide_eq_false c1, decide_eq_false c2, ev1 el, ev1 ew, hl, hw]
              · simp only [sIf, ws_ofE, wp_bind, wp_noX, mTB, mTr, mNotT, mAndT, mOrT, mAnd, mOr, mNot, mIf, mNeg, mBin, bin2, mChain, mVar, mK, mB, mCall_eq, aNil, aCons, mTup, mLst, mSl, oNo, oSome, mIsi, anyT, isT, truD, sSet, setR, sRet, retR, sNil, sEx, sDvm, sSt, lstAt, putLst, drefs, dats, List.map_cons, List.map_nil, List.cons_append, List.nil_append, List.append_nil, List.replicate, List.getElem?_cons_zero, List.getElem?_cons_succ, List.set_cons_zero, List.set_cons_succ, List.length_cons, List.length_nil, bind_ok, ofO_some, ofE_ok, oS_some, noX_ok, wp_ok, ws_nx, ws_rt, fz, dref, fIx, atI0, atI1, atI2, ixN_20, ixN_21, ixN_10, Option.map_some, fGt, fGe, fSub, fI, fI0, fAdd, fInt, fLen, lenD, outsOf, parOnly, notSlt, List.take_succ_cons, List.take_zero, if_true, if_false, Bool.false_eq_true, decide_true, decide_false, Bool.not_true, Bool.not_false, fIs, fIsNot, isNoneD, sTg, gmT, gmCons, gmN, gmNil, mPop, sAug, mExt, sPar, and_true, true_and, List.isEmpty_nil, List.isEmpty_cons, Nat.reduceAdd, Nat.reduceLeDiff, Nat.reduceLT, le_sz, lt_sz, fLt_i, fEq_i, fNe_i, fLe_i, dec0, decide_eq_false c1, decide_eq_false c2, ev1 el, hl]
            · have hv' : leafD e = true ∨ letD e = true ∨ callD e = true ∨ wordD e = true := by
                rw [Bool.or_eq_true, Bool.or_eq_true] at hv
                rcases hv with (hv | hv) | hv
                · exact .inl hv
                · exact .inr (.inr (.inr hv))
                · exact .inr (.inr (.inl hv))
              have ep := parts_ev ge hv'
              obtain ⟨ps1, ps2⟩ := parts_sub ge
              have node : (∃ p, Ms nF e p ∧ k + p.2 ≤ 20 + 1 ∧ True) → True := fun _ => trivial
              have hk20 : k ≤ 20 := by omega
              have kids : ((partsD e).map fun x => (x, 1)).map (fun c : D × Nat => (c.1, k + c.2)) = (partsD e).map fun x => (x, k + 1) := by rw [List.map_map]; rfl
              have nt : ∀ t, (∃ p, Ms nF e p ∧ k + p.2 ≤ 20 + 1 ∧ t = p.1) ↔ ∃ t', Tot nF 20 ((partsD e).map fun x => (x, k + 1)) t' ∧ t = t' + 1 := fun t => by
                rw [node_tot nF hk20]
                constructor
                · rintro ⟨cs, t', h1, h2, h3⟩
                  rw [nn] at h1; cases h1
                  rw [kids] at h2
                  exact ⟨t', h2, h3⟩
                · rintro ⟨t', h2, h3⟩
                  exact ⟨_, t', nn, by rw [kids]; exact h2, h3⟩
              by_cases c3 : (200 : Int) < ((st'.map enc).length : Int) + ((partsD e).length : Int)
              · refine ws_rtc ?_
                simp only [sIf, ws_ofE, wp_bind, wp_noX, mTB, mTr, mNotT, mAndT, mOrT, mAnd, mOr, mNot, mIf, mNeg, mBin, bin2, mChain, mVar, mK, mB, mCall_eq, aNil, aCons, mTup, mLst, mSl, oNo, oSome, mIsi, anyT, isT, truD, sSet, setR, sRet, retR, sNil, sEx, sDvm, sSt, lstAt, putLst, drefs, dats, List.map_cons, List.map_nil, List.cons_append, List.nil_append, List.append_nil, List.replicate, List.getElem?_cons_zero, List.getElem?_cons_succ, List.set_cons_zero, List.set_cons_succ, List.length_cons, List.length_nil, bind_ok, ofO_some, ofE_ok, oS_some, noX_ok, wp_ok, ws_nx, ws_rt, fz, dref, fIx, atI0, atI1, atI2, ixN_20, ixN_21, ixN_10, Option.map_some, fGt, fGe, fSub, fI, fI0, fAdd, fInt, fLen, lenD, outsOf, parOnly, notSlt, List.take_succ_cons, List.take_zero, if_true, if_false, Bool.false_eq_true, decide_true, decide_false, Bool.not_true, Bool.not_false, fIs, fIsNot, isNoneD, sTg, gmT, gmCons, gmN, gmNil, mPop, sAug, mExt, sPar, and_true, true_and, List.isEmpty_nil, List.isEmpty_cons, Nat.reduceAdd, Nat.reduceLeDiff, Nat.reduceLT, le_sz, lt_sz, fLt_i, fEq_i, fNe_i, fLe_i, dec0, ev1 ep, decide_eq_true c3, if_pos c3]
                rw [out fun ⟨t, ht, hle⟩ => by
                  obtain ⟨t1, t2, h1, h2, rfl⟩ := spl.mp ht
                  obtain ⟨t', h3, rfl⟩ := (nt t2).mp h2
                  have l1 := tot_len nF h1
                  have l2 := tot_len nF h3
                  rw [List.length_map] at l2 c3
                  omega]
              · refine ws_nxc (ρ1 := [.dat d, .own (.lst (st'.map enc)), .dat (.int (s + 1)), .dat e, .dat (.int k), .non]) (by simp only [sIf, ws_ofE, wp_bind, wp_noX, mTB, mTr, mNotT, mAndT, mOrT, mAnd, mOr, mNot, mIf, mNeg, mBin, bin2, mChain, mVar, mK, mB, mCall_eq, aNil, aCons, mTup, mLst, mSl, oNo, oSome, mIsi, anyT, isT, truD, sSet, setR, sRet, retR, sNil, sEx, sDvm, sSt, lstAt, putLst, drefs, dats, List.map_cons, List.map_nil, List.cons_append, List.nil_append, List.append_nil, List.replicate, List.getElem?_cons_zero, List.getElem?_cons_succ, List.set_cons_zero, List.set_cons_succ, List.length_cons, List.length_nil, bind_ok, ofO_some, ofE_ok, oS_some, noX_ok, wp_ok, ws_nx, ws_rt, fz, dref, fIx, atI0, atI1, atI2, ixN_20, ixN_21, ixN_10, Option.map_some, fGt, fGe, fSub, fI, fI0, fAdd, fInt, fLen, lenD, outsOf, parOnly, notSlt, List.take_succ_cons, List.take_zero, if_true, if_false, Bool.false_eq_true, decide_true, decide_false, Bool.not_true, Bool.not_false, fIs, fIsNot, isNoneD, sTg, gmT, gmCons, gmN, gmNil, mPop, sAug, mExt, sPar, and_true, true_and, List.isEmpty_nil, List.isEmpty_cons, Nat.reduceAdd, Nat.reduceLeDiff, Nat.reduceLT, le_sz, lt_sz, fLt_i, fEq_i, fNe_i, fLe_i, dec0, ev1 ep, decide_eq_false c3, if_neg c3]) ?_
                simp only [sIf, ws_ofE, wp_bind, wp_noX, mTB, mTr, mNotT, mAndT, mOrT, mAnd, mOr, mNot, mIf, mNeg, mBin, bin2, mChain, mVar, mK, mB, mCall_eq, aNil, aCons, mTup, mLst, mSl, oNo, oSome, mIsi, anyT, isT, truD, sSet, setR, sRet, retR, sNil, sEx, sDvm, sSt, lstAt, putLst, drefs, dats, List.map_cons, List.map_nil, List.cons_append, List.nil_append, List.append_nil, List.replicate, List.getElem?_cons_zero, List.getElem?_cons_succ, List.set_cons_zero, List.set_cons_succ, List.length_cons, List.length_nil, bind_ok, ofO_some, ofE_ok, oS_some, noX_ok, wp_ok, ws_nx, ws_rt, fz, dref, fIx, atI0, atI1, atI2, ixN_20, ixN_21, ixN_10, Option.map_some, fGt, fGe, fSub, fI, fI0, fAdd, fInt, fLen, lenD, outsOf, parOnly, notSlt, List.take_succ_cons, List.take_zero, if_true, if_false, Bool.false_eq_true, decide_true, decide_false, Bool.not_true, Bool.not_false, fIs, fIsNot, isNoneD, sTg, gmT, gmCons, gmN, gmNil, mPop, sAug, mExt, sPar, and_true, true_and, List.isEmpty_nil, List.isEmpty_cons, Nat.reduceAdd, Nat.reduceLeDiff, Nat.reduceLT, le_sz, lt_sz, fLt_i, fEq_i, fNe_i, fLe_i, dec0, mLcV, mLc, mSeq, itemsOf, ev1 ep]
                refine (wp_eq (lc_pure (i := 5) (ρ := [.dat d, .own (.lst (st'.map enc)), .dat (.int (s + 1)), .dat e, .dat (.int k), .non]) (g := fun x => .tuple [x, .int (k + 1)]) rfl (partsD e) [] (fun x hx => ⟨rfl, ?_⟩) (by simpa using ps2))).mpr ?_
                · simp only [List.set_cons_succ, List.set_cons_zero]
                  simp only [sIf, ws_ofE, wp_bind, wp_noX, mTB, mTr, mNotT, mAndT, mOrT, mAnd, mOr, mNot, mIf, mNeg, mBin, bin2, mChain, mVar, mK, mB, mCall_eq, aNil, aCons, mTup, mLst, mSl, oNo, oSome, mIsi, anyT, isT, truD, sSet, setR, sRet, retR, sNil, sEx, sDvm, sSt, lstAt, putLst, drefs, dats, List.map_cons, List.map_nil, List.cons_append, List.nil_append, List.append_nil, List.replicate, List.getElem?_cons_zero, List.getElem?_cons_succ, List.set_cons_zero, List.set_cons_succ, List.length_cons, List.length_nil, bind_ok, ofO_some, ofE_ok, oS_some, noX_ok, wp_ok, ws_nx, ws_rt, fz, dref, fIx, atI0, atI1, atI2, ixN_20, ixN_21, ixN_10, Option.map_some, fGt, fGe, fSub, fI, fI0, fAdd, fInt, fLen, lenD, outsOf, parOnly, notSlt, List.take_succ_cons, List.take_zero, if_true, if_false, Bool.false_eq_true, decide_true, decide_false, Bool.not_true, Bool.not_false, fIs, fIsNot, isNoneD, sTg, gmT, gmCons, gmN, gmNil, mPop, sAug, mExt, sPar, and_true, true_and, List.isEmpty_nil, List.isEmpty_cons, Nat.reduceAdd, Nat.reduceLeDiff, Nat.reduceLT, le_sz, lt_sz, fLt_i, fEq_i, fNe_i, fLe_i, dec0]
                · have e1 : (partsD e).map (fun x => PyData.tuple [x, .int ((k : Int) + 1)]) = ((partsD e).map fun x => (x, k + 1)).map enc := by
                    rw [List.map_map]
                    exact List.map_congr_left fun x _ => by simp [enc]
                  rw [List.length_map] at c3
                  have hsz : (st'.map enc).length + (((partsD e).map fun x => (x, k + 1)).map enc).length ≤ sizeLine := by
                    rw [List.length_map, List.length_map, List.length_map, sizeLine_eq]; omega
                  simp only [sIf, ws_ofE, wp_bind, wp_noX, mTB, mTr, mNotT, mAndT, mOrT, mAnd, mOr, mNot, mIf, mNeg, mBin, bin2, mChain, mVar, mK, mB, mCall_eq, aNil, aCons, mTup, mLst, mSl, oNo, oSome, mIsi, anyT, isT, truD, sSet, setR, sRet, retR, sNil, sEx, sDvm, sSt, lstAt, putLst, drefs, dats, List.map_cons, List.map_nil, List.cons_append, List.nil_append, List.append_nil, List.replicate, List.getElem?_cons_zero, List.getElem?_cons_succ, List.set_cons_zero, List.set_cons_succ, List.length_cons, List.length_nil, bind_ok, ofO_some, ofE_ok, oS_some, noX_ok, wp_ok, ws_nx, ws_rt, fz, dref, fIx, atI0, atI1, atI2, ixN_20, ixN_21, ixN_10, Option.map_some, fGt, fGe, fSub, fI, fI0, fAdd, fInt, fLen, lenD, outsOf, parOnly, notSlt, List.take_succ_cons, List.take_zero, if_true, if_false, Bool.false_eq_true, decide_true, decide_false, Bool.not_true, Bool.not_false, fIs, fIsNot, isNoneD, sTg, gmT, gmCons, gmN, gmNil, mPop, sAug, mExt, sPar, and_true, true_and, List.isEmpty_nil, List.isEmpty_cons, Nat.reduceAdd, Nat.reduceLeDiff, Nat.reduceLT, le_sz, lt_sz, fLt_i, fEq_i, fNe_i, fLe_i, dec0, e1, if_pos hsz]
                  refine ⟨200 - s, by omega, st' ++ (partsD e).map fun x => (x, k + 1), s + 1, _, _, by omega, by omega, by rw [List.length_append, List.length_map]; omega, fun c hc => ?_, ?_, by rw [List.map_append]; rfl⟩
                  · rcases List.mem_append.mp hc with hc | hc
                    · exact hst' c hc
                    · obtain ⟨x, hx, rfl⟩ := List.mem_map.mp hc
                      exact ps1 x hx
                  · rw [← hiff]
                    constructor
                    · rintro ⟨t, ht, hle⟩
                      obtain ⟨t1, t2, h1, h2, rfl⟩ := (tot_app nF).mp ht
                      exact ⟨t1 + (t2 + 1), spl.mpr ⟨t1, t2 + 1, h1, (nt _).mpr ⟨t2, h2, rfl⟩, rfl⟩, by omega⟩
                    · rintro ⟨t, ht, hle⟩
                      obtain ⟨t1, t2, h1, h2, rfl⟩ := spl.mp ht
                      obtain ⟨t', h3, rfl⟩ := (nt t2).mp h2
                      exact ⟨t1 + t', (tot_app nF).mpr ⟨t1, t', h1, h3, rfl⟩, by omega⟩
          · rw [if_neg hv] at nn
            have hv2 : leafD e = false ∧ wordD e = false ∧ callD e = false := by
              cases hl : leafD e <;> cases hw : wordD e <;> cases hcc : callD e <;> simp [hl, hw, hcc] at hv ⊢
            refine ws_rtc ?_
            simp only [sIf, ws_ofE, wp_bind, wp_noX, mTB, mTr, mNotT, mAndT, mOrT, mAnd, mOr, mNot, mIf, mNeg, mBin, bin2, mChain, mVar, mK, mB, mCall_eq, aNil, aCons, mTup, mLst, mSl, oNo, oSome, mIsi, anyT, isT, truD, sSet, setR, sRet, retR, sNil, sEx, sDvm, sSt, lstAt, putLst, drefs, dats, List.map_cons, List.map_nil, List.cons_append, List.nil_append, List.append_nil, List.replicate, List.getElem?_cons_zero, List.getElem?_cons_succ, List.set_cons_zero, List.set_cons_succ, List.length_cons, List.length_nil, bind_ok, ofO_some, ofE_ok, oS_some, noX_ok, wp_ok, ws_nx, ws_rt, fz, dref, fIx, atI0, atI1, atI2, ixN_20, ixN_21, ixN_10, Option.map_some, fGt, fGe, fSub, fI, fI0, fAdd, fInt, fLen, lenD, outsOf, parOnly, notSlt, List.take_succ_cons, List.take_zero, if_true, if_false, Bool.false_eq_true, decide_true, decide_false, Bool.not_true, Bool.not_false, fIs, fIsNot, isNoneD, sTg, gmT, gmCons, gmN, gmNil, mPop, sAug, mExt, sPar, and_true, true_and, List.isEmpty_nil, List.isEmpty_cons, Nat.reduceAdd, Nat.reduceLeDiff, Nat.reduceLT, le_sz, lt_sz, fLt_i, fEq_i, fNe_i, fLe_i, dec0, decide_eq_false c1, decide_eq_false c2, ev1 el, ev1 ew, ev1 ec, hv2.1, hv2.2.1, hv2.2.2]
            rw [out fun ⟨t, ht, hle⟩ => by
              obtain ⟨t1, t2, _, ⟨p, ⟨n, hp⟩, _, _⟩, _⟩ := spl.mp ht
              cases n with
              | zero => simp [mG] at hp
              | succ n =>
                unfold mG at hp
                rw [nn] at hp
                cases hp]
  · have := C0 true ⟨fun _ => hρ, fun _ => rfl⟩
    simp only [sIf, ws_ofE, wp_bind, wp_noX, mTB, mTr, mNotT, mAndT, mOrT, mAnd, mOr, mNot, mIf, mNeg, mBin, bin2, mChain, mVar, mK, mB, mCall_eq, aNil, aCons, mTup, mLst, mSl, oNo, oSome, mIsi, anyT, isT, truD, sSet, setR, sRet, retR, sNil, sEx, sDvm, sSt, lstAt, putLst, drefs, dats, List.map_cons, List.map_nil, List.cons_append, List.nil_append, List.append_nil, List.replicate, List.getElem?_cons_zero, List.getElem?_cons_succ, List.set_cons_zero, List.set_cons_succ, List.length_cons, List.length_nil, bind_ok, ofO_some, ofE_ok, oS_some, noX_ok, wp_ok, ws_nx, ws_rt, fz, dref, fIx, atI0, atI1, atI2, ixN_20, ixN_21, ixN_10, Option.map_some, fGt, fGe, fSub, fI, fI0, fAdd, fInt, fLen, lenD, outsOf, parOnly, notSlt, List.take_succ_cons, List.take_zero, if_true, if_false, Bool.false_eq_true, decide_true, decide_false, Bool.not_true, Bool.not_false, fIs, fIsNot, isNoneD, sTg, gmT, gmCons, gmN, gmNil, mPop, sAug, mExt, sPar, and_true, true_and, List.isEmpty_nil, List.isEmpty_cons, Nat.reduceAdd, Nat.reduceLeDiff, Nat.reduceLT, le_sz, lt_sz, fLt_i, fEq_i, fNe_i, fLe_i, dec0]
    rw [← this]
end Lw
end Vl

set_option Elab.async false
set_option linter.all false
set_option maxRecDepth 100000
namespace Vl
open PySem PySem.Spec PyProof.Rows L2
namespace Lw
def steps (d : D) : List Nat := match d with
  | .tuple (.str x :: _) => if x == "if" then [2, 1, 1] else [1, 1]
  | _ => [1, 1]
theorem steps_ok (d : D) : (steps d).length ≤ 3 ∧ ∀ k ∈ steps d, 1 ≤ k := by
  unfold steps
  split
  · rename_i x r
    cases (x == ("if" : Str)) <;> simp
  · simp
def nS (d : D) : Option (List (D × Nat)) := if letD d || wordD d then some ((partsD d).zip (steps d)) else none
def isS (d : D) : Bool := match mG nS 41 d with
  | some p => decide (p.1 ≤ 400) && decide (p.2 ≤ 40)
  | none => false
theorem zipD_map : ∀ (ps : List D) (ss : List Nat), zipD ps (ss.map fun (n : Nat) => PyData.int n) = (ps.zip ss).map fun c => .tuple [c.1, .int c.2]
  | [], ss => by simp [zipD]
  | p :: ps, [] => by simp [zipD]
  | p :: ps, s :: ss => by
    show PyData.tuple [p, .int s] :: zipD ps (ss.map fun (n : Nat) => PyData.int n) = _
    rw [zipD_map ps ss]; rfl
theorem below_ev {e : D} (h : Gd e) (hv : (letD e || wordD e) = true) {k : Nat} {ρ : List Sl} : callRes M_below ρ [.dat e, .dat (.int k)] = .ok (.frs (.lst ((((partsD e).zip (steps e)).map fun c => (c.1, k + c.2)).map enc))) ρ := by
  have hv' : leafD e = true ∨ letD e = true ∨ callD e = true ∨ wordD e = true := by
    rw [Bool.or_eq_true] at hv
    exact hv.elim (fun h => .inr (.inl h)) fun h => .inr (.inr (.inr h))
  have ep := parts_ev h hv'
  obtain ⟨x, r, rfl⟩ : ∃ x r, e = .tuple (.str x :: r) := by
    rw [Bool.or_eq_true] at hv
    rcases hv with hv | hv
    · unfold letD at hv
      split at hv
      · exact ⟨_, _, rfl⟩
      · cases hv
    · unfold wordD at hv
      split at hv
      · exact ⟨_, _, rfl⟩
      · cases hv
  have hx := sm_okS (h.sub (d := .str x) (by simp))
  have key : Wp (M_below [.dat (.tuple (.str x :: r)), .dat (.int k)]) fun res _ => notSlt res = true ∧ ∀ ρ : List Sl, (fun res (_ : List Sl) => res = Res.frs (.lst ((((partsD (.tuple (.str x :: r))).zip (steps (.tuple (.str x :: r)))).map fun c => (c.1, k + c.2)).map enc))) res ρ := by
    unfold M_below
    refine wp_fn (ws_nxc (ρ1 := [.dat (.tuple (.str x :: r)), .dat (.int k), .own (.lst ((steps (.tuple (.str x :: r))).map fun (n : Nat) => PyData.int n)), .non, .non]) ?_ ?_)
    · cases hi : (x == ("if" : Str)) with
      | true => simp only [sIf, ws_ofE, wp_bind, wp_noX, mTB, mTr, mNotT, mAndT, mOrT, mAnd, mOr, mNot, mIf, mNeg, mBin, bin2, mChain, mVar, mK, mB, mCall_eq, aNil, aCons, mTup, mLst, mSl, oNo, oSome, mIsi, anyT, isT, truD, sSet, setR, sRet, retR, sNil, sEx, sDvm, sSt, lstAt, putLst, drefs, dats, List.map_cons, List.map_nil, List.cons_append, List.nil_append, List.append_nil, List.replicate, List.getElem?_cons_zero, List.getElem?_cons_succ, List.set_cons_zero, List.set_cons_succ, List.length_cons, List.length_nil, bind_ok, ofO_some, ofE_ok, oS_some, noX_ok, wp_ok, ws_nx, ws_rt, fz, dref, fIx, atI0, atI1, atI2, ixN_20, ixN_21, ixN_10, Option.map_some, fGt, fGe, fSub, fI, fI0, fAdd, fInt, fLen, lenD, outsOf, parOnly, notSlt, List.take_succ_cons, List.take_zero, if_true, if_false, Bool.false_eq_true, decide_true, decide_false, Bool.not_true, Bool.not_false, fIs, fIsNot, isNoneD, sTg, gmT, gmCons, gmN, gmNil, mPop, sAug, mExt, sPar, and_true, true_and, List.isEmpty_nil, List.isEmpty_cons, Nat.reduceAdd, Nat.reduceLeDiff, Nat.reduceLT, le_sz, lt_sz, fLt_i, fEq_i, fNe_i, fLe_i, dec0, fEq_s hx okw.2.2.2.2.2.2.2.2.1, hi, steps]; rfl
      | false => simp only [sIf, ws_ofE, wp_bind, wp_noX, mTB, mTr, mNotT, mAndT, mOrT, mAnd, mOr, mNot, mIf, mNeg, mBin, bin2, mChain, mVar, mK, mB, mCall_eq, aNil, aCons, mTup, mLst, mSl, oNo, oSome, mIsi, anyT, isT, truD, sSet, setR, sRet, retR, sNil, sEx, sDvm, sSt, lstAt, putLst, drefs, dats, List.map_cons, List.map_nil, List.cons_append, List.nil_append, List.append_nil, List.replicate, List.getElem?_cons_zero, List.getElem?_cons_succ, List.set_cons_zero, List.set_cons_succ, List.length_cons, List.length_nil, bind_ok, ofO_some, ofE_ok, oS_some, noX_ok, wp_ok, ws_nx, ws_rt, fz, dref, fIx, atI0, atI1, atI2, ixN_20, ixN_21, ixN_10, Option.map_some, fGt, fGe, fSub, fI, fI0, fAdd, fInt, fLen, lenD, outsOf, parOnly, notSlt, List.take_succ_cons, List.take_zero, if_true, if_false, Bool.false_eq_true, decide_true, decide_false, Bool.not_true, Bool.not_false, fIs, fIsNot, isNoneD, sTg, gmT, gmCons, gmN, gmNil, mPop, sAug, mExt, sPar, and_true, true_and, List.isEmpty_nil, List.isEmpty_cons, Nat.reduceAdd, Nat.reduceLeDiff, Nat.reduceLT, le_sz, lt_sz, fLt_i, fEq_i, fNe_i, fLe_i, dec0, fEq_s hx okw.2.2.2.2.2.2.2.2.1, hi, steps]; rfl
    · simp only [sIf, ws_ofE, wp_bind, wp_noX, mTB, mTr, mNotT, mAndT, mOrT, mAnd, mOr, mNot, mIf, mNeg, mBin, bin2, mChain, mVar, mK, mB, mCall_eq, aNil, aCons, mTup, mLst, mSl, oNo, oSome, mIsi, anyT, isT, truD, sSet, setR, sRet, retR, sNil, sEx, sDvm, sSt, lstAt, putLst, drefs, dats, List.map_cons, List.map_nil, List.cons_append, List.nil_append, List.append_nil, List.replicate, List.getElem?_cons_zero, List.getElem?_cons_succ, List.set_cons_zero, List.set_cons_succ, List.length_cons, List.length_nil, bind_ok, ofO_some, ofE_ok, oS_some, noX_ok, wp_ok, ws_nx, ws_rt, fz, dref, fIx, atI0, atI1, atI2, ixN_20, ixN_21, ixN_10, Option.map_some, fGt, fGe, fSub, fI, fI0, fAdd, fInt, fLen, lenD, outsOf, parOnly, notSlt, List.take_succ_cons, List.take_zero, if_true, if_false, Bool.false_eq_true, decide_true, decide_false, Bool.not_true, Bool.not_false, fIs, fIsNot, isNoneD, sTg, gmT, gmCons, gmN, gmNil, mPop, sAug, mExt, sPar, and_true, true_and, List.isEmpty_nil, List.isEmpty_cons, Nat.reduceAdd, Nat.reduceLeDiff, Nat.reduceLT, le_sz, lt_sz, fLt_i, fEq_i, fNe_i, fLe_i, dec0, sFz, mLcV, mLc, mZip, itemsOf, ev1 ep, zipD_map]
      refine (wp_eq (lc_gen (ρ := [.dat (.tuple (.str x :: r)), .dat (.int k), .dat (.list ((steps (.tuple (.str x :: r))).map fun (n : Nat) => PyData.int n)), .non, .non]) (g := fun d => match d with
        | .tuple [p, .int st] => .tuple [p, .int (k + st)]
        | _ => .none) (up := fun d => match d with
        | .tuple [p, .int st] => [.dat (.tuple (.str x :: r)), .dat (.int k), .dat (.list ((steps (.tuple (.str x :: r))).map fun (n : Nat) => PyData.int n)), .dat p, .dat (.int st)]
        | _ => []) _ [] (fun d hd => ?_) ?_)).mpr ?_
      · obtain ⟨c, hc, rfl⟩ := List.mem_map.mp hd
        refine ⟨rfl, rfl, ?_, rfl⟩
        simp only [sIf, ws_ofE, wp_bind, wp_noX, mTB, mTr, mNotT, mAndT, mOrT, mAnd, mOr, mNot, mIf, mNeg, mBin, bin2, mChain, mVar, mK, mB, mCall_eq, aNil, aCons, mTup, mLst, mSl, oNo, oSome, mIsi, anyT, isT, truD, sSet, setR, sRet, retR, sNil, sEx, sDvm, sSt, lstAt, putLst, drefs, dats, List.map_cons, List.map_nil, List.cons_append, List.nil_append, List.append_nil, List.replicate, List.getElem?_cons_zero, List.getElem?_cons_succ, List.set_cons_zero, List.set_cons_succ, List.length_cons, List.length_nil, bind_ok, ofO_some, ofE_ok, oS_some, noX_ok, wp_ok, ws_nx, ws_rt, fz, dref, fIx, atI0, atI1, atI2, ixN_20, ixN_21, ixN_10, Option.map_some, fGt, fGe, fSub, fI, fI0, fAdd, fInt, fLen, lenD, outsOf, parOnly, notSlt, List.take_succ_cons, List.take_zero, if_true, if_false, Bool.false_eq_true, decide_true, decide_false, Bool.not_true, Bool.not_false, fIs, fIsNot, isNoneD, sTg, gmT, gmCons, gmN, gmNil, mPop, sAug, mExt, sPar, and_true, true_and, List.isEmpty_nil, List.isEmpty_cons, Nat.reduceAdd, Nat.reduceLeDiff, Nat.reduceLT, le_sz, lt_sz, fLt_i, fEq_i, fNe_i, fLe_i, dec0]
      · rw [List.length_map, List.length_zip]
        have := (steps_ok (.tuple (.str x :: r))).1
        show 0 + _ ≤ _
        rw [sizeLine_eq]; omega
      · simp only [sIf, ws_ofE, wp_bind, wp_noX, mTB, mTr, mNotT, mAndT, mOrT, mAnd, mOr, mNot, mIf, mNeg, mBin, bin2, mChain, mVar, mK, mB, mCall_eq, aNil, aCons, mTup, mLst, mSl, oNo, oSome, mIsi, anyT, isT, truD, sSet, setR, sRet, retR, sNil, sEx, sDvm, sSt, lstAt, putLst, drefs, dats, List.map_cons, List.map_nil, List.cons_append, List.nil_append, List.append_nil, List.replicate, List.getElem?_cons_zero, List.getElem?_cons_succ, List.set_cons_zero, List.set_cons_succ, List.length_cons, List.length_nil, bind_ok, ofO_some, ofE_ok, oS_some, noX_ok, wp_ok, ws_nx, ws_rt, fz, dref, fIx, atI0, atI1, atI2, ixN_20, ixN_21, ixN_10, Option.map_some, fGt, fGe, fSub, fI, fI0, fAdd, fInt, fLen, lenD, outsOf, parOnly, notSlt, List.take_succ_cons, List.take_zero, if_true, if_false, Bool.false_eq_true, decide_true, decide_false, Bool.not_true, Bool.not_false, fIs, fIsNot, isNoneD, sTg, gmT, gmCons, gmN, gmNil, mPop, sAug, mExt, sPar, and_true, true_and, List.isEmpty_nil, List.isEmpty_cons, Nat.reduceAdd, Nat.reduceLeDiff, Nat.reduceLT, le_sz, lt_sz, fLt_i, fEq_i, fNe_i, fLe_i, dec0]
        refine fun _ => ?_
        rw [List.map_map, List.map_map]
        congr 2
  have wd := wp_dats (ds := [.tuple (.str x :: r), .int k]) (ρ := ρ) (P := fun res ρ' => res = Res.frs (.lst ((((partsD (.tuple (.str x :: r))).zip (steps (.tuple (.str x :: r)))).map fun c => (c.1, k + c.2)).map enc)) ∧ ρ' = ρ) key (fun res hr => ⟨hr, rfl⟩)
  cases hc : callRes M_below ρ [.dat (.tuple (.str x :: r)), .dat (.int k)] with
  | stuck => rw [show callRes M_below ρ ([PyData.tuple (.str x :: r), .int k].map .dat) = _ from hc] at wd; exact wd.elim
  | exc y ρ' => rw [show callRes M_below ρ ([PyData.tuple (.str x :: r), .int k].map .dat) = _ from hc] at wd; exact wd.elim
  | ok res ρ' =>
    rw [show callRes M_below ρ ([PyData.tuple (.str x :: r), .int k].map .dat) = _ from hc] at wd
    obtain ⟨e1, e2⟩ := (show res = _ ∧ ρ' = ρ from wd)
    rw [e1, e2]
theorem simpleby_ev {d : D} (h : Gd d) : Ev M_is_simple_by [d, .none] (.bool (isS d)) := by
  have C0 : ∀ b : Bool, (b = true ↔ ∃ t, Tot nS 40 [(d, 1)] t ∧ 0 + t ≤ 400) → b = isS d := fun b hb => by
    have hk : ∀ d cs, nS d = some cs → ∀ c ∈ cs, 1 ≤ c.2 := fun d cs e c hc => by
      unfold nS at e
      split at e
      · cases e
        exact (steps_ok d).2 _ (List.of_mem_zip (show (c.1, c.2) ∈ (partsD d).zip (steps d) from hc)).2
      · cases e
    have two : isS d = true ↔ ∃ t, Tot nS 40 [(d, 1)] t ∧ 0 + t ≤ 400 := by
      unfold isS
      constructor
      · intro e
        split at e
        · rename_i p hp
          rw [Bool.and_eq_true, decide_eq_true_eq, decide_eq_true_eq] at e
          exact ⟨p.1, ⟨p, 0, ⟨41, hp⟩, by omega, rfl, by omega⟩, by omega⟩
        · cases e
      · rintro ⟨t, ⟨p, t', ⟨n, h1⟩, h2, h3, e⟩, h4⟩
        have h3 : t' = 0 := h3
        rw [mG_le nS (by omega : 40 ≤ 41) (mG_of nS hk 40 n d p h1 (by omega))]
        rw [Bool.and_eq_true, decide_eq_true_eq, decide_eq_true_eq]
        omega
    cases b <;> cases hf : isS d
    · rfl
    · exact hb.mpr (two.mp hf)
    · exact absurd (two.mpr (hb.mp rfl)) (by rw [hf]; decide)
    · rfl
  unfold Ev M_is_simple_by
  refine wp_fn (ws_nxc (by simp only [sIf, ws_ofE, wp_bind, wp_noX, mTB, mTr, mNotT, mAndT, mOrT, mAnd, mOr, mNot, mIf, mNeg, mBin, bin2, mChain, mVar, mK, mB, mCall_eq, aNil, aCons, mTup, mLst, mSl, oNo, oSome, mIsi, anyT, isT, truD, sSet, setR, sRet, retR, sNil, sEx, sDvm, sSt, lstAt, putLst, drefs, dats, List.map_cons, List.map_nil, List.cons_append, List.nil_append, List.append_nil, List.replicate, List.getElem?_cons_zero, List.getElem?_cons_succ, List.set_cons_zero, List.set_cons_succ, List.length_cons, List.length_nil, bind_ok, ofO_some, ofE_ok, oS_some, noX_ok, wp_ok, ws_nx, ws_rt, fz, dref, fIx, atI0, atI1, atI2, ixN_20, ixN_21, ixN_10, Option.map_some, fGt, fGe, fSub, fI, fI0, fAdd, fInt, fLen, lenD, outsOf, parOnly, notSlt, List.take_succ_cons, List.take_zero, if_true, if_false, Bool.false_eq_true, decide_true, decide_false, Bool.not_true, Bool.not_false, fIs, fIsNot, isNoneD, sTg, gmT, gmCons, gmN, gmNil, mPop, sAug, mExt, sPar, and_true, true_and, List.isEmpty_nil, List.isEmpty_cons, Nat.reduceAdd, Nat.reduceLeDiff, Nat.reduceLT, le_sz, lt_sz, fLt_i, fEq_i, fNe_i, fLe_i, dec0, sPar]; exact rfl) ?_)
  refine ws_both (M := fun _ => ∃ t, Tot nS 40 [(d, 1)] t ∧ 0 + t ≤ 400) ?_ fun ρ hρ => ?_
  · refine loop_wp (fun n ρ => ∃ (st : List (D × Nat)) (s : Nat) (x y : Sl), n = 401 - s ∧ s ≤ 400 ∧ st.length ≤ 1 + 3 * s ∧ (∀ c ∈ st, Gd c.1) ∧ ((∃ t, Tot nS 40 st t ∧ s + t ≤ 400) ↔ ∃ t, Tot nS 40 [(d, 1)] t ∧ 0 + t ≤ 400) ∧ ρ = [.dat d, .dat .none, .own (.lst (st.map enc)), .dat (.int s), x, y]) ?_ 403 401 _ (by omega) ⟨[(d, 1)], 0, _, _, rfl, by omega, by simp, fun c hc => by rw [List.mem_singleton.mp hc]; exact h, Iff.rfl, rfl⟩
    rintro n ρ ⟨st, s, x, y, rfl, hs, hlen, hst, hiff, rfl⟩
    rcases List.eq_nil_or_concat st with rfl | ⟨st', ⟨e, k⟩, hc⟩
    · simp only [sIf, ws_ofE, wp_bind, wp_noX, mTB, mTr, mNotT, mAndT, mOrT, mAnd, mOr, mNot, mIf, mNeg, mBin, bin2, mChain, mVar, mK, mB, mCall_eq, aNil, aCons, mTup, mLst, mSl, oNo, oSome, mIsi, anyT, isT, truD, sSet, setR, sRet, retR, sNil, sEx, sDvm, sSt, lstAt, putLst, drefs, dats, List.map_cons, List.map_nil, List.cons_append, List.nil_append, List.append_nil, List.replicate, List.getElem?_cons_zero, List.getElem?_cons_succ, List.set_cons_zero, List.set_cons_succ, List.length_cons, List.length_nil, bind_ok, ofO_some, ofE_ok, oS_some, noX_ok, wp_ok, ws_nx, ws_rt, fz, dref, fIx, atI0, atI1, atI2, ixN_20, ixN_21, ixN_10, Option.map_some, fGt, fGe, fSub, fI, fI0, fAdd, fInt, fLen, lenD, outsOf, parOnly, notSlt, List.take_succ_cons, List.take_zero, if_true, if_false, Bool.false_eq_true, decide_true, decide_false, Bool.not_true, Bool.not_false, fIs, fIsNot, isNoneD, sTg, gmT, gmCons, gmN, gmNil, mPop, sAug, mExt, sPar, and_true, true_and, List.isEmpty_nil, List.isEmpty_cons, Nat.reduceAdd, Nat.reduceLeDiff, Nat.reduceLT, le_sz, lt_sz, fLt_i, fEq_i, fNe_i, fLe_i, dec0, fNe_st hst]
      exact hiff.mp ⟨0, rfl, by omega⟩
    · rw [List.concat_eq_append] at hc
      subst hc
      have ge : Gd e := hst (e, k) (by simp)
      have hst' : ∀ c ∈ st', Gd c.1 := fun c hc => hst c (List.mem_append_left _ hc)
      rw [List.length_append] at hlen
      have hlen' : st'.length + 1 ≤ 1 + 3 * s := hlen
      have hne : ((st' ++ [(e, k)]).map enc).isEmpty = false := by cases st' <;> rfl
      have hlast : ((st' ++ [(e, k)]).map enc)[((st' ++ [(e, k)]).map enc).length - 1]? = some (.tuple [e, .int k]) := by simp [enc]
      have hdrop : ((st' ++ [(e, k)]).map enc).dropLast = st'.map enc := by simp
      have hf := fNe_st hst
      generalize hL : (st' ++ [(e, k)]).map enc = L at hne hlast hdrop hf
      have spl : ∀ {t : Nat}, Tot nS 40 (st' ++ [(e, k)]) t ↔ ∃ t1 t2, Tot nS 40 st' t1 ∧ (∃ p, Ms nS e p ∧ k + p.2 ≤ 41 ∧ t2 = p.1) ∧ t = t1 + t2 := fun {t} => by
        rw [tot_app]
        constructor
        · rintro ⟨t1, t2, h1, ⟨p, t', h2, h3, h4, h5⟩, h6⟩
          have h4 : t' = 0 := h4
          exact ⟨t1, t2, h1, ⟨p, h2, h3, by omega⟩, h6⟩
        · rintro ⟨t1, t2, h1, ⟨p, h2, h3, h4⟩, h6⟩
          exact ⟨t1, t2, h1, ⟨p, 0, h2, h3, rfl, by omega⟩, h6⟩
      have out : ¬ (∃ t, Tot nS 40 (st' ++ [(e, k)]) t ∧ s + t ≤ 400) → isS d = false := fun hn => by
        cases hf : isS d with
        | false => rfl
        | true =>
          have := C0 false
          cases hb : isS d with
          | false => rw [hb] at hf; cases hf
          | true =>
            have hno : ¬ ∃ t, Tot nS 40 [(d, 1)] t ∧ 0 + t ≤ 400 := fun w => hn (hiff.mpr w)
            have := C0 false ⟨fun z => (by cases z), fun w => absurd w hno⟩
            rw [hb] at this; cases this
      simp only [sIf, ws_ofE, wp_bind, wp_noX, mTB, mTr, mNotT, mAndT, mOrT, mAnd, mOr, mNot, mIf, mNeg, mBin, bin2, mChain, mVar, mK, mB, mCall_eq, aNil, aCons, mTup, mLst, mSl, oNo, oSome, mIsi, anyT, isT, truD, sSet, setR, sRet, retR, sNil, sEx, sDvm, sSt, lstAt, putLst, drefs, dats, List.map_cons, List.map_nil, List.cons_append, List.nil_append, List.append_nil, List.replicate, List.getElem?_cons_zero, List.getElem?_cons_succ, List.set_cons_zero, List.set_cons_succ, List.length_cons, List.length_nil, bind_ok, ofO_some, ofE_ok, oS_some, noX_ok, wp_ok, ws_nx, ws_rt, fz, dref, fIx, atI0, atI1, atI2, ixN_20, ixN_21, ixN_10, Option.map_some, fGt, fGe, fSub, fI, fI0, fAdd, fInt, fLen, lenD, outsOf, parOnly, notSlt, List.take_succ_cons, List.take_zero, if_true, if_false, Bool.false_eq_true, decide_true, decide_false, Bool.not_true, Bool.not_false, fIs, fIsNot, isNoneD, sTg, gmT, gmCons, gmN, gmNil, mPop, sAug, mExt, sPar, and_true, true_and, List.isEmpty_nil, List.isEmpty_cons, Nat.reduceAdd, Nat.reduceLeDiff, Nat.reduceLT, le_sz, lt_sz, fLt_i, fEq_i, fNe_i, fLe_i, dec0, hf, hne]
      refine ws_cut (M := fun ρ => ρ = [.dat d, .dat .none, .own (.lst (st'.map enc)), .dat (.int s), .dat e, .dat (.int k)]) (by simp only [sIf, ws_ofE, wp_bind, wp_noX, mTB, mTr, mNotT, mAndT, mOrT, mAnd, mOr, mNot, mIf, mNeg, mBin, bin2, mChain, mVar, mK, mB, mCall_eq, aNil, aCons, mTup, mLst, mSl, oNo, oSome, mIsi, anyT, isT, truD, sSet, setR, sRet, retR, sNil, sEx, sDvm, sSt, lstAt, putLst, drefs, dats, List.map_cons, List.map_nil, List.cons_append, List.nil_append, List.append_nil, List.replicate, List.getElem?_cons_zero, List.getElem?_cons_succ, List.set_cons_zero, List.set_cons_succ, List.length_cons, List.length_nil, bind_ok, ofO_some, ofE_ok, oS_some, noX_ok, wp_ok, ws_nx, ws_rt, fz, dref, fIx, atI0, atI1, atI2, ixN_20, ixN_21, ixN_10, Option.map_some, fGt, fGe, fSub, fI, fI0, fAdd, fInt, fLen, lenD, outsOf, parOnly, notSlt, List.take_succ_cons, List.take_zero, if_true, if_false, Bool.false_eq_true, decide_true, decide_false, Bool.not_true, Bool.not_false, fIs, fIsNot, isNoneD, sTg, gmT, gmCons, gmN, gmNil, mPop, sAug, mExt, sPar, and_true, true_and, List.isEmpty_nil, List.isEmpty_cons, Nat.reduceAdd, Nat.reduceLeDiff, Nat.reduceLT, le_sz, lt_sz, fLt_i, fEq_i, fNe_i, fLe_i, dec0, hlast, hdrop]) fun ρ hρ => ?_
      subst hρ
      refine ws_nxc (by simp only [sIf, ws_ofE, wp_bind, wp_noX, mTB, mTr, mNotT, mAndT, mOrT, mAnd, mOr, mNot, mIf, mNeg, mBin, bin2, mChain, mVar, mK, mB, mCall_eq, aNil, aCons, mTup, mLst, mSl, oNo, oSome, mIsi, anyT, isT, truD, sSet, setR, sRet, retR, sNil, sEx, sDvm, sSt, lstAt, putLst, drefs, dats, List.map_cons, List.map_nil, List.cons_append, List.nil_append, List.append_nil, List.replicate, List.getElem?_cons_zero, List.getElem?_cons_succ, List.set_cons_zero, List.set_cons_succ, List.length_cons, List.length_nil, bind_ok, ofO_some, ofE_ok, oS_some, noX_ok, wp_ok, ws_nx, ws_rt, fz, dref, fIx, atI0, atI1, atI2, ixN_20, ixN_21, ixN_10, Option.map_some, fGt, fGe, fSub, fI, fI0, fAdd, fInt, fLen, lenD, outsOf, parOnly, notSlt, List.take_succ_cons, List.take_zero, if_true, if_false, Bool.false_eq_true, decide_true, decide_false, Bool.not_true, Bool.not_false, fIs, fIsNot, isNoneD, sTg, gmT, gmCons, gmN, gmNil, mPop, sAug, mExt, sPar, and_true, true_and, List.isEmpty_nil, List.isEmpty_cons, Nat.reduceAdd, Nat.reduceLeDiff, Nat.reduceLT, le_sz, lt_sz, fLt_i, fEq_i, fNe_i, fLe_i, dec0]; exact rfl) ?_
      by_cases c1 : (400 : Int) < (s : Int) + 1
      · refine ws_rtc ?_
        simp only [sIf, ws_ofE, wp_bind, wp_noX, mTB, mTr, mNotT, mAndT, mOrT, mAnd, mOr, mNot, mIf, mNeg, mBin, bin2, mChain, mVar, mK, mB, mCall_eq, aNil, aCons, mTup, mLst, mSl, oNo, oSome, mIsi, anyT, isT, truD, sSet, setR, sRet, retR, sNil, sEx, sDvm, sSt, lstAt, putLst, drefs, dats, List.map_cons, List.map_nil, List.cons_append, List.nil_append, List.append_nil, List.replicate, List.getElem?_cons_zero, List.getElem?_cons_succ, List.set_cons_zero, List.set_cons_succ, List.length_cons, List.length_nil, bind_ok, ofO_some, ofE_ok, oS_some, noX_ok, wp_ok, ws_nx, ws_rt, fz, dref, fIx, atI0, atI1, atI2, ixN_20, ixN_21, ixN_10, Option.map_some, fGt, fGe, fSub, fI, fI0, fAdd, fInt, fLen, lenD, outsOf, parOnly, notSlt, List.take_succ_cons, List.take_zero, if_true, if_false, Bool.false_eq_true, decide_true, decide_false, Bool.not_true, Bool.not_false, fIs, fIsNot, isNoneD, sTg, gmT, gmCons, gmN, gmNil, mPop, sAug, mExt, sPar, and_true, true_and, List.isEmpty_nil, List.isEmpty_cons, Nat.reduceAdd, Nat.reduceLeDiff, Nat.reduceLT, le_sz, lt_sz, fLt_i, fEq_i, fNe_i, fLe_i, dec0, decide_eq_true c1]
        rw [out fun ⟨t, ht, hle⟩ => by
          obtain ⟨t1, t2, _, ⟨p, hp, _, rfl⟩, rfl⟩ := spl.mp ht
          have := (ms_pos nS hp).1
          omega]
      · by_cases c2 : (40 : Int) < (k : Int)
        · refine ws_rtc ?_
          simp only [sIf, ws_ofE, wp_bind, wp_noX, mTB, mTr, mNotT, mAndT, mOrT, mAnd, mOr, mNot, mIf, mNeg, mBin, bin2, mChain, mVar, mK, mB, mCall_eq, aNil, aCons, mTup, mLst, mSl, oNo, oSome, mIsi, anyT, isT, truD, sSet, setR, sRet, retR, sNil, sEx, sDvm, sSt, lstAt, putLst, drefs, dats, List.map_cons, List.map_nil, List.cons_append, List.nil_append, List.append_nil, List.replicate, List.getElem?_cons_zero, List.getElem?_cons_succ, List.set_cons_zero, List.set_cons_succ, List.length_cons, List.length_nil, bind_ok, ofO_some, ofE_ok, oS_some, noX_ok, wp_ok, ws_nx, ws_rt, fz, dref, fIx, atI0, atI1, atI2, ixN_20, ixN_21, ixN_10, Option.map_some, fGt, fGe, fSub, fI, fI0, fAdd, fInt, fLen, lenD, outsOf, parOnly, notSlt, List.take_succ_cons, List.take_zero, if_true, if_false, Bool.false_eq_true, decide_true, decide_false, Bool.not_true, Bool.not_false, fIs, fIsNot, isNoneD, sTg, gmT, gmCons, gmN, gmNil, mPop, sAug, mExt, sPar, and_true, true_and, List.isEmpty_nil, List.isEmpty_cons, Nat.reduceAdd, Nat.reduceLeDiff, Nat.reduceLT, le_sz, lt_sz, fLt_i, fEq_i, fNe_i, fLe_i, dec0, decide_eq_false c1, decide_eq_true c2]
          rw [out fun ⟨t, ht, hle⟩ => by
            obtain ⟨t1, t2, _, ⟨p, hp, hk, rfl⟩, rfl⟩ := spl.mp ht
            have := (ms_pos nS hp).2
            omega]
        · have el := letter_ev ge
          have ew := word_ev ge
          have nn : nS e = if letD e || wordD e then some ((partsD e).zip (steps e)) else none := rfl
          by_cases hv : (letD e || wordD e) = true
          · rw [if_pos hv] at nn
            refine ws_nxc (ρ1 := [.dat d, .dat .none, .own (.lst (st'.map enc)), .dat (.int (s + 1)), .dat e, .dat (.int k)]) ?_ ?_
            · cases hl : letD e
              · cases hw : wordD e
                · rw [hl, hw] at hv; cases hv
                · simp only [sIf, ws_ofE, wp_bind, wp_noX, mTB, mTr, mNotT, mAndT, mOrT, mAnd, mOr, mNot, mIf, mNeg, mBin, bin2, mChain, mVar, mK, mB, mCall_eq, aNil, aCons, mTup, mLst, mSl, oNo, oSome, mIsi, anyT, isT, truD, sSet, setR, sRet, retR, sNil, sEx, sDvm, sSt, lstAt, putLst, drefs, dats, List.map_cons, List.map_nil, List.cons_append, List.nil_append, List.append_nil, List.replicate, List.getElem?_cons_zero, List.getElem?_cons_succ, List.set_cons_zero, List.set_cons_succ, List.length_cons, List.length_nil, bind_ok, ofO_some, ofE_ok, oS_some, noX_ok, wp_ok, ws_nx, ws_rt, fz, dref, fIx, atI0, atI1, atI2, ixN_20, ixN_21, ixN_10, Option.map_some, fGt, fGe, fSub, fI, fI0, fAdd, fInt, fLen, lenD, outsOf, parOnly, notSlt, List.take_succ_cons, List.take_zero, if_true, if_false, Bool.false_eq_true, decide_true, decide_false, Bool.not_true, Bool.not_false, fIs, fIsNot, isNoneD, sTg, gmT, gmCons, gmN, gmNil, mPop, sAug, mExt, sPar, and_true, true_and, List.isEmpty_nil, List.isEmpty_cons, Nat.reduceAdd, Nat.reduceLeDiff, Nat.reduceLT, le_sz, lt_sz, fLt_i, fEq_i, fNe_i, fLe_i, dec0, decide_eq_false c1, decide_eq_false c2, ev2 el, ev1 ew, hl, hw]
              · simp only [sIf, ws_ofE, wp_bind, wp_noX, mTB, mTr, mNotT, mAndT, mOrT, mAnd, mOr, mNot, mIf, mNeg, mBin, bin2, mChain, mVar, mK, mB, mCall_eq, aNil, aCons, mTup, mLst, mSl, oNo, oSome, mIsi, anyT, isT, truD, sSet, setR, sRet, retR, sNil, sEx, sDvm, sSt, lstAt, putLst, drefs, dats, List.map_cons, List.map_nil, List.cons_append, List.nil_append, List.append_nil, List.replicate, List.getElem?_cons_zero, List.getElem?_cons_succ, List.set_cons_zero, List.set_cons_succ, List.length_cons, List.length_nil, bind_ok, ofO_some, ofE_ok, oS_some, noX_ok, wp_ok, ws_nx, ws_rt, fz, dref, fIx, atI0, atI1, atI2, ixN_20, ixN_21, ixN_10, Option.map_some, fGt, fGe, fSub, fI, fI0, fAdd, fInt, fLen, lenD, outsOf, parOnly, notSlt, List.take_succ_cons, List.take_zero, if_true, if_false, Bool.false_eq_true, decide_true, decide_false, Bool.not_true, Bool.not_false, fIs, fIsNot, isNoneD, sTg, gmT, gmCons, gmN, gmNil, mPop, sAug, mExt, sPar, and_true, true_and, List.isEmpty_nil, List.isEmpty_cons, Nat.reduceAdd, Nat.reduceLeDiff, Nat.reduceLT, le_sz, lt_sz, fLt_i, fEq_i, fNe_i, fLe_i, dec0, decide_eq_false c1, decide_eq_false c2, ev2 el, hl]
            · obtain ⟨ps1, ps2⟩ := parts_sub ge
              have hk40 : k ≤ 40 := by omega
              have nt : ∀ t, (∃ p, Ms nS e p ∧ k + p.2 ≤ 40 + 1 ∧ t = p.1) ↔ ∃ t', Tot nS 40 (((partsD e).zip (steps e)).map fun c => (c.1, k + c.2)) t' ∧ t = t' + 1 := fun t => by
                rw [node_tot nS hk40]
                constructor
                · rintro ⟨cs, t', h1, h2, h3⟩
                  rw [nn] at h1; cases h1
                  exact ⟨t', h2, h3⟩
                · rintro ⟨t', h2, h3⟩
                  exact ⟨_, t', nn, h2, h3⟩
              have hzl : ((partsD e).zip (steps e)).length ≤ 3 := by
                rw [List.length_zip]
                have := (steps_ok e).1
                omega
              simp only [sIf, ws_ofE, wp_bind, wp_noX, mTB, mTr, mNotT, mAndT, mOrT, mAnd, mOr, mNot, mIf, mNeg, mBin, bin2, mChain, mVar, mK, mB, mCall_eq, aNil, aCons, mTup, mLst, mSl, oNo, oSome, mIsi, anyT, isT, truD, sSet, setR, sRet, retR, sNil, sEx, sDvm, sSt, lstAt, putLst, drefs, dats, List.map_cons, List.map_nil, List.cons_append, List.nil_append, List.append_nil, List.replicate, List.getElem?_cons_zero, List.getElem?_cons_succ, List.set_cons_zero, List.set_cons_succ, List.length_cons, List.length_nil, bind_ok, ofO_some, ofE_ok, oS_some, noX_ok, wp_ok, ws_nx, ws_rt, fz, dref, fIx, atI0, atI1, atI2, ixN_20, ixN_21, ixN_10, Option.map_some, fGt, fGe, fSub, fI, fI0, fAdd, fInt, fLen, lenD, outsOf, parOnly, notSlt, List.take_succ_cons, List.take_zero, if_true, if_false, Bool.false_eq_true, decide_true, decide_false, Bool.not_true, Bool.not_false, fIs, fIsNot, isNoneD, sTg, gmT, gmCons, gmN, gmNil, mPop, sAug, mExt, sPar, and_true, true_and, List.isEmpty_nil, List.isEmpty_cons, Nat.reduceAdd, Nat.reduceLeDiff, Nat.reduceLT, le_sz, lt_sz, fLt_i, fEq_i, fNe_i, fLe_i, dec0, below_ev ge hv (k := k)]
              have hsz : (st'.map enc).length + ((((partsD e).zip (steps e)).map fun c => (c.1, k + c.2)).map enc).length ≤ sizeLine := by
                rw [List.length_map, List.length_map, List.length_map, sizeLine_eq]; omega
              rw [if_pos hsz]
              simp only [sIf, ws_ofE, wp_bind, wp_noX, mTB, mTr, mNotT, mAndT, mOrT, mAnd, mOr, mNot, mIf, mNeg, mBin, bin2, mChain, mVar, mK, mB, mCall_eq, aNil, aCons, mTup, mLst, mSl, oNo, oSome, mIsi, anyT, isT, truD, sSet, setR, sRet, retR, sNil, sEx, sDvm, sSt, lstAt, putLst, drefs, dats, List.map_cons, List.map_nil, List.cons_append, List.nil_append, List.append_nil, List.replicate, List.getElem?_cons_zero, List.getElem?_cons_succ, List.set_cons_zero, List.set_cons_succ, List.length_cons, List.length_nil, bind_ok, ofO_some, ofE_ok, oS_some, noX_ok, wp_ok, ws_nx, ws_rt, fz, dref, fIx, atI0, atI1, atI2, ixN_20, ixN_21, ixN_10, Option.map_some, fGt, fGe, fSub, fI, fI0, fAdd, fInt, fLen, lenD, outsOf, parOnly, notSlt, List.take_succ_cons, List.take_zero, if_true, if_false, Bool.false_eq_true, decide_true, decide_false, Bool.not_true, Bool.not_false, fIs, fIsNot, isNoneD, sTg, gmT, gmCons, gmN, gmNil, mPop, sAug, mExt, sPar, and_true, true_and, List.isEmpty_nil, List.isEmpty_cons, Nat.reduceAdd, Nat.reduceLeDiff, Nat.reduceLT, le_sz, lt_sz, fLt_i, fEq_i, fNe_i, fLe_i, dec0]
              refine ⟨400 - s, by omega, st' ++ ((partsD e).zip (steps e)).map (fun c => (c.1, k + c.2)), s + 1, _, _, by omega, by omega, by rw [List.length_append, List.length_map]; omega, fun c hc => ?_, ?_, by rw [List.map_append]; rfl⟩
              · rcases List.mem_append.mp hc with hc | hc
                · exact hst' c hc
                · obtain ⟨x, hx, rfl⟩ := List.mem_map.mp hc
                  exact ps1 x.1 (List.of_mem_zip (show (x.1, x.2) ∈ _ from hx)).1
              · rw [← hiff]
                constructor
                · rintro ⟨t, ht, hle⟩
                  obtain ⟨t1, t2, h1, h2, rfl⟩ := (tot_app nS).mp ht
                  exact ⟨t1 + (t2 + 1), spl.mpr ⟨t1, t2 + 1, h1, (nt _).mpr ⟨t2, h2, rfl⟩, rfl⟩, by omega⟩
                · rintro ⟨t, ht, hle⟩
                  obtain ⟨t1, t2, h1, h2, rfl⟩ := spl.mp ht
                  obtain ⟨t', h3, rfl⟩ := (nt t2).mp h2
                  exact ⟨t1 + t', (tot_app nS).mpr ⟨t1, t', h1, h3, rfl⟩, by omega⟩
          · rw [if_neg hv] at nn
            have hv2 : letD e = false ∧ wordD e = false := by
              cases hl : letD e <;> cases hw : wordD e <;> simp [hl, hw] at hv ⊢
            refine ws_rtc ?_
            simp only [sIf, ws_ofE, wp_bind, wp_noX, mTB, mTr, mNotT, mAndT, mOrT, mAnd, mOr, mNot, mIf, mNeg, mBin, bin2, mChain, mVar, mK, mB, mCall_eq, aNil, aCons, mTup, mLst, mSl, oNo, oSome, mIsi, anyT, isT, truD, sSet, setR, sRet, retR, sNil, sEx, sDvm, sSt, lstAt, putLst, drefs, dats, List.map_cons, List.map_nil, List.cons_append, List.nil_append, List.append_nil, List.replicate, List.getElem?_cons_zero, List.getElem?_cons_succ, List.set_cons_zero, List.set_cons_succ, List.length_cons, List.length_nil, bind_ok, ofO_some, ofE_ok, oS_some, noX_ok, wp_ok, ws_nx, ws_rt, fz, dref, fIx, atI0, atI1, atI2, ixN_20, ixN_21, ixN_10, Option.map_some, fGt, fGe, fSub, fI, fI0, fAdd, fInt, fLen, lenD, outsOf, parOnly, notSlt, List.take_succ_cons, List.take_zero, if_true, if_false, Bool.false_eq_true, decide_true, decide_false, Bool.not_true, Bool.not_false, fIs, fIsNot, isNoneD, sTg, gmT, gmCons, gmN, gmNil, mPop, sAug, mExt, sPar, and_true, true_and, List.isEmpty_nil, List.isEmpty_cons, Nat.reduceAdd, Nat.reduceLeDiff, Nat.reduceLT, le_sz, lt_sz, fLt_i, fEq_i, fNe_i, fLe_i, dec0, decide_eq_false c1, decide_eq_false c2, ev2 el, ev1 ew, hv2.1, hv2.2]
            rw [out fun ⟨t, ht, hle⟩ => by
              obtain ⟨t1, t2, _, ⟨p, ⟨n, hp⟩, _, _⟩, _⟩ := spl.mp ht
              cases n with
              | zero => simp [mG] at hp
              | succ n =>
                unfold mG at hp
                rw [nn] at hp
                cases hp]
  · have := C0 true ⟨fun _ => hρ, fun _ => rfl⟩
    simp only [sIf, ws_ofE, wp_bind, wp_noX, mTB, mTr, mNotT, mAndT, mOrT, mAnd, mOr, mNot, mIf, mNeg, mBin, bin2, mChain, mVar, mK, mB, mCall_eq, aNil, aCons, mTup, mLst, mSl, oNo, oSome, mIsi, anyT, isT, truD, sSet, setR, sRet, retR, sNil, sEx, sDvm, sSt, lstAt, putLst, drefs, dats, List.map_cons, List.map_nil, List.cons_append, List.nil_append, List.append_nil, List.replicate, List.getElem?_cons_zero, List.getElem?_cons_succ, List.set_cons_zero, List.set_cons_succ, List.length_cons, List.length_nil, bind_ok, ofO_some, ofE_ok, oS_some, noX_ok, wp_ok, ws_nx, ws_rt, fz, dref, fIx, atI0, atI1, atI2, ixN_20, ixN_21, ixN_10, Option.map_some, fGt, fGe, fSub, fI, fI0, fAdd, fInt, fLen, lenD, outsOf, parOnly, notSlt, List.take_succ_cons, List.take_zero, if_true, if_false, Bool.false_eq_true, decide_true, decide_false, Bool.not_true, Bool.not_false, fIs, fIsNot, isNoneD, sTg, gmT, gmCons, gmN, gmNil, mPop, sAug, mExt, sPar, and_true, true_and, List.isEmpty_nil, List.isEmpty_cons, Nat.reduceAdd, Nat.reduceLeDiff, Nat.reduceLT, le_sz, lt_sz, fLt_i, fEq_i, fNe_i, fLe_i, dec0]
    rw [← this]
theorem simple_ev {d : D} (h : Gd d) : Ev M_is_simple [d] (.bool (isS d)) := by
  unfold Ev M_is_simple
  refine wp_fn ?_
  simp only [sIf, ws_ofE, wp_bind, wp_noX, mTB, mTr, mNotT, mAndT, mOrT, mAnd, mOr, mNot, mIf, mNeg, mBin, bin2, mChain, mVar, mK, mB, mCall_eq, aNil, aCons, mTup, mLst, mSl, oNo, oSome, mIsi, anyT, isT, truD, sSet, setR, sRet, retR, sNil, sEx, sDvm, sSt, lstAt, putLst, drefs, dats, List.map_cons, List.map_nil, List.cons_append, List.nil_append, List.append_nil, List.replicate, List.getElem?_cons_zero, List.getElem?_cons_succ, List.set_cons_zero, List.set_cons_succ, List.length_cons, List.length_nil, bind_ok, ofO_some, ofE_ok, oS_some, noX_ok, wp_ok, ws_nx, ws_rt, fz, dref, fIx, atI0, atI1, atI2, ixN_20, ixN_21, ixN_10, Option.map_some, fGt, fGe, fSub, fI, fI0, fAdd, fInt, fLen, lenD, outsOf, parOnly, notSlt, List.take_succ_cons, List.take_zero, if_true, if_false, Bool.false_eq_true, decide_true, decide_false, Bool.not_true, Bool.not_false, fIs, fIsNot, isNoneD, sTg, gmT, gmCons, gmN, gmNil, mPop, sAug, mExt, sPar, and_true, true_and, List.isEmpty_nil, List.isEmpty_cons, Nat.reduceAdd, Nat.reduceLeDiff, Nat.reduceLT, le_sz, lt_sz, fLt_i, fEq_i, fNe_i, fLe_i, dec0, ev2 (simpleby_ev h)]
end Lw
end Vl

set_option Elab.async false
set_option linter.all false
set_option maxRecDepth 100000
namespace Vl
open PySem PySem.Spec PyProof.Rows L2
namespace Lw
theorem for_wp {gm : GM} {b : SM} {N : List Sl → Prop} {R : Res → List Sl → Prop} (I : List D → List Sl → Prop) (h : ∀ d ds ρ, I (d :: ds) ρ → ∃ ρ1, gm d ρ = some ρ1 ∧ Ws (b ρ1) (I ds) R) (h0 : ∀ ρ, I [] ρ → N ρ) : ∀ (ds : List D) (ρ : List Sl), I ds ρ → Ws (forL gm b ds ρ) N R
  | [], ρ, hi => h0 ρ hi
  | d :: ds, ρ, hi => by
    obtain ⟨ρ1, e, hb⟩ := h d ds ρ hi
    unfold forL
    rw [e, oS_some]
    cases eb : b ρ1 with
    | nx ρ2 => rw [eb] at hb; exact for_wp I h h0 ds ρ2 hb
    | rt r ρ2 => rw [eb] at hb; exact hb
    | stuck => rw [eb] at hb; exact hb
    | bk ρ2 => rw [eb] at hb; exact hb.elim
    | ct ρ2 => rw [eb] at hb; exact hb.elim
    | exc x ρ2 => rw [eb] at hb; exact hb
def csOf (f : Nat → Nat) : Nat → List D → List (D × Nat)
  | _, [] => []
  | i, p :: ps => (p, f i) :: csOf f (i + 1) ps
theorem csOf_one {f : Nat → Nat} (h : ∀ i, f i = 1) : ∀ (i : Nat) (ps : List D), csOf f i ps = ps.map fun x => (x, 1)
  | _, [] => rfl
  | i, p :: ps => by unfold csOf; rw [h, csOf_one h]; rfl
def resD : Option (Nat × Nat) → D
  | none => .none
  | some p => .tuple [.int p.1, .int p.2]
def ndB (by_ : Bool) : D → Option (List (D × Nat)) := if by_ then nS else nF
def stp (by_ : Bool) (x : Str) (i : Nat) : Nat := if by_ && (x == "if") && (i == 0) then 2 else 1
theorem sum_cons {f : D → Option (Nat × Nat)} {d : D} {k : Nat} {r : List (D × Nat)} : sumS f ((d, k) :: r) = match f d, sumS f r with
    | some a, some b => some (a.1 + b.1, max (a.2 + k) b.2)
    | _, _ => none := rfl
theorem fMax_n (a b : Nat) : fMax [.int a, .int b] = some (.dat (.int ((max a b : Nat) : Int))) := by
  show some (Res.dat (.int (if (b : Int) > a then (b : Int) else a))) = _
  congr 3
  split <;> omega
theorem nc2 : ((2 : Nat) : Int) = 2 := rfl
theorem nc3 : ((3 : Nat) : Int) = 3 := rfl
theorem callD_x {x : Str} {r : List D} (h : (x == ("call" : Str)) = false) : callD (.tuple (.str x :: r)) = false := by
  unfold callD
  split
  · rename_i e
    injection e with e
    injection e with e1 e2
    injection e1 with e1
    subst e1
    rw [h]; rfl
  · rfl
theorem leafD_x {x : Str} {r : List D} (h : (x == ("is" : Str)) = false) : leafD (.tuple (.str x :: r)) = false := by
  unfold leafD
  split
  · rename_i e
    injection e with e
    injection e with e1 e2
    injection e1 with e1
    subst e1
    rw [h]; rfl
  · rfl
theorem letD_x {x : Str} {r : List D} (h : (x == ("at" : Str)) = false) : letD (.tuple (.str x :: r)) = false := by
  unfold letD
  split
  · rename_i e
    injection e with e
    injection e with e1 e2
    injection e1 with e1
    subst e1
    rw [h]; rfl
  · rfl
theorem leafD_l {x : Str} {r : List D} (h : r.length ≠ 1) : leafD (.tuple (.str x :: r)) = false := by
  unfold leafD
  split
  · rename_i e
    injection e with e
    injection e with e1 e2
    subst e2
    exact absurd rfl h
  · rfl
theorem letD_l {x : Str} {r : List D} (h : r.length ≠ 1) : letD (.tuple (.str x :: r)) = false := by
  unfold letD
  split
  · rename_i e
    injection e with e
    injection e with e1 e2
    subst e2
    exact absurd rfl h
  · rfl
theorem callD_l {x : Str} {r : List D} (h : r.length ≠ 2) : callD (.tuple (.str x :: r)) = false := by
  unfold callD
  split
  · rename_i e
    injection e with e
    injection e with e1 e2
    subst e2
    exact absurd rfl h
  · rfl
theorem tb_cases {x : Str} {n : Int} (h : tbI.lookup x = some n) : (x = ("if" : Str) ∧ n = 3) ∨ ((x == ("if" : Str)) = false ∧ n ≤ 2) := by
  have hm := PySem.mem_of_lookup h
  simp only [tbI, List.mem_cons, Prod.mk.injEq, List.not_mem_nil, or_false] at hm
  rcases hm with ⟨rfl, rfl⟩ | ⟨rfl, rfl⟩ | ⟨rfl, rfl⟩ | ⟨rfl, rfl⟩ | ⟨rfl, rfl⟩ | ⟨rfl, rfl⟩ | ⟨rfl, rfl⟩
  · exact .inr ⟨by decide, by decide⟩
  · exact .inr ⟨by decide, by decide⟩
  · exact .inr ⟨by decide, by decide⟩
  · exact .inr ⟨by decide, by decide⟩
  · exact .inr ⟨by decide, by decide⟩
  · exact .inr ⟨by decide, by decide⟩
  · exact .inl ⟨rfl, rfl⟩
theorem word_cs {x : Str} {r : List D} {n : Int} (h : tbI.lookup x = some n) (hl : (r.length : Int) = n) (by_ : Bool) : ndB by_ (.tuple (.str x :: r)) = some (csOf (stp by_ x) 0 r) := by
  obtain ⟨e1, e2, e3⟩ := word_look h
  have hw : wordD (.tuple (.str x :: r)) = true := by
    show (match tbI.lookup x with | some n => decide ((r.length : Int) = n) | none => false) = true
    rw [h]; exact decide_eq_true hl
  have hp : partsD (.tuple (.str x :: r)) = r := by simp [partsD, e1, e2, e3]
  cases by_ with
  | false =>
    show nF _ = _
    unfold nF
    rw [hw, Bool.or_true, Bool.true_or, if_pos rfl, hp, csOf_one (f := stp false x) fun i => rfl]
  | true =>
    show nS _ = _
    unfold nS
    rw [hw, Bool.or_true, if_pos rfl, hp]
    rcases tb_cases h with ⟨rfl, rfl⟩ | ⟨hi, hn⟩
    · match r, hl with
      | [a, b, c], _ => rfl
    · have hs : steps (.tuple (.str x :: r)) = [1, 1] := by simp [steps, hi]
      rw [hs]
      have ho : ∀ i, stp true x i = 1 := fun i => by simp [stp, hi]
      rw [csOf_one ho]
      match r, hl with
      | [], _ => rfl
      | [a], _ => rfl
      | [a, b], _ => rfl
      | a :: b :: c :: r', hl => exfalso; simp at hl; omega
theorem measure_ev (by_ : Bool) : ∀ (F m : Nat) (d : D), m < F → Gd d → Ev (M__law_measure F) [d, .bool by_, .int m] (resD (mG (ndB by_) m d))
  | 0, m, d, h, _ => by omega
  | F + 1, m, d, hF, hd => by
    have ih := measure_ev by_ F
    have ret : ∀ {v : D} {ρ : List Sl}, v = resD (mG (ndB by_) m d) → (notSlt (Res.dat v) = true ∧ Res.dat v = Res.dat (resD (mG (ndB by_) m d))) := fun h => ⟨rfl, by rw [h]⟩
    have nil_of : ndB by_ d = none → resD (mG (ndB by_) m d) = .none := fun h => by
      cases m with
      | zero => rfl
      | succ m => unfold mG; rw [h]; rfl
    show Wp (fnM _ _ _ _) _
    cases m with
    | zero =>
      refine wp_fn (ws_rtc ?_)
      simp only [sIf, ws_ofE, wp_bind, wp_noX, mTB, mTr, mNotT, mAndT, mOrT, mAnd, mOr, mNot, mIf, mNeg, mBin, bin2, mChain, mVar, mK, mB, mCall_eq, aNil, aCons, mTup, mLst, mSl, oNo, oSome, mIsi, anyT, isT, truD, sSet, setR, sRet, retR, sNil, sEx, sDvm, sSt, lstAt, putLst, drefs, dats, List.map_cons, List.map_nil, List.cons_append, List.nil_append, List.append_nil, List.replicate, List.getElem?_cons_zero, List.getElem?_cons_succ, List.set_cons_zero, List.set_cons_succ, List.length_cons, List.length_nil, bind_ok, ofO_some, ofE_ok, oS_some, noX_ok, wp_ok, ws_nx, ws_rt, fz, dref, fIx, atI0, atI1, atI2, ixN_20, ixN_21, ixN_10, Option.map_some, fGt, fGe, fSub, fI, fI0, fAdd, fInt, fLen, lenD, outsOf, parOnly, notSlt, List.take_succ_cons, List.take_zero, if_true, if_false, Bool.false_eq_true, decide_true, decide_false, Bool.not_true, Bool.not_false, fIs, fIsNot, isNoneD, sTg, gmT, gmCons, gmN, gmNil, mPop, sAug, mExt, sPar, and_true, true_and, List.isEmpty_nil, List.isEmpty_cons, Nat.reduceAdd, Nat.reduceLeDiff, Nat.reduceLT, le_sz, lt_sz, fLt_i, fEq_i, fNe_i, fLe_i, dec0]
      rw [if_pos (by decide)]
      simp only [sIf, ws_ofE, wp_bind, wp_noX, mTB, mTr, mNotT, mAndT, mOrT, mAnd, mOr, mNot, mIf, mNeg, mBin, bin2, mChain, mVar, mK, mB, mCall_eq, aNil, aCons, mTup, mLst, mSl, oNo, oSome, mIsi, anyT, isT, truD, sSet, setR, sRet, retR, sNil, sEx, sDvm, sSt, lstAt, putLst, drefs, dats, List.map_cons, List.map_nil, List.cons_append, List.nil_append, List.append_nil, List.replicate, List.getElem?_cons_zero, List.getElem?_cons_succ, List.set_cons_zero, List.set_cons_succ, List.length_cons, List.length_nil, bind_ok, ofO_some, ofE_ok, oS_some, noX_ok, wp_ok, ws_nx, ws_rt, fz, dref, fIx, atI0, atI1, atI2, ixN_20, ixN_21, ixN_10, Option.map_some, fGt, fGe, fSub, fI, fI0, fAdd, fInt, fLen, lenD, outsOf, parOnly, notSlt, List.take_succ_cons, List.take_zero, if_true, if_false, Bool.false_eq_true, decide_true, decide_false, Bool.not_true, Bool.not_false, fIs, fIsNot, isNoneD, sTg, gmT, gmCons, gmN, gmNil, mPop, sAug, mExt, sPar, and_true, true_and, List.isEmpty_nil, List.isEmpty_cons, Nat.reduceAdd, Nat.reduceLeDiff, Nat.reduceLT, le_sz, lt_sz, fLt_i, fEq_i, fNe_i, fLe_i, dec0]
      exact rfl
    | succ m =>
      have hm : ¬ ((m + 1 : Nat) : Int) < 1 := by omega
      have nn : ∀ e, d = e → leafD e = false → wordD e = false → callD e = false → letD e = false → ndB by_ d = none := fun e he h1 h2 h3 h4 => by
        subst he
        unfold ndB nF nS
        cases by_ <;> simp [h1, h2, h3, h4]
      have bad : leafD d = false → wordD d = false → callD d = false → letD d = false → resD (mG (ndB by_) (m + 1) d) = .none := fun h1 h2 h3 h4 => nil_of (nn d rfl h1 h2 h3 h4)
      cases d with
      | dict es => have := hd.1; simp [okD] at this
      | none => refine wp_fn (ws_rtc ?_); simp only [sIf, ws_ofE, wp_bind, wp_noX, mTB, mTr, mNotT, mAndT, mOrT, mAnd, mOr, mNot, mIf, mNeg, mBin, bin2, mChain, mVar, mK, mB, mCall_eq, aNil, aCons, mTup, mLst, mSl, oNo, oSome, mIsi, anyT, isT, truD, sSet, setR, sRet, retR, sNil, sEx, sDvm, sSt, lstAt, putLst, drefs, dats, List.map_cons, List.map_nil, List.cons_append, List.nil_append, List.append_nil, List.replicate, List.getElem?_cons_zero, List.getElem?_cons_succ, List.set_cons_zero, List.set_cons_succ, List.length_cons, List.length_nil, bind_ok, ofO_some, ofE_ok, oS_some, noX_ok, wp_ok, ws_nx, ws_rt, fz, dref, fIx, atI0, atI1, atI2, ixN_20, ixN_21, ixN_10, Option.map_some, fGt, fGe, fSub, fI, fI0, fAdd, fInt, fLen, lenD, outsOf, parOnly, notSlt, List.take_succ_cons, List.take_zero, if_true, if_false, Bool.false_eq_true, decide_true, decide_false, Bool.not_true, Bool.not_false, fIs, fIsNot, isNoneD, sTg, gmT, gmCons, gmN, gmNil, mPop, sAug, mExt, sPar, and_true, true_and, List.isEmpty_nil, List.isEmpty_cons, Nat.reduceAdd, Nat.reduceLeDiff, Nat.reduceLT, le_sz, lt_sz, fLt_i, fEq_i, fNe_i, fLe_i, dec0, if_neg hm, decide_eq_false hm]; rw [bad rfl rfl rfl rfl]
      | bool b => refine wp_fn (ws_rtc ?_); simp only [sIf, ws_ofE, wp_bind, wp_noX, mTB, mTr, mNotT, mAndT, mOrT, mAnd, mOr, mNot, mIf, mNeg, mBin, bin2, mChain, mVar, mK, mB, mCall_eq, aNil, aCons, mTup, mLst, mSl, oNo, oSome, mIsi, anyT, isT, truD, sSet, setR, sRet, retR, sNil, sEx, sDvm, sSt, lstAt, putLst, drefs, dats, List.map_cons, List.map_nil, List.cons_append, List.nil_append, List.append_nil, List.replicate, List.getElem?_cons_zero, List.getElem?_cons_succ, List.set_cons_zero, List.set_cons_succ, List.length_cons, List.length_nil, bind_ok, ofO_some, ofE_ok, oS_some, noX_ok, wp_ok, ws_nx, ws_rt, fz, dref, fIx, atI0, atI1, atI2, ixN_20, ixN_21, ixN_10, Option.map_some, fGt, fGe, fSub, fI, fI0, fAdd, fInt, fLen, lenD, outsOf, parOnly, notSlt, List.take_succ_cons, List.take_zero, if_true, if_false, Bool.false_eq_true, decide_true, decide_false, Bool.not_true, Bool.not_false, fIs, fIsNot, isNoneD, sTg, gmT, gmCons, gmN, gmNil, mPop, sAug, mExt, sPar, and_true, true_and, List.isEmpty_nil, List.isEmpty_cons, Nat.reduceAdd, Nat.reduceLeDiff, Nat.reduceLT, le_sz, lt_sz, fLt_i, fEq_i, fNe_i, fLe_i, dec0, if_neg hm, decide_eq_false hm]; rw [bad rfl rfl rfl rfl]
      | int b => refine wp_fn (ws_rtc ?_); simp only [sIf, ws_ofE, wp_bind, wp_noX, mTB, mTr, mNotT, mAndT, mOrT, mAnd, mOr, mNot, mIf, mNeg, mBin, bin2, mChain, mVar, mK, mB, mCall_eq, aNil, aCons, mTup, mLst, mSl, oNo, oSome, mIsi, anyT, isT, truD, sSet, setR, sRet, retR, sNil, sEx, sDvm, sSt, lstAt, putLst, drefs, dats, List.map_cons, List.map_nil, List.cons_append, List.nil_append, List.append_nil, List.replicate, List.getElem?_cons_zero, List.getElem?_cons_succ, List.set_cons_zero, List.set_cons_succ, List.length_cons, List.length_nil, bind_ok, ofO_some, ofE_ok, oS_some, noX_ok, wp_ok, ws_nx, ws_rt, fz, dref, fIx, atI0, atI1, atI2, ixN_20, ixN_21, ixN_10, Option.map_some, fGt, fGe, fSub, fI, fI0, fAdd, fInt, fLen, lenD, outsOf, parOnly, notSlt, List.take_succ_cons, List.take_zero, if_true, if_false, Bool.false_eq_true, decide_true, decide_false, Bool.not_true, Bool.not_false, fIs, fIsNot, isNoneD, sTg, gmT, gmCons, gmN, gmNil, mPop, sAug, mExt, sPar, and_true, true_and, List.isEmpty_nil, List.isEmpty_cons, Nat.reduceAdd, Nat.reduceLeDiff, Nat.reduceLT, le_sz, lt_sz, fLt_i, fEq_i, fNe_i, fLe_i, dec0, if_neg hm, decide_eq_false hm]; rw [bad rfl rfl rfl rfl]
      | list b => refine wp_fn (ws_rtc ?_); simp only [sIf, ws_ofE, wp_bind, wp_noX, mTB, mTr, mNotT, mAndT, mOrT, mAnd, mOr, mNot, mIf, mNeg, mBin, bin2, mChain, mVar, mK, mB, mCall_eq, aNil, aCons, mTup, mLst, mSl, oNo, oSome, mIsi, anyT, isT, truD, sSet, setR, sRet, retR, sNil, sEx, sDvm, sSt, lstAt, putLst, drefs, dats, List.map_cons, List.map_nil, List.cons_append, List.nil_append, List.append_nil, List.replicate, List.getElem?_cons_zero, List.getElem?_cons_succ, List.set_cons_zero, List.set_cons_succ, List.length_cons, List.length_nil, bind_ok, ofO_some, ofE_ok, oS_some, noX_ok, wp_ok, ws_nx, ws_rt, fz, dref, fIx, atI0, atI1, atI2, ixN_20, ixN_21, ixN_10, Option.map_some, fGt, fGe, fSub, fI, fI0, fAdd, fInt, fLen, lenD, outsOf, parOnly, notSlt, List.take_succ_cons, List.take_zero, if_true, if_false, Bool.false_eq_true, decide_true, decide_false, Bool.not_true, Bool.not_false, fIs, fIsNot, isNoneD, sTg, gmT, gmCons, gmN, gmNil, mPop, sAug, mExt, sPar, and_true, true_and, List.isEmpty_nil, List.isEmpty_cons, Nat.reduceAdd, Nat.reduceLeDiff, Nat.reduceLT, le_sz, lt_sz, fLt_i, fEq_i, fNe_i, fLe_i, dec0, if_neg hm, decide_eq_false hm]; rw [bad rfl rfl rfl rfl]
      | str b => refine wp_fn (ws_rtc ?_); simp only [sIf, ws_ofE, wp_bind, wp_noX, mTB, mTr, mNotT, mAndT, mOrT, mAnd, mOr, mNot, mIf, mNeg, mBin, bin2, mChain, mVar, mK, mB, mCall_eq, aNil, aCons, mTup, mLst, mSl, oNo, oSome, mIsi, anyT, isT, truD, sSet, setR, sRet, retR, sNil, sEx, sDvm, sSt, lstAt, putLst, drefs, dats, List.map_cons, List.map_nil, List.cons_append, List.nil_append, List.append_nil, List.replicate, List.getElem?_cons_zero, List.getElem?_cons_succ, List.set_cons_zero, List.set_cons_succ, List.length_cons, List.length_nil, bind_ok, ofO_some, ofE_ok, oS_some, noX_ok, wp_ok, ws_nx, ws_rt, fz, dref, fIx, atI0, atI1, atI2, ixN_20, ixN_21, ixN_10, Option.map_some, fGt, fGe, fSub, fI, fI0, fAdd, fInt, fLen, lenD, outsOf, parOnly, notSlt, List.take_succ_cons, List.take_zero, if_true, if_false, Bool.false_eq_true, decide_true, decide_false, Bool.not_true, Bool.not_false, fIs, fIsNot, isNoneD, sTg, gmT, gmCons, gmN, gmNil, mPop, sAug, mExt, sPar, and_true, true_and, List.isEmpty_nil, List.isEmpty_cons, Nat.reduceAdd, Nat.reduceLeDiff, Nat.reduceLT, le_sz, lt_sz, fLt_i, fEq_i, fNe_i, fLe_i, dec0, if_neg hm, decide_eq_false hm]; rw [bad rfl rfl rfl rfl]
      | tuple ds =>
        cases ds with
        | nil => refine wp_fn (ws_rtc ?_); simp only [sIf, ws_ofE, wp_bind, wp_noX, mTB, mTr, mNotT, mAndT, mOrT, mAnd, mOr, mNot, mIf, mNeg, mBin, bin2, mChain, mVar, mK, mB, mCall_eq, aNil, aCons, mTup, mLst, mSl, oNo, oSome, mIsi, anyT, isT, truD, sSet, setR, sRet, retR, sNil, sEx, sDvm, sSt, lstAt, putLst, drefs, dats, List.map_cons, List.map_nil, List.cons_append, List.nil_append, List.append_nil, List.replicate, List.getElem?_cons_zero, List.getElem?_cons_succ, List.set_cons_zero, List.set_cons_succ, List.length_cons, List.length_nil, bind_ok, ofO_some, ofE_ok, oS_some, noX_ok, wp_ok, ws_nx, ws_rt, fz, dref, fIx, atI0, atI1, atI2, ixN_20, ixN_21, ixN_10, Option.map_some, fGt, fGe, fSub, fI, fI0, fAdd, fInt, fLen, lenD, outsOf, parOnly, notSlt, List.take_succ_cons, List.take_zero, if_true, if_false, Bool.false_eq_true, decide_true, decide_false, Bool.not_true, Bool.not_false, fIs, fIsNot, isNoneD, sTg, gmT, gmCons, gmN, gmNil, mPop, sAug, mExt, sPar, and_true, true_and, List.isEmpty_nil, List.isEmpty_cons, Nat.reduceAdd, Nat.reduceLeDiff, Nat.reduceLT, le_sz, lt_sz, fLt_i, fEq_i, fNe_i, fLe_i, dec0, if_neg hm, decide_eq_false hm]; rw [bad rfl rfl rfl rfl]; first | done | exact ⟨rfl, rfl⟩ | exact rfl
        | cons e r =>
          have he := hd.sub (d := e) (by simp)
          have hl0 : ¬ ((r.length + 1 : Nat) : Int) = 0 := by omega
          cases e with
          | dict es => have := he.1; simp [okD] at this
          | none => refine wp_fn (ws_rtc ?_); simp only [sIf, ws_ofE, wp_bind, wp_noX, mTB, mTr, mNotT, mAndT, mOrT, mAnd, mOr, mNot, mIf, mNeg, mBin, bin2, mChain, mVar, mK, mB, mCall_eq, aNil, aCons, mTup, mLst, mSl, oNo, oSome, mIsi, anyT, isT, truD, sSet, setR, sRet, retR, sNil, sEx, sDvm, sSt, lstAt, putLst, drefs, dats, List.map_cons, List.map_nil, List.cons_append, List.nil_append, List.append_nil, List.replicate, List.getElem?_cons_zero, List.getElem?_cons_succ, List.set_cons_zero, List.set_cons_succ, List.length_cons, List.length_nil, bind_ok, ofO_some, ofE_ok, oS_some, noX_ok, wp_ok, ws_nx, ws_rt, fz, dref, fIx, atI0, atI1, atI2, ixN_20, ixN_21, ixN_10, Option.map_some, fGt, fGe, fSub, fI, fI0, fAdd, fInt, fLen, lenD, outsOf, parOnly, notSlt, List.take_succ_cons, List.take_zero, if_true, if_false, Bool.false_eq_true, decide_true, decide_false, Bool.not_true, Bool.not_false, fIs, fIsNot, isNoneD, sTg, gmT, gmCons, gmN, gmNil, mPop, sAug, mExt, sPar, and_true, true_and, List.isEmpty_nil, List.isEmpty_cons, Nat.reduceAdd, Nat.reduceLeDiff, Nat.reduceLT, le_sz, lt_sz, fLt_i, fEq_i, fNe_i, fLe_i, dec0, if_neg hm, decide_eq_false hm, decide_eq_false hl0]; rw [bad rfl rfl rfl rfl]
          | bool b => refine wp_fn (ws_rtc ?_); simp only [sIf, ws_ofE, wp_bind, wp_noX, mTB, mTr, mNotT, mAndT, mOrT, mAnd, mOr, mNot, mIf, mNeg, mBin, bin2, mChain, mVar, mK, mB, mCall_eq, aNil, aCons, mTup, mLst, mSl, oNo, oSome, mIsi, anyT, isT, truD, sSet, setR, sRet, retR, sNil, sEx, sDvm, sSt, lstAt, putLst, drefs, dats, List.map_cons, List.map_nil, List.cons_append, List.nil_append, List.append_nil, List.replicate, List.getElem?_cons_zero, List.getElem?_cons_succ, List.set_cons_zero, List.set_cons_succ, List.length_cons, List.length_nil, bind_ok, ofO_some, ofE_ok, oS_some, noX_ok, wp_ok, ws_nx, ws_rt, fz, dref, fIx, atI0, atI1, atI2, ixN_20, ixN_21, ixN_10, Option.map_some, fGt, fGe, fSub, fI, fI0, fAdd, fInt, fLen, lenD, outsOf, parOnly, notSlt, List.take_succ_cons, List.take_zero, if_true, if_false, Bool.false_eq_true, decide_true, decide_false, Bool.not_true, Bool.not_false, fIs, fIsNot, isNoneD, sTg, gmT, gmCons, gmN, gmNil, mPop, sAug, mExt, sPar, and_true, true_and, List.isEmpty_nil, List.isEmpty_cons, Nat.reduceAdd, Nat.reduceLeDiff, Nat.reduceLT, le_sz, lt_sz, fLt_i, fEq_i, fNe_i, fLe_i, dec0, if_neg hm, decide_eq_false hm, decide_eq_false hl0]; rw [bad rfl rfl rfl rfl]
          | int b => refine wp_fn (ws_rtc ?_); simp only [sIf, ws_ofE, wp_bind, wp_noX, mTB, mTr, mNotT, mAndT, mOrT, mAnd, mOr, mNot, mIf, mNeg, mBin, bin2, mChain, mVar, mK, mB, mCall_eq, aNil, aCons, mTup, mLst, mSl, oNo, oSome, mIsi, anyT, isT, truD, sSet, setR, sRet, retR, sNil, sEx, sDvm, sSt, lstAt, putLst, drefs, dats, List.map_cons, List.map_nil, List.cons_append, List.nil_append, List.append_nil, List.replicate, List.getElem?_cons_zero, List.getElem?_cons_succ, List.set_cons_zero, List.set_cons_succ, List.length_cons, List.length_nil, bind_ok, ofO_some, ofE_ok, oS_some, noX_ok, wp_ok, ws_nx, ws_rt, fz, dref, fIx, atI0, atI1, atI2, ixN_20, ixN_21, ixN_10, Option.map_some, fGt, fGe, fSub, fI, fI0, fAdd, fInt, fLen, lenD, outsOf, parOnly, notSlt, List.take_succ_cons, List.take_zero, if_true, if_false, Bool.false_eq_true, decide_true, decide_false, Bool.not_true, Bool.not_false, fIs, fIsNot, isNoneD, sTg, gmT, gmCons, gmN, gmNil, mPop, sAug, mExt, sPar, and_true, true_and, List.isEmpty_nil, List.isEmpty_cons, Nat.reduceAdd, Nat.reduceLeDiff, Nat.reduceLT, le_sz, lt_sz, fLt_i, fEq_i, fNe_i, fLe_i, dec0, if_neg hm, decide_eq_false hm, decide_eq_false hl0]; rw [bad rfl rfl rfl rfl]
          | list b => refine wp_fn (ws_rtc ?_); simp only [sIf, ws_ofE, wp_bind, wp_noX, mTB, mTr, mNotT, mAndT, mOrT, mAnd, mOr, mNot, mIf, mNeg, mBin, bin2, mChain, mVar, mK, mB, mCall_eq, aNil, aCons, mTup, mLst, mSl, oNo, oSome, mIsi, anyT, isT, truD, sSet, setR, sRet, retR, sNil, sEx, sDvm, sSt, lstAt, putLst, drefs, dats, List.map_cons, List.map_nil, List.cons_append, List.nil_append, List.append_nil, List.replicate, List.getElem?_cons_zero, List.getElem?_cons_succ, List.set_cons_zero, List.set_cons_succ, List.length_cons, List.length_nil, bind_ok, ofO_some, ofE_ok, oS_some, noX_ok, wp_ok, ws_nx, ws_rt, fz, dref, fIx, atI0, atI1, atI2, ixN_20, ixN_21, ixN_10, Option.map_some, fGt, fGe, fSub, fI, fI0, fAdd, fInt, fLen, lenD, outsOf, parOnly, notSlt, List.take_succ_cons, List.take_zero, if_true, if_false, Bool.false_eq_true, decide_true, decide_false, Bool.not_true, Bool.not_false, fIs, fIsNot, isNoneD, sTg, gmT, gmCons, gmN, gmNil, mPop, sAug, mExt, sPar, and_true, true_and, List.isEmpty_nil, List.isEmpty_cons, Nat.reduceAdd, Nat.reduceLeDiff, Nat.reduceLT, le_sz, lt_sz, fLt_i, fEq_i, fNe_i, fLe_i, dec0, if_neg hm, decide_eq_false hm, decide_eq_false hl0]; rw [bad rfl rfl rfl rfl]
          | tuple b => refine wp_fn (ws_rtc ?_); simp only [sIf, ws_ofE, wp_bind, wp_noX, mTB, mTr, mNotT, mAndT, mOrT, mAnd, mOr, mNot, mIf, mNeg, mBin, bin2, mChain, mVar, mK, mB, mCall_eq, aNil, aCons, mTup, mLst, mSl, oNo, oSome, mIsi, anyT, isT, truD, sSet, setR, sRet, retR, sNil, sEx, sDvm, sSt, lstAt, putLst, drefs, dats, List.map_cons, List.map_nil, List.cons_append, List.nil_append, List.append_nil, List.replicate, List.getElem?_cons_zero, List.getElem?_cons_succ, List.set_cons_zero, List.set_cons_succ, List.length_cons, List.length_nil, bind_ok, ofO_some, ofE_ok, oS_some, noX_ok, wp_ok, ws_nx, ws_rt, fz, dref, fIx, atI0, atI1, atI2, ixN_20, ixN_21, ixN_10, Option.map_some, fGt, fGe, fSub, fI, fI0, fAdd, fInt, fLen, lenD, outsOf, parOnly, notSlt, List.take_succ_cons, List.take_zero, if_true, if_false, Bool.false_eq_true, decide_true, decide_false, Bool.not_true, Bool.not_false, fIs, fIsNot, isNoneD, sTg, gmT, gmCons, gmN, gmNil, mPop, sAug, mExt, sPar, and_true, true_and, List.isEmpty_nil, List.isEmpty_cons, Nat.reduceAdd, Nat.reduceLeDiff, Nat.reduceLT, le_sz, lt_sz, fLt_i, fEq_i, fNe_i, fLe_i, dec0, if_neg hm, decide_eq_false hm, decide_eq_false hl0]; rw [bad rfl rfl rfl rfl]
          | str x =>
            have hx := sm_okS he
            refine wp_fn (ws_nxc (ρ1 := [.dat (.tuple (.str x :: r)), .dat (.bool by_), .dat (.int (m + 1 : Nat)), .non, .non, .non, .non, .non, .non, .non, .non]) (by simp only [sIf, ws_ofE, wp_bind, wp_noX, mTB, mTr, mNotT, mAndT, mOrT, mAnd, mOr, mNot, mIf, mNeg, mBin, bin2, mChain, mVar, mK, mB, mCall_eq, aNil, aCons, mTup, mLst, mSl, oNo, oSome, mIsi, anyT, isT, truD, sSet, setR, sRet, retR, sNil, sEx, sDvm, sSt, lstAt, putLst, drefs, dats, List.map_cons, List.map_nil, List.cons_append, List.nil_append, List.append_nil, List.replicate, List.getElem?_cons_zero, List.getElem?_cons_succ, List.set_cons_zero, List.set_cons_succ, List.length_cons, List.length_nil, bind_ok, ofO_some, ofE_ok, oS_some, noX_ok, wp_ok, ws_nx, ws_rt, fz, dref, fIx, atI0, atI1, atI2, ixN_20, ixN_21, ixN_10, Option.map_some, fGt, fGe, fSub, fI, fI0, fAdd, fInt, fLen, lenD, outsOf, parOnly, notSlt, List.take_succ_cons, List.take_zero, if_true, if_false, Bool.false_eq_true, decide_true, decide_false, Bool.not_true, Bool.not_false, fIs, fIsNot, isNoneD, sTg, gmT, gmCons, gmN, gmNil, mPop, sAug, mExt, sPar, and_true, true_and, List.isEmpty_nil, List.isEmpty_cons, Nat.reduceAdd, Nat.reduceLeDiff, Nat.reduceLT, le_sz, lt_sz, fLt_i, fEq_i, fNe_i, fLe_i, dec0, if_neg hm, decide_eq_false hm, decide_eq_false hl0]) ?_)
            refine ws_nxc (ρ1 := [.dat (.tuple (.str x :: r)), .dat (.bool by_), .dat (.int (m + 1 : Nat)), .dat (.str x), .dat (.tuple r), .non, .non, .non, .non, .non, .non]) (by simp only [sIf, ws_ofE, wp_bind, wp_noX, mTB, mTr, mNotT, mAndT, mOrT, mAnd, mOr, mNot, mIf, mNeg, mBin, bin2, mChain, mVar, mK, mB, mCall_eq, aNil, aCons, mTup, mLst, mSl, oNo, oSome, mIsi, anyT, isT, truD, sSet, setR, sRet, retR, sNil, sEx, sDvm, sSt, lstAt, putLst, drefs, dats, List.map_cons, List.map_nil, List.cons_append, List.nil_append, List.append_nil, List.replicate, List.getElem?_cons_zero, List.getElem?_cons_succ, List.set_cons_zero, List.set_cons_succ, List.length_cons, List.length_nil, bind_ok, ofO_some, ofE_ok, oS_some, noX_ok, wp_ok, ws_nx, ws_rt, fz, dref, fIx, atI0, atI1, atI2, ixN_20, ixN_21, ixN_10, Option.map_some, fGt, fGe, fSub, fI, fI0, fAdd, fInt, fLen, lenD, outsOf, parOnly, notSlt, List.take_succ_cons, List.take_zero, if_true, if_false, Bool.false_eq_true, decide_true, decide_false, Bool.not_true, Bool.not_false, fIs, fIsNot, isNoneD, sTg, gmT, gmCons, gmN, gmNil, mPop, sAug, mExt, sPar, and_true, true_and, List.isEmpty_nil, List.isEmpty_cons, Nat.reduceAdd, Nat.reduceLeDiff, Nat.reduceLT, le_sz, lt_sz, fLt_i, fEq_i, fNe_i, fLe_i, dec0, fSl, cut1]) ?_
            have hrl : r.length < 9 := by
              have := hd.1
              simp only [okD, Bool.and_eq_true, hdOk, decide_eq_true_eq] at this
              exact this.2
            have hr : ∀ y ∈ r, Gd y := fun y hy => hd.sub (List.mem_cons_of_mem _ hy)
            by_cases hA : (x == ("at" : Str)) = true ∧ by_ = true
            · obtain ⟨hA, rfl⟩ := hA
              rw [beq_iff_eq] at hA
              subst hA
              have nw : wordD (.tuple (.str "at" :: r)) = false := rfl
              refine ws_rtc ?_
              simp only [sIf, ws_ofE, wp_bind, wp_noX, mTB, mTr, mNotT, mAndT, mOrT, mAnd, mOr, mNot, mIf, mNeg, mBin, bin2, mChain, mVar, mK, mB, mCall_eq, aNil, aCons, mTup, mLst, mSl, oNo, oSome, mIsi, anyT, isT, truD, sSet, setR, sRet, retR, sNil, sEx, sDvm, sSt, lstAt, putLst, drefs, dats, List.map_cons, List.map_nil, List.cons_append, List.nil_append, List.append_nil, List.replicate, List.getElem?_cons_zero, List.getElem?_cons_succ, List.set_cons_zero, List.set_cons_succ, List.length_cons, List.length_nil, bind_ok, ofO_some, ofE_ok, oS_some, noX_ok, wp_ok, ws_nx, ws_rt, fz, dref, fIx, atI0, atI1, atI2, ixN_20, ixN_21, ixN_10, Option.map_some, fGt, fGe, fSub, fI, fI0, fAdd, fInt, fLen, lenD, outsOf, parOnly, notSlt, List.take_succ_cons, List.take_zero, if_true, if_false, Bool.false_eq_true, decide_true, decide_false, Bool.not_true, Bool.not_false, fIs, fIsNot, isNoneD, sTg, gmT, gmCons, gmN, gmNil, mPop, sAug, mExt, sPar, and_true, true_and, List.isEmpty_nil, List.isEmpty_cons, Nat.reduceAdd, Nat.reduceLeDiff, Nat.reduceLT, le_sz, lt_sz, fLt_i, fEq_i, fNe_i, fLe_i, dec0, fEq_s okw.2.2.2.1 okw.2.2.2.1, beq_self_eq_true, ws_seq]
              match r, hr, hrl with
              | [], _, _ => simp only [sIf, ws_ofE, wp_bind, wp_noX, mTB, mTr, mNotT, mAndT, mOrT, mAnd, mOr, mNot, mIf, mNeg, mBin, bin2, mChain, mVar, mK, mB, mCall_eq, aNil, aCons, mTup, mLst, mSl, oNo, oSome, mIsi, anyT, isT, truD, sSet, setR, sRet, retR, sNil, sEx, sDvm, sSt, lstAt, putLst, drefs, dats, List.map_cons, List.map_nil, List.cons_append, List.nil_append, List.append_nil, List.replicate, List.getElem?_cons_zero, List.getElem?_cons_succ, List.set_cons_zero, List.set_cons_succ, List.length_cons, List.length_nil, bind_ok, ofO_some, ofE_ok, oS_some, noX_ok, wp_ok, ws_nx, ws_rt, fz, dref, fIx, atI0, atI1, atI2, ixN_20, ixN_21, ixN_10, Option.map_some, fGt, fGe, fSub, fI, fI0, fAdd, fInt, fLen, lenD, outsOf, parOnly, notSlt, List.take_succ_cons, List.take_zero, if_true, if_false, Bool.false_eq_true, decide_true, decide_false, Bool.not_true, Bool.not_false, fIs, fIsNot, isNoneD, sTg, gmT, gmCons, gmN, gmNil, mPop, sAug, mExt, sPar, and_true, true_and, List.isEmpty_nil, List.isEmpty_cons, Nat.reduceAdd, Nat.reduceLeDiff, Nat.reduceLT, le_sz, lt_sz, fLt_i, fEq_i, fNe_i, fLe_i, dec0]; rw [bad (by first | rfl | exact leafD_x rfl | exact leafD_l (by simp)) nw (by first | rfl | exact callD_x rfl) (by first | rfl | exact letD_x rfl | exact letD_l (by simp))]; first | done | exact ⟨rfl, rfl⟩ | exact rfl
              | _ :: _ :: r', _, _ =>
                have : ¬ ((r'.length + 1 + 1 + 1 : Nat) : Int) = 2 := by omega
                simp only [sIf, ws_ofE, wp_bind, wp_noX, mTB, mTr, mNotT, mAndT, mOrT, mAnd, mOr, mNot, mIf, mNeg, mBin, bin2, mChain, mVar, mK, mB, mCall_eq, aNil, aCons, mTup, mLst, mSl, oNo, oSome, mIsi, anyT, isT, truD, sSet, setR, sRet, retR, sNil, sEx, sDvm, sSt, lstAt, putLst, drefs, dats, List.map_cons, List.map_nil, List.cons_append, List.nil_append, List.append_nil, List.replicate, List.getElem?_cons_zero, List.getElem?_cons_succ, List.set_cons_zero, List.set_cons_succ, List.length_cons, List.length_nil, bind_ok, ofO_some, ofE_ok, oS_some, noX_ok, wp_ok, ws_nx, ws_rt, fz, dref, fIx, atI0, atI1, atI2, ixN_20, ixN_21, ixN_10, Option.map_some, fGt, fGe, fSub, fI, fI0, fAdd, fInt, fLen, lenD, outsOf, parOnly, notSlt, List.take_succ_cons, List.take_zero, if_true, if_false, Bool.false_eq_true, decide_true, decide_false, Bool.not_true, Bool.not_false, fIs, fIsNot, isNoneD, sTg, gmT, gmCons, gmN, gmNil, mPop, sAug, mExt, sPar, and_true, true_and, List.isEmpty_nil, List.isEmpty_cons, Nat.reduceAdd, Nat.reduceLeDiff, Nat.reduceLT, le_sz, lt_sz, fLt_i, fEq_i, fNe_i, fLe_i, dec0, if_neg this, decide_eq_false this]
                rw [bad (by first | rfl | exact leafD_x rfl | exact leafD_l (by simp)) nw (by first | rfl | exact callD_x rfl) (by first | rfl | exact letD_x rfl | exact letD_l (by simp))]
              | [y], hr, _ =>
                have hy := hr y (by simp)
                cases y with
                | dict es => have := hy.1; simp [okD] at this
                | none => simp only [sIf, ws_ofE, wp_bind, wp_noX, mTB, mTr, mNotT, mAndT, mOrT, mAnd, mOr, mNot, mIf, mNeg, mBin, bin2, mChain, mVar, mK, mB, mCall_eq, aNil, aCons, mTup, mLst, mSl, oNo, oSome, mIsi, anyT, isT, truD, sSet, setR, sRet, retR, sNil, sEx, sDvm, sSt, lstAt, putLst, drefs, dats, List.map_cons, List.map_nil, List.cons_append, List.nil_append, List.append_nil, List.replicate, List.getElem?_cons_zero, List.getElem?_cons_succ, List.set_cons_zero, List.set_cons_succ, List.length_cons, List.length_nil, bind_ok, ofO_some, ofE_ok, oS_some, noX_ok, wp_ok, ws_nx, ws_rt, fz, dref, fIx, atI0, atI1, atI2, ixN_20, ixN_21, ixN_10, Option.map_some, fGt, fGe, fSub, fI, fI0, fAdd, fInt, fLen, lenD, outsOf, parOnly, notSlt, List.take_succ_cons, List.take_zero, if_true, if_false, Bool.false_eq_true, decide_true, decide_false, Bool.not_true, Bool.not_false, fIs, fIsNot, isNoneD, sTg, gmT, gmCons, gmN, gmNil, mPop, sAug, mExt, sPar, and_true, true_and, List.isEmpty_nil, List.isEmpty_cons, Nat.reduceAdd, Nat.reduceLeDiff, Nat.reduceLT, le_sz, lt_sz, fLt_i, fEq_i, fNe_i, fLe_i, dec0, nc2, eq_self]; rw [bad (by first | rfl | exact leafD_x rfl | exact leafD_l (by simp)) nw (by first | rfl | exact callD_x rfl) (by first | rfl | exact letD_x rfl | exact letD_l (by simp))]
                | bool b => simp only [sIf, ws_ofE, wp_bind, wp_noX, mTB, mTr, mNotT, mAndT, mOrT, mAnd, mOr, mNot, mIf, mNeg, mBin, bin2, mChain, mVar, mK, mB, mCall_eq, aNil, aCons, mTup, mLst, mSl, oNo, oSome, mIsi, anyT, isT, truD, sSet, setR, sRet, retR, sNil, sEx, sDvm, sSt, lstAt, putLst, drefs, dats, List.map_cons, List.map_nil, List.cons_append, List.nil_append, List.append_nil, List.replicate, List.getElem?_cons_zero, List.getElem?_cons_succ, List.set_cons_zero, List.set_cons_succ, List.length_cons, List.length_nil, bind_ok, ofO_some, ofE_ok, oS_some, noX_ok, wp_ok, ws_nx, ws_rt, fz, dref, fIx, atI0, atI1, atI2, ixN_20, ixN_21, ixN_10, Option.map_some, fGt, fGe, fSub, fI, fI0, fAdd, fInt, fLen, lenD, outsOf, parOnly, notSlt, List.take_succ_cons, List.take_zero, if_true, if_false, Bool.false_eq_true, decide_true, decide_false, Bool.not_true, Bool.not_false, fIs, fIsNot, isNoneD, sTg, gmT, gmCons, gmN, gmNil, mPop, sAug, mExt, sPar, and_true, true_and, List.isEmpty_nil, List.isEmpty_cons, Nat.reduceAdd, Nat.reduceLeDiff, Nat.reduceLT, le_sz, lt_sz, fLt_i, fEq_i, fNe_i, fLe_i, dec0, nc2, eq_self]; rw [bad (by first | rfl | exact leafD_x rfl | exact leafD_l (by simp)) nw (by first | rfl | exact callD_x rfl) (by first | rfl | exact letD_x rfl | exact letD_l (by simp))]
                | list b => simp only [sIf, ws_ofE, wp_bind, wp_noX, mTB, mTr, mNotT, mAndT, mOrT, mAnd, mOr, mNot, mIf, mNeg, mBin, bin2, mChain, mVar, mK, mB, mCall_eq, aNil, aCons, mTup, mLst, mSl, oNo, oSome, mIsi, anyT, isT, truD, sSet, setR, sRet, retR, sNil, sEx, sDvm, sSt, lstAt, putLst, drefs, dats, List.map_cons, List.map_nil, List.cons_append, List.nil_append, List.append_nil, List.replicate, List.getElem?_cons_zero, List.getElem?_cons_succ, List.set_cons_zero, List.set_cons_succ, List.length_cons, List.length_nil, bind_ok, ofO_some, ofE_ok, oS_some, noX_ok, wp_ok, ws_nx, ws_rt, fz, dref, fIx, atI0, atI1, atI2, ixN_20, ixN_21, ixN_10, Option.map_some, fGt, fGe, fSub, fI, fI0, fAdd, fInt, fLen, lenD, outsOf, parOnly, notSlt, List.take_succ_cons, List.take_zero, if_true, if_false, Bool.false_eq_true, decide_true, decide_false, Bool.not_true, Bool.not_false, fIs, fIsNot, isNoneD, sTg, gmT, gmCons, gmN, gmNil, mPop, sAug, mExt, sPar, and_true, true_and, List.isEmpty_nil, List.isEmpty_cons, Nat.reduceAdd, Nat.reduceLeDiff, Nat.reduceLT, le_sz, lt_sz, fLt_i, fEq_i, fNe_i, fLe_i, dec0, nc2, eq_self]; rw [bad (by first | rfl | exact leafD_x rfl | exact leafD_l (by simp)) nw (by first | rfl | exact callD_x rfl) (by first | rfl | exact letD_x rfl | exact letD_l (by simp))]
                | str b => simp only [sIf, ws_ofE, wp_bind, wp_noX, mTB, mTr, mNotT, mAndT, mOrT, mAnd, mOr, mNot, mIf, mNeg, mBin, bin2, mChain, mVar, mK, mB, mCall_eq, aNil, aCons, mTup, mLst, mSl, oNo, oSome, mIsi, anyT, isT, truD, sSet, setR, sRet, retR, sNil, sEx, sDvm, sSt, lstAt, putLst, drefs, dats, List.map_cons, List.map_nil, List.cons_append, List.nil_append, List.append_nil, List.replicate, List.getElem?_cons_zero, List.getElem?_cons_succ, List.set_cons_zero, List.set_cons_succ, List.length_cons, List.length_nil, bind_ok, ofO_some, ofE_ok, oS_some, noX_ok, wp_ok, ws_nx, ws_rt, fz, dref, fIx, atI0, atI1, atI2, ixN_20, ixN_21, ixN_10, Option.map_some, fGt, fGe, fSub, fI, fI0, fAdd, fInt, fLen, lenD, outsOf, parOnly, notSlt, List.take_succ_cons, List.take_zero, if_true, if_false, Bool.false_eq_true, decide_true, decide_false, Bool.not_true, Bool.not_false, fIs, fIsNot, isNoneD, sTg, gmT, gmCons, gmN, gmNil, mPop, sAug, mExt, sPar, and_true, true_and, List.isEmpty_nil, List.isEmpty_cons, Nat.reduceAdd, Nat.reduceLeDiff, Nat.reduceLT, le_sz, lt_sz, fLt_i, fEq_i, fNe_i, fLe_i, dec0, nc2, eq_self]; rw [bad (by first | rfl | exact leafD_x rfl | exact leafD_l (by simp)) nw (by first | rfl | exact callD_x rfl) (by first | rfl | exact letD_x rfl | exact letD_l (by simp))]
                | tuple b => simp only [sIf, ws_ofE, wp_bind, wp_noX, mTB, mTr, mNotT, mAndT, mOrT, mAnd, mOr, mNot, mIf, mNeg, mBin, bin2, mChain, mVar, mK, mB, mCall_eq, aNil, aCons, mTup, mLst, mSl, oNo, oSome, mIsi, anyT, isT, truD, sSet, setR, sRet, retR, sNil, sEx, sDvm, sSt, lstAt, putLst, drefs, dats, List.map_cons, List.map_nil, List.cons_append, List.nil_append, List.append_nil, List.replicate, List.getElem?_cons_zero, List.getElem?_cons_succ, List.set_cons_zero, List.set_cons_succ, List.length_cons, List.length_nil, bind_ok, ofO_some, ofE_ok, oS_some, noX_ok, wp_ok, ws_nx, ws_rt, fz, dref, fIx, atI0, atI1, atI2, ixN_20, ixN_21, ixN_10, Option.map_some, fGt, fGe, fSub, fI, fI0, fAdd, fInt, fLen, lenD, outsOf, parOnly, notSlt, List.take_succ_cons, List.take_zero, if_true, if_false, Bool.false_eq_true, decide_true, decide_false, Bool.not_true, Bool.not_false, fIs, fIsNot, isNoneD, sTg, gmT, gmCons, gmN, gmNil, mPop, sAug, mExt, sPar, and_true, true_and, List.isEmpty_nil, List.isEmpty_cons, Nat.reduceAdd, Nat.reduceLeDiff, Nat.reduceLT, le_sz, lt_sz, fLt_i, fEq_i, fNe_i, fLe_i, dec0, nc2, eq_self]; rw [bad (by first | rfl | exact leafD_x rfl | exact leafD_l (by simp)) nw (by first | rfl | exact callD_x rfl) (by first | rfl | exact letD_x rfl | exact letD_l (by simp))]
                | int i =>
                  by_cases hi : (0 : Int) ≤ i
                  · simp only [sIf, ws_ofE, wp_bind, wp_noX, mTB, mTr, mNotT, mAndT, mOrT, mAnd, mOr, mNot, mIf, mNeg, mBin, bin2, mChain, mVar, mK, mB, mCall_eq, aNil, aCons, mTup, mLst, mSl, oNo, oSome, mIsi, anyT, isT, truD, sSet, setR, sRet, retR, sNil, sEx, sDvm, sSt, lstAt, putLst, drefs, dats, List.map_cons, List.map_nil, List.cons_append, List.nil_append, List.append_nil, List.replicate, List.getElem?_cons_zero, List.getElem?_cons_succ, List.set_cons_zero, List.set_cons_succ, List.length_cons, List.length_nil, bind_ok, ofO_some, ofE_ok, oS_some, noX_ok, wp_ok, ws_nx, ws_rt, fz, dref, fIx, atI0, atI1, atI2, ixN_20, ixN_21, ixN_10, Option.map_some, fGt, fGe, fSub, fI, fI0, fAdd, fInt, fLen, lenD, outsOf, parOnly, notSlt, List.take_succ_cons, List.take_zero, if_true, if_false, Bool.false_eq_true, decide_true, decide_false, Bool.not_true, Bool.not_false, fIs, fIsNot, isNoneD, sTg, gmT, gmCons, gmN, gmNil, mPop, sAug, mExt, sPar, and_true, true_and, List.isEmpty_nil, List.isEmpty_cons, Nat.reduceAdd, Nat.reduceLeDiff, Nat.reduceLT, le_sz, lt_sz, fLt_i, fEq_i, fNe_i, fLe_i, dec0, nc2, eq_self, decide_eq_true hi]
                    have hl : letD (.tuple [.str "at", .int i]) = true := by
                      show (true && decide (0 ≤ i)) = true
                      rw [decide_eq_true hi]; rfl
                    have e : mG (ndB true) (m + 1) (.tuple [.str "at", .int i]) = some (1, 1) := by
                      unfold mG
                      have : ndB true (.tuple [.str "at", .int i]) = some [] := by
                        show nS _ = _
                        unfold nS
                        rw [hl]; rfl
                      rw [this]; rfl
                    rw [e]; rfl
                  · simp only [sIf, ws_ofE, wp_bind, wp_noX, mTB, mTr, mNotT, mAndT, mOrT, mAnd, mOr, mNot, mIf, mNeg, mBin, bin2, mChain, mVar, mK, mB, mCall_eq, aNil, aCons, mTup, mLst, mSl, oNo, oSome, mIsi, anyT, isT, truD, sSet, setR, sRet, retR, sNil, sEx, sDvm, sSt, lstAt, putLst, drefs, dats, List.map_cons, List.map_nil, List.cons_append, List.nil_append, List.append_nil, List.replicate, List.getElem?_cons_zero, List.getElem?_cons_succ, List.set_cons_zero, List.set_cons_succ, List.length_cons, List.length_nil, bind_ok, ofO_some, ofE_ok, oS_some, noX_ok, wp_ok, ws_nx, ws_rt, fz, dref, fIx, atI0, atI1, atI2, ixN_20, ixN_21, ixN_10, Option.map_some, fGt, fGe, fSub, fI, fI0, fAdd, fInt, fLen, lenD, outsOf, parOnly, notSlt, List.take_succ_cons, List.take_zero, if_true, if_false, Bool.false_eq_true, decide_true, decide_false, Bool.not_true, Bool.not_false, fIs, fIsNot, isNoneD, sTg, gmT, gmCons, gmN, gmNil, mPop, sAug, mExt, sPar, and_true, true_and, List.isEmpty_nil, List.isEmpty_cons, Nat.reduceAdd, Nat.reduceLeDiff, Nat.reduceLT, le_sz, lt_sz, fLt_i, fEq_i, fNe_i, fLe_i, dec0, nc2, eq_self, decide_eq_false hi]
                    have hl : letD (.tuple [.str "at", .int i]) = false := by
                      show (true && decide (0 ≤ i)) = false
                      rw [decide_eq_false hi]; rfl
                    rw [bad rfl nw rfl hl]
            · refine ws_nxc (ρ1 := [.dat (.tuple (.str x :: r)), .dat (.bool by_), .dat (.int (m + 1 : Nat)), .dat (.str x), .dat (.tuple r), .non, .non, .non, .non, .non, .non]) ?_ ?_
              · cases ha : (x == ("at" : Str)) with
                | false => simp only [sIf, ws_ofE, wp_bind, wp_noX, mTB, mTr, mNotT, mAndT, mOrT, mAnd, mOr, mNot, mIf, mNeg, mBin, bin2, mChain, mVar, mK, mB, mCall_eq, aNil, aCons, mTup, mLst, mSl, oNo, oSome, mIsi, anyT, isT, truD, sSet, setR, sRet, retR, sNil, sEx, sDvm, sSt, lstAt, putLst, drefs, dats, List.map_cons, List.map_nil, List.cons_append, List.nil_append, List.append_nil, List.replicate, List.getElem?_cons_zero, List.getElem?_cons_succ, List.set_cons_zero, List.set_cons_succ, List.length_cons, List.length_nil, bind_ok, ofO_some, ofE_ok, oS_some, noX_ok, wp_ok, ws_nx, ws_rt, fz, dref, fIx, atI0, atI1, atI2, ixN_20, ixN_21, ixN_10, Option.map_some, fGt, fGe, fSub, fI, fI0, fAdd, fInt, fLen, lenD, outsOf, parOnly, notSlt, List.take_succ_cons, List.take_zero, if_true, if_false, Bool.false_eq_true, decide_true, decide_false, Bool.not_true, Bool.not_false, fIs, fIsNot, isNoneD, sTg, gmT, gmCons, gmN, gmNil, mPop, sAug, mExt, sPar, and_true, true_and, List.isEmpty_nil, List.isEmpty_cons, Nat.reduceAdd, Nat.reduceLeDiff, Nat.reduceLT, le_sz, lt_sz, fLt_i, fEq_i, fNe_i, fLe_i, dec0, fEq_s hx okw.2.2.2.1, ha]
                | true =>
                  cases by_ with
                  | true => exact absurd ⟨ha, rfl⟩ hA
                  | false => simp only [sIf, ws_ofE, wp_bind, wp_noX, mTB, mTr, mNotT, mAndT, mOrT, mAnd, mOr, mNot, mIf, mNeg, mBin, bin2, mChain, mVar, mK, mB, mCall_eq, aNil, aCons, mTup, mLst, mSl, oNo, oSome, mIsi, anyT, isT, truD, sSet, setR, sRet, retR, sNil, sEx, sDvm, sSt, lstAt, putLst, drefs, dats, List.map_cons, List.map_nil, List.cons_append, List.nil_append, List.append_nil, List.replicate, List.getElem?_cons_zero, List.getElem?_cons_succ, List.set_cons_zero, List.set_cons_succ, List.length_cons, List.length_nil, bind_ok, ofO_some, ofE_ok, oS_some, noX_ok, wp_ok, ws_nx, ws_rt, fz, dref, fIx, atI0, atI1, atI2, ixN_20, ixN_21, ixN_10, Option.map_some, fGt, fGe, fSub, fI, fI0, fAdd, fInt, fLen, lenD, outsOf, parOnly, notSlt, List.take_succ_cons, List.take_zero, if_true, if_false, Bool.false_eq_true, decide_true, decide_false, Bool.not_true, Bool.not_false, fIs, fIsNot, isNoneD, sTg, gmT, gmCons, gmN, gmNil, mPop, sAug, mExt, sPar, and_true, true_and, List.isEmpty_nil, List.isEmpty_cons, Nat.reduceAdd, Nat.reduceLeDiff, Nat.reduceLT, le_sz, lt_sz, fLt_i, fEq_i, fNe_i, fLe_i, dec0, fEq_s hx okw.2.2.2.1, ha]
              · by_cases hB : (x == ("is" : Str)) = true ∧ by_ = false
                · obtain ⟨hB, rfl⟩ := hB
                  rw [beq_iff_eq] at hB
                  subst hB
                  have nw : wordD (.tuple (.str "is" :: r)) = false := rfl
                  refine ws_rtc ?_
                  simp only [sIf, ws_ofE, wp_bind, wp_noX, mTB, mTr, mNotT, mAndT, mOrT, mAnd, mOr, mNot, mIf, mNeg, mBin, bin2, mChain, mVar, mK, mB, mCall_eq, aNil, aCons, mTup, mLst, mSl, oNo, oSome, mIsi, anyT, isT, truD, sSet, setR, sRet, retR, sNil, sEx, sDvm, sSt, lstAt, putLst, drefs, dats, List.map_cons, List.map_nil, List.cons_append, List.nil_append, List.append_nil, List.replicate, List.getElem?_cons_zero, List.getElem?_cons_succ, List.set_cons_zero, List.set_cons_succ, List.length_cons, List.length_nil, bind_ok, ofO_some, ofE_ok, oS_some, noX_ok, wp_ok, ws_nx, ws_rt, fz, dref, fIx, atI0, atI1, atI2, ixN_20, ixN_21, ixN_10, Option.map_some, fGt, fGe, fSub, fI, fI0, fAdd, fInt, fLen, lenD, outsOf, parOnly, notSlt, List.take_succ_cons, List.take_zero, if_true, if_false, Bool.false_eq_true, decide_true, decide_false, Bool.not_true, Bool.not_false, fIs, fIsNot, isNoneD, sTg, gmT, gmCons, gmN, gmNil, mPop, sAug, mExt, sPar, and_true, true_and, List.isEmpty_nil, List.isEmpty_cons, Nat.reduceAdd, Nat.reduceLeDiff, Nat.reduceLT, le_sz, lt_sz, fLt_i, fEq_i, fNe_i, fLe_i, dec0, fEq_s okw.2.2.1 okw.2.2.1, beq_self_eq_true]
                  match r, hr, hrl with
                  | [], _, _ => simp only [sIf, ws_ofE, wp_bind, wp_noX, mTB, mTr, mNotT, mAndT, mOrT, mAnd, mOr, mNot, mIf, mNeg, mBin, bin2, mChain, mVar, mK, mB, mCall_eq, aNil, aCons, mTup, mLst, mSl, oNo, oSome, mIsi, anyT, isT, truD, sSet, setR, sRet, retR, sNil, sEx, sDvm, sSt, lstAt, putLst, drefs, dats, List.map_cons, List.map_nil, List.cons_append, List.nil_append, List.append_nil, List.replicate, List.getElem?_cons_zero, List.getElem?_cons_succ, List.set_cons_zero, List.set_cons_succ, List.length_cons, List.length_nil, bind_ok, ofO_some, ofE_ok, oS_some, noX_ok, wp_ok, ws_nx, ws_rt, fz, dref, fIx, atI0, atI1, atI2, ixN_20, ixN_21, ixN_10, Option.map_some, fGt, fGe, fSub, fI, fI0, fAdd, fInt, fLen, lenD, outsOf, parOnly, notSlt, List.take_succ_cons, List.take_zero, if_true, if_false, Bool.false_eq_true, decide_true, decide_false, Bool.not_true, Bool.not_false, fIs, fIsNot, isNoneD, sTg, gmT, gmCons, gmN, gmNil, mPop, sAug, mExt, sPar, and_true, true_and, List.isEmpty_nil, List.isEmpty_cons, Nat.reduceAdd, Nat.reduceLeDiff, Nat.reduceLT, le_sz, lt_sz, fLt_i, fEq_i, fNe_i, fLe_i, dec0]; rw [bad (by first | rfl | exact leafD_x rfl | exact leafD_l (by simp)) nw (by first | rfl | exact callD_x rfl) (by first | rfl | exact letD_x rfl | exact letD_l (by simp))]; first | done | exact ⟨rfl, rfl⟩ | exact rfl
                  | _ :: _ :: r', _, _ =>
                    have : ¬ ((r'.length + 1 + 1 + 1 : Nat) : Int) = 2 := by omega
                    simp only [sIf, ws_ofE, wp_bind, wp_noX, mTB, mTr, mNotT, mAndT, mOrT, mAnd, mOr, mNot, mIf, mNeg, mBin, bin2, mChain, mVar, mK, mB, mCall_eq, aNil, aCons, mTup, mLst, mSl, oNo, oSome, mIsi, anyT, isT, truD, sSet, setR, sRet, retR, sNil, sEx, sDvm, sSt, lstAt, putLst, drefs, dats, List.map_cons, List.map_nil, List.cons_append, List.nil_append, List.append_nil, List.replicate, List.getElem?_cons_zero, List.getElem?_cons_succ, List.set_cons_zero, List.set_cons_succ, List.length_cons, List.length_nil, bind_ok, ofO_some, ofE_ok, oS_some, noX_ok, wp_ok, ws_nx, ws_rt, fz, dref, fIx, atI0, atI1, atI2, ixN_20, ixN_21, ixN_10, Option.map_some, fGt, fGe, fSub, fI, fI0, fAdd, fInt, fLen, lenD, outsOf, parOnly, notSlt, List.take_succ_cons, List.take_zero, if_true, if_false, Bool.false_eq_true, decide_true, decide_false, Bool.not_true, Bool.not_false, fIs, fIsNot, isNoneD, sTg, gmT, gmCons, gmN, gmNil, mPop, sAug, mExt, sPar, and_true, true_and, List.isEmpty_nil, List.isEmpty_cons, Nat.reduceAdd, Nat.reduceLeDiff, Nat.reduceLT, le_sz, lt_sz, fLt_i, fEq_i, fNe_i, fLe_i, dec0, if_neg this, decide_eq_false this]
                    rw [bad (by first | rfl | exact leafD_x rfl | exact leafD_l (by simp)) nw (by first | rfl | exact callD_x rfl) (by first | rfl | exact letD_x rfl | exact letD_l (by simp))]
                  | [y], hr, _ =>
                    have hy := lname_ev (hr y (by simp))
                    simp only [sIf, ws_ofE, wp_bind, wp_noX, mTB, mTr, mNotT, mAndT, mOrT, mAnd, mOr, mNot, mIf, mNeg, mBin, bin2, mChain, mVar, mK, mB, mCall_eq, aNil, aCons, mTup, mLst, mSl, oNo, oSome, mIsi, anyT, isT, truD, sSet, setR, sRet, retR, sNil, sEx, sDvm, sSt, lstAt, putLst, drefs, dats, List.map_cons, List.map_nil, List.cons_append, List.nil_append, List.append_nil, List.replicate, List.getElem?_cons_zero, List.getElem?_cons_succ, List.set_cons_zero, List.set_cons_succ, List.length_cons, List.length_nil, bind_ok, ofO_some, ofE_ok, oS_some, noX_ok, wp_ok, ws_nx, ws_rt, fz, dref, fIx, atI0, atI1, atI2, ixN_20, ixN_21, ixN_10, Option.map_some, fGt, fGe, fSub, fI, fI0, fAdd, fInt, fLen, lenD, outsOf, parOnly, notSlt, List.take_succ_cons, List.take_zero, if_true, if_false, Bool.false_eq_true, decide_true, decide_false, Bool.not_true, Bool.not_false, fIs, fIsNot, isNoneD, sTg, gmT, gmCons, gmN, gmNil, mPop, sAug, mExt, sPar, and_true, true_and, List.isEmpty_nil, List.isEmpty_cons, Nat.reduceAdd, Nat.reduceLeDiff, Nat.reduceLT, le_sz, lt_sz, fLt_i, fEq_i, fNe_i, fLe_i, dec0, nc2, eq_self, ev1 hy]
                    cases hn : nameD y with
                    | false =>
                      simp only [sIf, ws_ofE, wp_bind, wp_noX, mTB, mTr, mNotT, mAndT, mOrT, mAnd, mOr, mNot, mIf, mNeg, mBin, bin2, mChain, mVar, mK, mB, mCall_eq, aNil, aCons, mTup, mLst, mSl, oNo, oSome, mIsi, anyT, isT, truD, sSet, setR, sRet, retR, sNil, sEx, sDvm, sSt, lstAt, putLst, drefs, dats, List.map_cons, List.map_nil, List.cons_append, List.nil_append, List.append_nil, List.replicate, List.getElem?_cons_zero, List.getElem?_cons_succ, List.set_cons_zero, List.set_cons_succ, List.length_cons, List.length_nil, bind_ok, ofO_some, ofE_ok, oS_some, noX_ok, wp_ok, ws_nx, ws_rt, fz, dref, fIx, atI0, atI1, atI2, ixN_20, ixN_21, ixN_10, Option.map_some, fGt, fGe, fSub, fI, fI0, fAdd, fInt, fLen, lenD, outsOf, parOnly, notSlt, List.take_succ_cons, List.take_zero, if_true, if_false, Bool.false_eq_true, decide_true, decide_false, Bool.not_true, Bool.not_false, fIs, fIsNot, isNoneD, sTg, gmT, gmCons, gmN, gmNil, mPop, sAug, mExt, sPar, and_true, true_and, List.isEmpty_nil, List.isEmpty_cons, Nat.reduceAdd, Nat.reduceLeDiff, Nat.reduceLT, le_sz, lt_sz, fLt_i, fEq_i, fNe_i, fLe_i, dec0]
                      have hl : leafD (.tuple [.str "is", y]) = false := hn
                      rw [bad hl nw rfl rfl]
                      first | done | exact ⟨rfl, rfl⟩ | exact rfl
                    | true =>
                      simp only [sIf, ws_ofE, wp_bind, wp_noX, mTB, mTr, mNotT, mAndT, mOrT, mAnd, mOr, mNot, mIf, mNeg, mBin, bin2, mChain, mVar, mK, mB, mCall_eq, aNil, aCons, mTup, mLst, mSl, oNo, oSome, mIsi, anyT, isT, truD, sSet, setR, sRet, retR, sNil, sEx, sDvm, sSt, lstAt, putLst, drefs, dats, List.map_cons, List.map_nil, List.cons_append, List.nil_append, List.append_nil, List.replicate, List.getElem?_cons_zero, List.getElem?_cons_succ, List.set_cons_zero, List.set_cons_succ, List.length_cons, List.length_nil, bind_ok, ofO_some, ofE_ok, oS_some, noX_ok, wp_ok, ws_nx, ws_rt, fz, dref, fIx, atI0, atI1, atI2, ixN_20, ixN_21, ixN_10, Option.map_some, fGt, fGe, fSub, fI, fI0, fAdd, fInt, fLen, lenD, outsOf, parOnly, notSlt, List.take_succ_cons, List.take_zero, if_true, if_false, Bool.false_eq_true, decide_true, decide_false, Bool.not_true, Bool.not_false, fIs, fIsNot, isNoneD, sTg, gmT, gmCons, gmN, gmNil, mPop, sAug, mExt, sPar, and_true, true_and, List.isEmpty_nil, List.isEmpty_cons, Nat.reduceAdd, Nat.reduceLeDiff, Nat.reduceLT, le_sz, lt_sz, fLt_i, fEq_i, fNe_i, fLe_i, dec0]
                      have hl : leafD (.tuple [.str "is", y]) = true := hn
                      have e : mG (ndB false) (m + 1) (.tuple [.str "is", y]) = some (1, 1) := by
                        unfold mG
                        have : ndB false (.tuple [.str "is", y]) = some [] := by
                          show nF _ = _
                          unfold nF
                          rw [hl]; rfl
                        rw [this]; rfl
                      rw [e]; first | done | exact ⟨rfl, rfl⟩ | exact rfl
                · refine ws_nxc (ρ1 := [.dat (.tuple (.str x :: r)), .dat (.bool by_), .dat (.int (m + 1 : Nat)), .dat (.str x), .dat (.tuple r), .non, .non, .non, .non, .non, .non]) ?_ ?_
                  · cases ha : (x == ("is" : Str)) with
                    | false => simp only [sIf, ws_ofE, wp_bind, wp_noX, mTB, mTr, mNotT, mAndT, mOrT, mAnd, mOr, mNot, mIf, mNeg, mBin, bin2, mChain, mVar, mK, mB, mCall_eq, aNil, aCons, mTup, mLst, mSl, oNo, oSome, mIsi, anyT, isT, truD, sSet, setR, sRet, retR, sNil, sEx, sDvm, sSt, lstAt, putLst, drefs, dats, List.map_cons, List.map_nil, List.cons_append, List.nil_append, List.append_nil, List.replicate, List.getElem?_cons_zero, List.getElem?_cons_succ, List.set_cons_zero, List.set_cons_succ, List.length_cons, List.length_nil, bind_ok, ofO_some, ofE_ok, oS_some, noX_ok, wp_ok, ws_nx, ws_rt, fz, dref, fIx, atI0, atI1, atI2, ixN_20, ixN_21, ixN_10, Option.map_some, fGt, fGe, fSub, fI, fI0, fAdd, fInt, fLen, lenD, outsOf, parOnly, notSlt, List.take_succ_cons, List.take_zero, if_true, if_false, Bool.false_eq_true, decide_true, decide_false, Bool.not_true, Bool.not_false, fIs, fIsNot, isNoneD, sTg, gmT, gmCons, gmN, gmNil, mPop, sAug, mExt, sPar, and_true, true_and, List.isEmpty_nil, List.isEmpty_cons, Nat.reduceAdd, Nat.reduceLeDiff, Nat.reduceLT, le_sz, lt_sz, fLt_i, fEq_i, fNe_i, fLe_i, dec0, fEq_s hx okw.2.2.1, ha]
                    | true =>
                      cases by_ with
                      | false => exact absurd ⟨ha, rfl⟩ hB
                      | true => simp only [sIf, ws_ofE, wp_bind, wp_noX, mTB, mTr, mNotT, mAndT, mOrT, mAnd, mOr, mNot, mIf, mNeg, mBin, bin2, mChain, mVar, mK, mB, mCall_eq, aNil, aCons, mTup, mLst, mSl, oNo, oSome, mIsi, anyT, isT, truD, sSet, setR, sRet, retR, sNil, sEx, sDvm, sSt, lstAt, putLst, drefs, dats, List.map_cons, List.map_nil, List.cons_append, List.nil_append, List.append_nil, List.replicate, List.getElem?_cons_zero, List.getElem?_cons_succ, List.set_cons_zero, List.set_cons_succ, List.length_cons, List.length_nil, bind_ok, ofO_some, ofE_ok, oS_some, noX_ok, wp_ok, ws_nx, ws_rt, fz, dref, fIx, atI0, atI1, atI2, ixN_20, ixN_21, ixN_10, Option.map_some, fGt, fGe, fSub, fI, fI0, fAdd, fInt, fLen, lenD, outsOf, parOnly, notSlt, List.take_succ_cons, List.take_zero, if_true, if_false, Bool.false_eq_true, decide_true, decide_false, Bool.not_true, Bool.not_false, fIs, fIsNot, isNoneD, sTg, gmT, gmCons, gmN, gmNil, mPop, sAug, mExt, sPar, and_true, true_and, List.isEmpty_nil, List.isEmpty_cons, Nat.reduceAdd, Nat.reduceLeDiff, Nat.reduceLT, le_sz, lt_sz, fLt_i, fEq_i, fNe_i, fLe_i, dec0, fEq_s hx okw.2.2.1, ha]
                  · refine ws_both (M := fun ρ => ∃ P cs, (∀ p ∈ P, Gd p) ∧ ndB by_ (.tuple (.str x :: r)) = some cs ∧ cs = csOf (stp by_ x) 0 P ∧ ρ = [.dat (.tuple (.str x :: r)), .dat (.bool by_), .dat (.int (m + 1 : Nat)), .dat (.str x), .dat (.tuple P), .non, .non, .non, .non, .non, .non]) ?_ fun ρ hρ => ?_
                    · by_cases hC : (x == ("call" : Str)) = true ∧ by_ = false
                      · obtain ⟨hC, rfl⟩ := hC
                        rw [beq_iff_eq] at hC
                        subst hC
                        have nw : wordD (.tuple (.str "call" :: r)) = false := rfl
                        simp only [sIf, ws_ofE, wp_bind, wp_noX, mTB, mTr, mNotT, mAndT, mOrT, mAnd, mOr, mNot, mIf, mNeg, mBin, bin2, mChain, mVar, mK, mB, mCall_eq, aNil, aCons, mTup, mLst, mSl, oNo, oSome, mIsi, anyT, isT, truD, sSet, setR, sRet, retR, sNil, sEx, sDvm, sSt, lstAt, putLst, drefs, dats, List.map_cons, List.map_nil, List.cons_append, List.nil_append, List.append_nil, List.replicate, List.getElem?_cons_zero, List.getElem?_cons_succ, List.set_cons_zero, List.set_cons_succ, List.length_cons, List.length_nil, bind_ok, ofO_some, ofE_ok, oS_some, noX_ok, wp_ok, ws_nx, ws_rt, fz, dref, fIx, atI0, atI1, atI2, ixN_20, ixN_21, ixN_10, Option.map_some, fGt, fGe, fSub, fI, fI0, fAdd, fInt, fLen, lenD, outsOf, parOnly, notSlt, List.take_succ_cons, List.take_zero, if_true, if_false, Bool.false_eq_true, decide_true, decide_false, Bool.not_true, Bool.not_false, fIs, fIsNot, isNoneD, sTg, gmT, gmCons, gmN, gmNil, mPop, sAug, mExt, sPar, and_true, true_and, List.isEmpty_nil, List.isEmpty_cons, Nat.reduceAdd, Nat.reduceLeDiff, Nat.reduceLT, le_sz, lt_sz, fLt_i, fEq_i, fNe_i, fLe_i, dec0, fEq_s okw.2.2.2.2.2.2.2.2.2.1 okw.2.2.2.2.2.2.2.2.2.1, beq_self_eq_true, ws_seq]
                        have bad2 : callD (.tuple (.str "call" :: r)) = false → resD (mG (ndB false) (m + 1) (.tuple (.str "call" :: r))) = .none := fun hc => bad (leafD_x rfl) nw hc (letD_x rfl)
                        by_cases hl : r.length = 2
                        · match r, hl, hr with
                          | [y, z], _, hr =>
                            have hy := lname_ev (hr y (by simp))
                            have hz := hr z (by simp)
                            simp only [sIf, ws_ofE, wp_bind, wp_noX, mTB, mTr, mNotT, mAndT, mOrT, mAnd, mOr, mNot, mIf, mNeg, mBin, bin2, mChain, mVar, mK, mB, mCall_eq, aNil, aCons, mTup, mLst, mSl, oNo, oSome, mIsi, anyT, isT, truD, sSet, setR, sRet, retR, sNil, sEx, sDvm, sSt, lstAt, putLst, drefs, dats, List.map_cons, List.map_nil, List.cons_append, List.nil_append, List.append_nil, List.replicate, List.getElem?_cons_zero, List.getElem?_cons_succ, List.set_cons_zero, List.set_cons_succ, List.length_cons, List.length_nil, bind_ok, ofO_some, ofE_ok, oS_some, noX_ok, wp_ok, ws_nx, ws_rt, fz, dref, fIx, atI0, atI1, atI2, ixN_20, ixN_21, ixN_10, Option.map_some, fGt, fGe, fSub, fI, fI0, fAdd, fInt, fLen, lenD, outsOf, parOnly, notSlt, List.take_succ_cons, List.take_zero, if_true, if_false, Bool.false_eq_true, decide_true, decide_false, Bool.not_true, Bool.not_false, fIs, fIsNot, isNoneD, sTg, gmT, gmCons, gmN, gmNil, mPop, sAug, mExt, sPar, and_true, true_and, List.isEmpty_nil, List.isEmpty_cons, Nat.reduceAdd, Nat.reduceLeDiff, Nat.reduceLT, le_sz, lt_sz, fLt_i, fEq_i, fNe_i, fLe_i, dec0, nc3, eq_self, ev1 hy]
                            cases hn : nameD y with
                            | false =>
                              simp only [sIf, ws_ofE, wp_bind, wp_noX, mTB, mTr, mNotT, mAndT, mOrT, mAnd, mOr, mNot, mIf, mNeg, mBin, bin2, mChain, mVar, mK, mB, mCall_eq, aNil, aCons, mTup, mLst, mSl, oNo, oSome, mIsi, anyT, isT, truD, sSet, setR, sRet, retR, sNil, sEx, sDvm, sSt, lstAt, putLst, drefs, dats, List.map_cons, List.map_nil, List.cons_append, List.nil_append, List.append_nil, List.replicate, List.getElem?_cons_zero, List.getElem?_cons_succ, List.set_cons_zero, List.set_cons_succ, List.length_cons, List.length_nil, bind_ok, ofO_some, ofE_ok, oS_some, noX_ok, wp_ok, ws_nx, ws_rt, fz, dref, fIx, atI0, atI1, atI2, ixN_20, ixN_21, ixN_10, Option.map_some, fGt, fGe, fSub, fI, fI0, fAdd, fInt, fLen, lenD, outsOf, parOnly, notSlt, List.take_succ_cons, List.take_zero, if_true, if_false, Bool.false_eq_true, decide_true, decide_false, Bool.not_true, Bool.not_false, fIs, fIsNot, isNoneD, sTg, gmT, gmCons, gmN, gmNil, mPop, sAug, mExt, sPar, and_true, true_and, List.isEmpty_nil, List.isEmpty_cons, Nat.reduceAdd, Nat.reduceLeDiff, Nat.reduceLT, le_sz, lt_sz, fLt_i, fEq_i, fNe_i, fLe_i, dec0]
                              rw [bad2 (by cases z <;> simp [callD, hn])]
                              first | done | exact ⟨rfl, rfl⟩ | exact rfl
                            | true =>
                              simp only [sIf, ws_ofE, wp_bind, wp_noX, mTB, mTr, mNotT, mAndT, mOrT, mAnd, mOr, mNot, mIf, mNeg, mBin, bin2, mChain, mVar, mK, mB, mCall_eq, aNil, aCons, mTup, mLst, mSl, oNo, oSome, mIsi, anyT, isT, truD, sSet, setR, sRet, retR, sNil, sEx, sDvm, sSt, lstAt, putLst, drefs, dats, List.map_cons, List.map_nil, List.cons_append, List.nil_append, List.append_nil, List.replicate, List.getElem?_cons_zero, List.getElem?_cons_succ, List.set_cons_zero, List.set_cons_succ, List.length_cons, List.length_nil, bind_ok, ofO_some, ofE_ok, oS_some, noX_ok, wp_ok, ws_nx, ws_rt, fz, dref, fIx, atI0, atI1, atI2, ixN_20, ixN_21, ixN_10, Option.map_some, fGt, fGe, fSub, fI, fI0, fAdd, fInt, fLen, lenD, outsOf, parOnly, notSlt, List.take_succ_cons, List.take_zero, if_true, if_false, Bool.false_eq_true, decide_true, decide_false, Bool.not_true, Bool.not_false, fIs, fIsNot, isNoneD, sTg, gmT, gmCons, gmN, gmNil, mPop, sAug, mExt, sPar, and_true, true_and, List.isEmpty_nil, List.isEmpty_cons, Nat.reduceAdd, Nat.reduceLeDiff, Nat.reduceLT, le_sz, lt_sz, fLt_i, fEq_i, fNe_i, fLe_i, dec0]
                              cases z with
                              | dict es => have := hz.1; simp [okD] at this
                              | none => simp only [sIf, ws_ofE, wp_bind, wp_noX, mTB, mTr, mNotT, mAndT, mOrT, mAnd, mOr, mNot, mIf, mNeg, mBin, bin2, mChain, mVar, mK, mB, mCall_eq, aNil, aCons, mTup, mLst, mSl, oNo, oSome, mIsi, anyT, isT, truD, sSet, setR, sRet, retR, sNil, sEx, sDvm, sSt, lstAt, putLst, drefs, dats, List.map_cons, List.map_nil, List.cons_append, List.nil_append, List.append_nil, List.replicate, List.getElem?_cons_zero, List.getElem?_cons_succ, List.set_cons_zero, List.set_cons_succ, List.length_cons, List.length_nil, bind_ok, ofO_some, ofE_ok, oS_some, noX_ok, wp_ok, ws_nx, ws_rt, fz, dref, fIx, atI0, atI1, atI2, ixN_20, ixN_21, ixN_10, Option.map_some, fGt, fGe, fSub, fI, fI0, fAdd, fInt, fLen, lenD, outsOf, parOnly, notSlt, List.take_succ_cons, List.take_zero, if_true, if_false, Bool.false_eq_true, decide_true, decide_false, Bool.not_true, Bool.not_false, fIs, fIsNot, isNoneD, sTg, gmT, gmCons, gmN, gmNil, mPop, sAug, mExt, sPar, and_true, true_and, List.isEmpty_nil, List.isEmpty_cons, Nat.reduceAdd, Nat.reduceLeDiff, Nat.reduceLT, le_sz, lt_sz, fLt_i, fEq_i, fNe_i, fLe_i, dec0]; rw [bad2 rfl]; first | done | exact ⟨rfl, rfl⟩ | exact rfl
                              | bool b => simp only [sIf, ws_ofE, wp_bind, wp_noX, mTB, mTr, mNotT, mAndT, mOrT, mAnd, mOr, mNot, mIf, mNeg, mBin, bin2, mChain, mVar, mK, mB, mCall_eq, aNil, aCons, mTup, mLst, mSl, oNo, oSome, mIsi, anyT, isT, truD, sSet, setR, sRet, retR, sNil, sEx, sDvm, sSt, lstAt, putLst, drefs, dats, List.map_cons, List.map_nil, List.cons_append, List.nil_append, List.append_nil, List.replicate, List.getElem?_cons_zero, List.getElem?_cons_succ, List.set_cons_zero, List.set_cons_succ, List.length_cons, List.length_nil, bind_ok, ofO_some, ofE_ok, oS_some, noX_ok, wp_ok, ws_nx, ws_rt, fz, dref, fIx, atI0, atI1, atI2, ixN_20, ixN_21, ixN_10, Option.map_some, fGt, fGe, fSub, fI, fI0, fAdd, fInt, fLen, lenD, outsOf, parOnly, notSlt, List.take_succ_cons, List.take_zero, if_true, if_false, Bool.false_eq_true, decide_true, decide_false, Bool.not_true, Bool.not_false, fIs, fIsNot, isNoneD, sTg, gmT, gmCons, gmN, gmNil, mPop, sAug, mExt, sPar, and_true, true_and, List.isEmpty_nil, List.isEmpty_cons, Nat.reduceAdd, Nat.reduceLeDiff, Nat.reduceLT, le_sz, lt_sz, fLt_i, fEq_i, fNe_i, fLe_i, dec0]; rw [bad2 rfl]; first | done | exact ⟨rfl, rfl⟩ | exact rfl
                              | int b => simp only [sIf, ws_ofE, wp_bind, wp_noX, mTB, mTr, mNotT, mAndT, mOrT, mAnd, mOr, mNot, mIf, mNeg, mBin, bin2, mChain, mVar, mK, mB, mCall_eq, aNil, aCons, mTup, mLst, mSl, oNo, oSome, mIsi, anyT, isT, truD, sSet, setR, sRet, retR, sNil, sEx, sDvm, sSt, lstAt, putLst, drefs, dats, List.map_cons, List.map_nil, List.cons_append, List.nil_append, List.append_nil, List.replicate, List.getElem?_cons_zero, List.getElem?_cons_succ, List.set_cons_zero, List.set_cons_succ, List.length_cons, List.length_nil, bind_ok, ofO_some, ofE_ok, oS_some, noX_ok, wp_ok, ws_nx, ws_rt, fz, dref, fIx, atI0, atI1, atI2, ixN_20, ixN_21, ixN_10, Option.map_some, fGt, fGe, fSub, fI, fI0, fAdd, fInt, fLen, lenD, outsOf, parOnly, notSlt, List.take_succ_cons, List.take_zero, if_true, if_false, Bool.false_eq_true, decide_true, decide_false, Bool.not_true, Bool.not_false, fIs, fIsNot, isNoneD, sTg, gmT, gmCons, gmN, gmNil, mPop, sAug, mExt, sPar, and_true, true_and, List.isEmpty_nil, List.isEmpty_cons, Nat.reduceAdd, Nat.reduceLeDiff, Nat.reduceLT, le_sz, lt_sz, fLt_i, fEq_i, fNe_i, fLe_i, dec0]; rw [bad2 rfl]; first | done | exact ⟨rfl, rfl⟩ | exact rfl
                              | list b => simp only [sIf, ws_ofE, wp_bind, wp_noX, mTB, mTr, mNotT, mAndT, mOrT, mAnd, mOr, mNot, mIf, mNeg, mBin, bin2, mChain, mVar, mK, mB, mCall_eq, aNil, aCons, mTup, mLst, mSl, oNo, oSome, mIsi, anyT, isT, truD, sSet, setR, sRet, retR, sNil, sEx, sDvm, sSt, lstAt, putLst, drefs, dats, List.map_cons, List.map_nil, List.cons_append, List.nil_append, List.append_nil, List.replicate, List.getElem?_cons_zero, List.getElem?_cons_succ, List.set_cons_zero, List.set_cons_succ, List.length_cons, List.length_nil, bind_ok, ofO_some, ofE_ok, oS_some, noX_ok, wp_ok, ws_nx, ws_rt, fz, dref, fIx, atI0, atI1, atI2, ixN_20, ixN_21, ixN_10, Option.map_some, fGt, fGe, fSub, fI, fI0, fAdd, fInt, fLen, lenD, outsOf, parOnly, notSlt, List.take_succ_cons, List.take_zero, if_true, if_false, Bool.false_eq_true, decide_true, decide_false, Bool.not_true, Bool.not_false, fIs, fIsNot, isNoneD, sTg, gmT, gmCons, gmN, gmNil, mPop, sAug, mExt, sPar, and_true, true_and, List.isEmpty_nil, List.isEmpty_cons, Nat.reduceAdd, Nat.reduceLeDiff, Nat.reduceLT, le_sz, lt_sz, fLt_i, fEq_i, fNe_i, fLe_i, dec0]; rw [bad2 rfl]; first | done | exact ⟨rfl, rfl⟩ | exact rfl
                              | str b => simp only [sIf, ws_ofE, wp_bind, wp_noX, mTB, mTr, mNotT, mAndT, mOrT, mAnd, mOr, mNot, mIf, mNeg, mBin, bin2, mChain, mVar, mK, mB, mCall_eq, aNil, aCons, mTup, mLst, mSl, oNo, oSome, mIsi, anyT, isT, truD, sSet, setR, sRet, retR, sNil, sEx, sDvm, sSt, lstAt, putLst, drefs, dats, List.map_cons, List.map_nil, List.cons_append, List.nil_append, List.append_nil, List.replicate, List.getElem?_cons_zero, List.getElem?_cons_succ, List.set_cons_zero, List.set_cons_succ, List.length_cons, List.length_nil, bind_ok, ofO_some, ofE_ok, oS_some, noX_ok, wp_ok, ws_nx, ws_rt, fz, dref, fIx, atI0, atI1, atI2, ixN_20, ixN_21, ixN_10, Option.map_some, fGt, fGe, fSub, fI, fI0, fAdd, fInt, fLen, lenD, outsOf, parOnly, notSlt, List.take_succ_cons, List.take_zero, if_true, if_false, Bool.false_eq_true, decide_true, decide_false, Bool.not_true, Bool.not_false, fIs, fIsNot, isNoneD, sTg, gmT, gmCons, gmN, gmNil, mPop, sAug, mExt, sPar, and_true, true_and, List.isEmpty_nil, List.isEmpty_cons, Nat.reduceAdd, Nat.reduceLeDiff, Nat.reduceLT, le_sz, lt_sz, fLt_i, fEq_i, fNe_i, fLe_i, dec0]; rw [bad2 rfl]; first | done | exact ⟨rfl, rfl⟩ | exact rfl
                              | tuple ps =>
                                simp only [sIf, ws_ofE, wp_bind, wp_noX, mTB, mTr, mNotT, mAndT, mOrT, mAnd, mOr, mNot, mIf, mNeg, mBin, bin2, mChain, mVar, mK, mB, mCall_eq, aNil, aCons, mTup, mLst, mSl, oNo, oSome, mIsi, anyT, isT, truD, sSet, setR, sRet, retR, sNil, sEx, sDvm, sSt, lstAt, putLst, drefs, dats, List.map_cons, List.map_nil, List.cons_append, List.nil_append, List.append_nil, List.replicate, List.getElem?_cons_zero, List.getElem?_cons_succ, List.set_cons_zero, List.set_cons_succ, List.length_cons, List.length_nil, bind_ok, ofO_some, ofE_ok, oS_some, noX_ok, wp_ok, ws_nx, ws_rt, fz, dref, fIx, atI0, atI1, atI2, ixN_20, ixN_21, ixN_10, Option.map_some, fGt, fGe, fSub, fI, fI0, fAdd, fInt, fLen, lenD, outsOf, parOnly, notSlt, List.take_succ_cons, List.take_zero, if_true, if_false, Bool.false_eq_true, decide_true, decide_false, Bool.not_true, Bool.not_false, fIs, fIsNot, isNoneD, sTg, gmT, gmCons, gmN, gmNil, mPop, sAug, mExt, sPar, and_true, true_and, List.isEmpty_nil, List.isEmpty_cons, Nat.reduceAdd, Nat.reduceLeDiff, Nat.reduceLT, le_sz, lt_sz, fLt_i, fEq_i, fNe_i, fLe_i, dec0, fEq_t hz]
                                cases ps with
                                | nil => simp only [sIf, ws_ofE, wp_bind, wp_noX, mTB, mTr, mNotT, mAndT, mOrT, mAnd, mOr, mNot, mIf, mNeg, mBin, bin2, mChain, mVar, mK, mB, mCall_eq, aNil, aCons, mTup, mLst, mSl, oNo, oSome, mIsi, anyT, isT, truD, sSet, setR, sRet, retR, sNil, sEx, sDvm, sSt, lstAt, putLst, drefs, dats, List.map_cons, List.map_nil, List.cons_append, List.nil_append, List.append_nil, List.replicate, List.getElem?_cons_zero, List.getElem?_cons_succ, List.set_cons_zero, List.set_cons_succ, List.length_cons, List.length_nil, bind_ok, ofO_some, ofE_ok, oS_some, noX_ok, wp_ok, ws_nx, ws_rt, fz, dref, fIx, atI0, atI1, atI2, ixN_20, ixN_21, ixN_10, Option.map_some, fGt, fGe, fSub, fI, fI0, fAdd, fInt, fLen, lenD, outsOf, parOnly, notSlt, List.take_succ_cons, List.take_zero, if_true, if_false, Bool.false_eq_true, decide_true, decide_false, Bool.not_true, Bool.not_false, fIs, fIsNot, isNoneD, sTg, gmT, gmCons, gmN, gmNil, mPop, sAug, mExt, sPar, and_true, true_and, List.isEmpty_nil, List.isEmpty_cons, Nat.reduceAdd, Nat.reduceLeDiff, Nat.reduceLT, le_sz, lt_sz, fLt_i, fEq_i, fNe_i, fLe_i, dec0]; rw [bad2 (by simp [callD, hn])]; first | done | exact ⟨rfl, rfl⟩ | exact rfl
                                | cons p ps =>
                                  simp only [sIf, ws_ofE, wp_bind, wp_noX, mTB, mTr, mNotT, mAndT, mOrT, mAnd, mOr, mNot, mIf, mNeg, mBin, bin2, mChain, mVar, mK, mB, mCall_eq, aNil, aCons, mTup, mLst, mSl, oNo, oSome, mIsi, anyT, isT, truD, sSet, setR, sRet, retR, sNil, sEx, sDvm, sSt, lstAt, putLst, drefs, dats, List.map_cons, List.map_nil, List.cons_append, List.nil_append, List.append_nil, List.replicate, List.getElem?_cons_zero, List.getElem?_cons_succ, List.set_cons_zero, List.set_cons_succ, List.length_cons, List.length_nil, bind_ok, ofO_some, ofE_ok, oS_some, noX_ok, wp_ok, ws_nx, ws_rt, fz, dref, fIx, atI0, atI1, atI2, ixN_20, ixN_21, ixN_10, Option.map_some, fGt, fGe, fSub, fI, fI0, fAdd, fInt, fLen, lenD, outsOf, parOnly, notSlt, List.take_succ_cons, List.take_zero, if_true, if_false, Bool.false_eq_true, decide_true, decide_false, Bool.not_true, Bool.not_false, fIs, fIsNot, isNoneD, sTg, gmT, gmCons, gmN, gmNil, mPop, sAug, mExt, sPar, and_true, true_and, List.isEmpty_nil, List.isEmpty_cons, Nat.reduceAdd, Nat.reduceLeDiff, Nat.reduceLT, le_sz, lt_sz, fLt_i, fEq_i, fNe_i, fLe_i, dec0]
                                  have hcd : callD (.tuple [.str "call", y, .tuple (p :: ps)]) = true := by simp [callD, hn]
                                  refine ⟨p :: ps, _, fun q hq => hz.sub hq, ?_, rfl, rfl⟩
                                  show nF _ = _
                                  unfold nF
                                  rw [hcd, Bool.or_true, if_pos rfl, csOf_one (f := stp false "call") fun i => rfl]
                                  rfl
                        · have h3 : ¬ ((r.length + 1 : Nat) : Int) = 3 := by omega
                          simp only [sIf, ws_ofE, wp_bind, wp_noX, mTB, mTr, mNotT, mAndT, mOrT, mAnd, mOr, mNot, mIf, mNeg, mBin, bin2, mChain, mVar, mK, mB, mCall_eq, aNil, aCons, mTup, mLst, mSl, oNo, oSome, mIsi, anyT, isT, truD, sSet, setR, sRet, retR, sNil, sEx, sDvm, sSt, lstAt, putLst, drefs, dats, List.map_cons, List.map_nil, List.cons_append, List.nil_append, List.append_nil, List.replicate, List.getElem?_cons_zero, List.getElem?_cons_succ, List.set_cons_zero, List.set_cons_succ, List.length_cons, List.length_nil, bind_ok, ofO_some, ofE_ok, oS_some, noX_ok, wp_ok, ws_nx, ws_rt, fz, dref, fIx, atI0, atI1, atI2, ixN_20, ixN_21, ixN_10, Option.map_some, fGt, fGe, fSub, fI, fI0, fAdd, fInt, fLen, lenD, outsOf, parOnly, notSlt, List.take_succ_cons, List.take_zero, if_true, if_false, Bool.false_eq_true, decide_true, decide_false, Bool.not_true, Bool.not_false, fIs, fIsNot, isNoneD, sTg, gmT, gmCons, gmN, gmNil, mPop, sAug, mExt, sPar, and_true, true_and, List.isEmpty_nil, List.isEmpty_cons, Nat.reduceAdd, Nat.reduceLeDiff, Nat.reduceLT, le_sz, lt_sz, fLt_i, fEq_i, fNe_i, fLe_i, dec0, if_neg h3, decide_eq_false h3]
                          rw [bad2 (callD_l hl)]
                          first | done | exact ⟨rfl, rfl⟩ | exact rfl
                      · have hlk : List.lookup x [(("yes" : Str), (0 : Int)), ("no", 0), ("not", 1), ("and", 2), ("or", 2), ("same", 2), ("if", 3)] = tbI.lookup x := rfl
                        have first_ : Ws (sIf (mTB (mBin fNe (mDGet [("yes", 0), ("no", 0), ("not", 1), ("and", 2), ("or", 2), ("same", 2), ("if", 3)] (mVar 3) 9) (mB fLen (aCons (mVar 4) (aNil))))) (sRet (mK .none)) (sNil) [.dat (.tuple (.str x :: r)), .dat (.bool by_), .dat (.int (m + 1 : Nat)), .dat (.str x), .dat (.tuple r), .non, .non, .non, .non, .non, .non]) (fun ρ => ∃ P cs, (∀ p ∈ P, Gd p) ∧ ndB by_ (.tuple (.str x :: r)) = some cs ∧ cs = csOf (stp by_ x) 0 P ∧ ρ = [.dat (.tuple (.str x :: r)), .dat (.bool by_), .dat (.int (m + 1 : Nat)), .dat (.str x), .dat (.tuple P), .non, .non, .non, .non, .non, .non]) (fun res ρ => notSlt res = true ∧ res = Res.dat (resD (mG (ndB by_) (m + 1) (.tuple (.str x :: r))))) := by
                          have none_ : wordD (.tuple (.str x :: r)) = false → resD (mG (ndB by_) (m + 1) (.tuple (.str x :: r))) = .none := fun hw => nil_of (by
                            cases by_ with
                            | true =>
                              have hxa : (x == ("at" : Str)) = false := by
                                cases h : (x == ("at" : Str)) with
                                | false => rfl
                                | true => exact absurd ⟨h, rfl⟩ hA
                              show nS _ = _
                              unfold nS
                              rw [hw, letD_x hxa]; rfl
                            | false =>
                              have hxi : (x == ("is" : Str)) = false := by
                                cases h : (x == ("is" : Str)) with
                                | false => rfl
                                | true => exact absurd ⟨h, rfl⟩ hB
                              have hxc : (x == ("call" : Str)) = false := by
                                cases h : (x == ("call" : Str)) with
                                | false => rfl
                                | true => exact absurd ⟨h, rfl⟩ hC
                              show nF _ = _
                              unfold nF
                              rw [hw, leafD_x hxi, callD_x hxc]; rfl)
                          simp only [sIf, ws_ofE, wp_bind, wp_noX, mTB, mTr, mNotT, mAndT, mOrT, mAnd, mOr, mNot, mIf, mNeg, mBin, bin2, mChain, mVar, mK, mB, mCall_eq, aNil, aCons, mTup, mLst, mSl, oNo, oSome, mIsi, anyT, isT, truD, sSet, setR, sRet, retR, sNil, sEx, sDvm, sSt, lstAt, putLst, drefs, dats, List.map_cons, List.map_nil, List.cons_append, List.nil_append, List.append_nil, List.replicate, List.getElem?_cons_zero, List.getElem?_cons_succ, List.set_cons_zero, List.set_cons_succ, List.length_cons, List.length_nil, bind_ok, ofO_some, ofE_ok, oS_some, noX_ok, wp_ok, ws_nx, ws_rt, fz, dref, fIx, atI0, atI1, atI2, ixN_20, ixN_21, ixN_10, Option.map_some, fGt, fGe, fSub, fI, fI0, fAdd, fInt, fLen, lenD, outsOf, parOnly, notSlt, List.take_succ_cons, List.take_zero, if_true, if_false, Bool.false_eq_true, decide_true, decide_false, Bool.not_true, Bool.not_false, fIs, fIsNot, isNoneD, sTg, gmT, gmCons, gmN, gmNil, mPop, sAug, mExt, sPar, and_true, true_and, List.isEmpty_nil, List.isEmpty_cons, Nat.reduceAdd, Nat.reduceLeDiff, Nat.reduceLT, le_sz, lt_sz, fLt_i, fEq_i, fNe_i, fLe_i, dec0, mDGet, hlk]
                          cases hx9 : tbI.lookup x with
                          | none =>
                            have h9 : ¬ ((9 : Int) = (r.length : Int)) := by omega
                            simp only [sIf, ws_ofE, wp_bind, wp_noX, mTB, mTr, mNotT, mAndT, mOrT, mAnd, mOr, mNot, mIf, mNeg, mBin, bin2, mChain, mVar, mK, mB, mCall_eq, aNil, aCons, mTup, mLst, mSl, oNo, oSome, mIsi, anyT, isT, truD, sSet, setR, sRet, retR, sNil, sEx, sDvm, sSt, lstAt, putLst, drefs, dats, List.map_cons, List.map_nil, List.cons_append, List.nil_append, List.append_nil, List.replicate, List.getElem?_cons_zero, List.getElem?_cons_succ, List.set_cons_zero, List.set_cons_succ, List.length_cons, List.length_nil, bind_ok, ofO_some, ofE_ok, oS_some, noX_ok, wp_ok, ws_nx, ws_rt, fz, dref, fIx, atI0, atI1, atI2, ixN_20, ixN_21, ixN_10, Option.map_some, fGt, fGe, fSub, fI, fI0, fAdd, fInt, fLen, lenD, outsOf, parOnly, notSlt, List.take_succ_cons, List.take_zero, if_true, if_false, Bool.false_eq_true, decide_true, decide_false, Bool.not_true, Bool.not_false, fIs, fIsNot, isNoneD, sTg, gmT, gmCons, gmN, gmNil, mPop, sAug, mExt, sPar, and_true, true_and, List.isEmpty_nil, List.isEmpty_cons, Nat.reduceAdd, Nat.reduceLeDiff, Nat.reduceLT, le_sz, lt_sz, fLt_i, fEq_i, fNe_i, fLe_i, dec0, Option.getD_none, decide_eq_false h9]
                            rw [none_ (by simp [wordD, hx9])]
                            first | done | exact ⟨rfl, rfl⟩ | exact rfl
                          | some n =>
                            by_cases hnl : n = (r.length : Int)
                            · simp only [sIf, ws_ofE, wp_bind, wp_noX, mTB, mTr, mNotT, mAndT, mOrT, mAnd, mOr, mNot, mIf, mNeg, mBin, bin2, mChain, mVar, mK, mB, mCall_eq, aNil, aCons, mTup, mLst, mSl, oNo, oSome, mIsi, anyT, isT, truD, sSet, setR, sRet, retR, sNil, sEx, sDvm, sSt, lstAt, putLst, drefs, dats, List.map_cons, List.map_nil, List.cons_append, List.nil_append, List.append_nil, List.replicate, List.getElem?_cons_zero, List.getElem?_cons_succ, List.set_cons_zero, List.set_cons_succ, List.length_cons, List.length_nil, bind_ok, ofO_some, ofE_ok, oS_some, noX_ok, wp_ok, ws_nx, ws_rt, fz, dref, fIx, atI0, atI1, atI2, ixN_20, ixN_21, ixN_10, Option.map_some, fGt, fGe, fSub, fI, fI0, fAdd, fInt, fLen, lenD, outsOf, parOnly, notSlt, List.take_succ_cons, List.take_zero, if_true, if_false, Bool.false_eq_true, decide_true, decide_false, Bool.not_true, Bool.not_false, fIs, fIsNot, isNoneD, sTg, gmT, gmCons, gmN, gmNil, mPop, sAug, mExt, sPar, and_true, true_and, List.isEmpty_nil, List.isEmpty_cons, Nat.reduceAdd, Nat.reduceLeDiff, Nat.reduceLT, le_sz, lt_sz, fLt_i, fEq_i, fNe_i, fLe_i, dec0, Option.getD_some, decide_eq_true hnl]
                              exact ⟨r, _, hr, word_cs hx9 hnl.symm by_, rfl, rfl⟩
                            · simp only [sIf, ws_ofE, wp_bind, wp_noX, mTB, mTr, mNotT, mAndT, mOrT, mAnd, mOr, mNot, mIf, mNeg, mBin, bin2, mChain, mVar, mK, mB, mCall_eq, aNil, aCons, mTup, mLst, mSl, oNo, oSome, mIsi, anyT, isT, truD, sSet, setR, sRet, retR, sNil, sEx, sDvm, sSt, lstAt, putLst, drefs, dats, List.map_cons, List.map_nil, List.cons_append, List.nil_append, List.append_nil, List.replicate, List.getElem?_cons_zero, List.getElem?_cons_succ, List.set_cons_zero, List.set_cons_succ, List.length_cons, List.length_nil, bind_ok, ofO_some, ofE_ok, oS_some, noX_ok, wp_ok, ws_nx, ws_rt, fz, dref, fIx, atI0, atI1, atI2, ixN_20, ixN_21, ixN_10, Option.map_some, fGt, fGe, fSub, fI, fI0, fAdd, fInt, fLen, lenD, outsOf, parOnly, notSlt, List.take_succ_cons, List.take_zero, if_true, if_false, Bool.false_eq_true, decide_true, decide_false, Bool.not_true, Bool.not_false, fIs, fIsNot, isNoneD, sTg, gmT, gmCons, gmN, gmNil, mPop, sAug, mExt, sPar, and_true, true_and, List.isEmpty_nil, List.isEmpty_cons, Nat.reduceAdd, Nat.reduceLeDiff, Nat.reduceLT, le_sz, lt_sz, fLt_i, fEq_i, fNe_i, fLe_i, dec0, Option.getD_some, decide_eq_false hnl]
                              rw [none_ (by simp [wordD, hx9]; omega)]
                              first | done | exact ⟨rfl, rfl⟩ | exact rfl
                        cases hxc : (x == ("call" : Str)) with
                        | false =>
                          simp only [sIf, mAndT, mTB, mBin, bin2, mVar, mK, List.getElem?_cons_zero, List.getElem?_cons_succ, bind_ok, ofO_some, fz, dref, fEq_s hx okw.2.2.2.2.2.2.2.2.2.1, hxc, ofE_ok, Bool.false_eq_true, if_false]
                          exact first_
                        | true =>
                          cases by_ with
                          | false => exact absurd ⟨hxc, rfl⟩ hC
                          | true =>
                            simp only [sIf, mAndT, mNotT, mTr, mTB, mBin, bin2, mVar, mK, List.getElem?_cons_zero, List.getElem?_cons_succ, bind_ok, ofO_some, fz, dref, fEq_s hx okw.2.2.2.2.2.2.2.2.2.1, hxc, ofE_ok, Bool.false_eq_true, if_false, if_true, truD, Bool.not_true]
                            exact first_
                    · obtain ⟨P, cs, hP, hcs, rfl, rfl⟩ := hρ
                      generalize hT : mG (ndB by_) (m + 1) (.tuple (.str x :: r)) = T
                      have hT2 : T = (sumS (mG (ndB by_) m) (csOf (stp by_ x) 0 P)).map fun S => (1 + S.1, max 1 S.2) := by
                        rw [← hT]
                        unfold mG
                        rw [hcs]
                        dsimp only
                        congr 1
                        funext S
                        rw [Nat.add_comm]
                      have em : ((m + 1 : Nat) : Int) - 1 = (m : Int) := by omega
                      refine ws_nxc (ρ1 := [.dat (.tuple (.str x :: r)), .dat (.bool by_), .dat (.int (m + 1 : Nat)), .dat (.str x), .dat (.tuple P), .non, .dat (.int ((1 : Nat) : Int)), .dat (.int ((1 : Nat) : Int)), .non, .non, .non]) (by simp only [sIf, ws_ofE, wp_bind, wp_noX, mTB, mTr, mNotT, mAndT, mOrT, mAnd, mOr, mNot, mIf, mNeg, mBin, bin2, mChain, mVar, mK, mB, mCall_eq, aNil, aCons, mTup, mLst, mSl, oNo, oSome, mIsi, anyT, isT, truD, sSet, setR, sRet, retR, sNil, sEx, sDvm, sSt, lstAt, putLst, drefs, dats, List.map_cons, List.map_nil, List.cons_append, List.nil_append, List.append_nil, List.replicate, List.getElem?_cons_zero, List.getElem?_cons_succ, List.set_cons_zero, List.set_cons_succ, List.length_cons, List.length_nil, bind_ok, ofO_some, ofE_ok, oS_some, noX_ok, wp_ok, ws_nx, ws_rt, fz, dref, fIx, atI0, atI1, atI2, ixN_20, ixN_21, ixN_10, Option.map_some, fGt, fGe, fSub, fI, fI0, fAdd, fInt, fLen, lenD, outsOf, parOnly, notSlt, List.take_succ_cons, List.take_zero, if_true, if_false, Bool.false_eq_true, decide_true, decide_false, Bool.not_true, Bool.not_false, fIs, fIsNot, isNoneD, sTg, gmT, gmCons, gmN, gmNil, mPop, sAug, mExt, sPar, and_true, true_and, List.isEmpty_nil, List.isEmpty_cons, Nat.reduceAdd, Nat.reduceLeDiff, Nat.reduceLT, le_sz, lt_sz, fLt_i, fEq_i, fNe_i, fLe_i, dec0]; exact rfl) ?_
                      refine ws_both (M := fun ρ => ∃ (a b : Nat) (x8 x9 x10 : Sl), T = some (a, b) ∧ ρ = [.dat (.tuple (.str x :: r)), .dat (.bool by_), .dat (.int (m + 1 : Nat)), .dat (.str x), .dat (.tuple P), .non, .dat (.int a), .dat (.int b), x8, x9, x10]) ?_ fun ρ hρ => ?_
                      · simp only [sIf, ws_ofE, wp_bind, wp_noX, mTB, mTr, mNotT, mAndT, mOrT, mAnd, mOr, mNot, mIf, mNeg, mBin, bin2, mChain, mVar, mK, mB, mCall_eq, aNil, aCons, mTup, mLst, mSl, oNo, oSome, mIsi, anyT, isT, truD, sSet, setR, sRet, retR, sNil, sEx, sDvm, sSt, lstAt, putLst, drefs, dats, List.map_cons, List.map_nil, List.cons_append, List.nil_append, List.append_nil, List.replicate, List.getElem?_cons_zero, List.getElem?_cons_succ, List.set_cons_zero, List.set_cons_succ, List.length_cons, List.length_nil, bind_ok, ofO_some, ofE_ok, oS_some, noX_ok, wp_ok, ws_nx, ws_rt, fz, dref, fIx, atI0, atI1, atI2, ixN_20, ixN_21, ixN_10, Option.map_some, fGt, fGe, fSub, fI, fI0, fAdd, fInt, fLen, lenD, outsOf, parOnly, notSlt, List.take_succ_cons, List.take_zero, if_true, if_false, Bool.false_eq_true, decide_true, decide_false, Bool.not_true, Bool.not_false, fIs, fIsNot, isNoneD, sTg, gmT, gmCons, gmN, gmNil, mPop, sAug, mExt, sPar, and_true, true_and, List.isEmpty_nil, List.isEmpty_cons, Nat.reduceAdd, Nat.reduceLeDiff, Nat.reduceLT, le_sz, lt_sz, fLt_i, fEq_i, fNe_i, fLe_i, dec0, sFor, mEn, itemsOf]
                        refine for_wp (fun ds ρ => ∃ (i : Nat) (P' : List D) (a b : Nat) (x8 x9 x10 : Sl), ds = enD i P' ∧ (∀ p ∈ P', Gd p) ∧ T = (sumS (mG (ndB by_) m) (csOf (stp by_ x) i P')).map (fun S => (a + S.1, max b S.2)) ∧ ρ = [.dat (.tuple (.str x :: r)), .dat (.bool by_), .dat (.int (m + 1 : Nat)), .dat (.str x), .dat (.tuple P), .non, .dat (.int a), .dat (.int b), x8, x9, x10]) ?_ ?_ _ _ ⟨0, P, 1, 1, _, _, _, rfl, hP, hT2, rfl⟩
                        · rintro d' ds' ρ ⟨i, P', a, b, x8, x9, x10, he1, hP', hTi, rfl⟩
                          cases P' with
                          | nil => cases he1
                          | cons p ps =>
                            obtain ⟨rfl, rfl⟩ : d' = .tuple [.int i, p] ∧ ds' = enD ((i : Int) + 1) ps := by
                              have : d' :: ds' = .tuple [.int i, p] :: enD ((i : Int) + 1) ps := he1
                              injection this with q1 q2
                              exact ⟨q1, q2⟩
                            refine ⟨_, rfl, ?_⟩
                            have hcall := ih m p (by omega) (hP' p List.mem_cons_self)
                            refine ws_nxc (ρ1 := [.dat (.tuple (.str x :: r)), .dat (.bool by_), .dat (.int (m + 1 : Nat)), .dat (.str x), .dat (.tuple P), .non, .dat (.int a), .dat (.int b), .dat (.int i), .dat p, .dat (resD (mG (ndB by_) m p))]) (by simp only [sIf, ws_ofE, wp_bind, wp_noX, mTB, mTr, mNotT, mAndT, mOrT, mAnd, mOr, mNot, mIf, mNeg, mBin, bin2, mChain, mVar, mK, mB, mCall_eq, aNil, aCons, mTup, mLst, mSl, oNo, oSome, mIsi, anyT, isT, truD, sSet, setR, sRet, retR, sNil, sEx, sDvm, sSt, lstAt, putLst, drefs, dats, List.map_cons, List.map_nil, List.cons_append, List.nil_append, List.append_nil, List.replicate, List.getElem?_cons_zero, List.getElem?_cons_succ, List.set_cons_zero, List.set_cons_succ, List.length_cons, List.length_nil, bind_ok, ofO_some, ofE_ok, oS_some, noX_ok, wp_ok, ws_nx, ws_rt, fz, dref, fIx, atI0, atI1, atI2, ixN_20, ixN_21, ixN_10, Option.map_some, fGt, fGe, fSub, fI, fI0, fAdd, fInt, fLen, lenD, outsOf, parOnly, notSlt, List.take_succ_cons, List.take_zero, if_true, if_false, Bool.false_eq_true, decide_true, decide_false, Bool.not_true, Bool.not_false, fIs, fIsNot, isNoneD, sTg, gmT, gmCons, gmN, gmNil, mPop, sAug, mExt, sPar, and_true, true_and, List.isEmpty_nil, List.isEmpty_cons, Nat.reduceAdd, Nat.reduceLeDiff, Nat.reduceLT, le_sz, lt_sz, fLt_i, fEq_i, fNe_i, fLe_i, dec0, em, ev3 hcall]) ?_
                            have hTi' : T = Option.map (fun S : Nat × Nat => (a + S.1, max b S.2)) (match mG (ndB by_) m p, sumS (mG (ndB by_) m) (csOf (stp by_ x) (i + 1) ps) with
                              | some a, some b => some (a.1 + b.1, max (a.2 + stp by_ x i) b.2)
                              | _, _ => none) := hTi
                            cases hp : mG (ndB by_) m p with
                            | none =>
                              rw [hp] at hTi'
                              have hTn : T = none := hTi'
                              refine ws_rtc ?_
                              simp only [sIf, ws_ofE, wp_bind, wp_noX, mTB, mTr, mNotT, mAndT, mOrT, mAnd, mOr, mNot, mIf, mNeg, mBin, bin2, mChain, mVar, mK, mB, mCall_eq, aNil, aCons, mTup, mLst, mSl, oNo, oSome, mIsi, anyT, isT, truD, sSet, setR, sRet, retR, sNil, sEx, sDvm, sSt, lstAt, putLst, drefs, dats, List.map_cons, List.map_nil, List.cons_append, List.nil_append, List.append_nil, List.replicate, List.getElem?_cons_zero, List.getElem?_cons_succ, List.set_cons_zero, List.set_cons_succ, List.length_cons, List.length_nil, bind_ok, ofO_some, ofE_ok, oS_some, noX_ok, wp_ok, ws_nx, ws_rt, fz, dref, fIx, atI0, atI1, atI2, ixN_20, ixN_21, ixN_10, Option.map_some, fGt, fGe, fSub, fI, fI0, fAdd, fInt, fLen, lenD, outsOf, parOnly, notSlt, List.take_succ_cons, List.take_zero, if_true, if_false, Bool.false_eq_true, decide_true, decide_false, Bool.not_true, Bool.not_false, fIs, fIsNot, isNoneD, sTg, gmT, gmCons, gmN, gmNil, mPop, sAug, mExt, sPar, and_true, true_and, List.isEmpty_nil, List.isEmpty_cons, Nat.reduceAdd, Nat.reduceLeDiff, Nat.reduceLT, le_sz, lt_sz, fLt_i, fEq_i, fNe_i, fLe_i, dec0, resD]
                              rw [hTn]
                              first | done | exact ⟨rfl, rfl⟩ | exact rfl
                            | some u =>
                              rw [hp] at hTi'
                              refine ws_nxc (ρ1 := [.dat (.tuple (.str x :: r)), .dat (.bool by_), .dat (.int (m + 1 : Nat)), .dat (.str x), .dat (.tuple P), .non, .dat (.int a), .dat (.int b), .dat (.int i), .dat p, .dat (resD (some u))]) (by simp only [sIf, ws_ofE, wp_bind, wp_noX, mTB, mTr, mNotT, mAndT, mOrT, mAnd, mOr, mNot, mIf, mNeg, mBin, bin2, mChain, mVar, mK, mB, mCall_eq, aNil, aCons, mTup, mLst, mSl, oNo, oSome, mIsi, anyT, isT, truD, sSet, setR, sRet, retR, sNil, sEx, sDvm, sSt, lstAt, putLst, drefs, dats, List.map_cons, List.map_nil, List.cons_append, List.nil_append, List.append_nil, List.replicate, List.getElem?_cons_zero, List.getElem?_cons_succ, List.set_cons_zero, List.set_cons_succ, List.length_cons, List.length_nil, bind_ok, ofO_some, ofE_ok, oS_some, noX_ok, wp_ok, ws_nx, ws_rt, fz, dref, fIx, atI0, atI1, atI2, ixN_20, ixN_21, ixN_10, Option.map_some, fGt, fGe, fSub, fI, fI0, fAdd, fInt, fLen, lenD, outsOf, parOnly, notSlt, List.take_succ_cons, List.take_zero, if_true, if_false, Bool.false_eq_true, decide_true, decide_false, Bool.not_true, Bool.not_false, fIs, fIsNot, isNoneD, sTg, gmT, gmCons, gmN, gmNil, mPop, sAug, mExt, sPar, and_true, true_and, List.isEmpty_nil, List.isEmpty_cons, Nat.reduceAdd, Nat.reduceLeDiff, Nat.reduceLT, le_sz, lt_sz, fLt_i, fEq_i, fNe_i, fLe_i, dec0, resD]) ?_
                              have fin : ∀ st : Nat, st = stp by_ x i → ∃ (i_1 : Nat) (P'_1 : List D) (a_1 b_1 : Nat) (y8 y9 y10 : Sl), enD ((i : Int) + 1) ps = enD i_1 P'_1 ∧ (∀ q ∈ P'_1, Gd q) ∧ T = (sumS (mG (ndB by_) m) (csOf (stp by_ x) i_1 P'_1)).map (fun S => (a_1 + S.1, max b_1 S.2)) ∧ [.dat (.tuple (.str x :: r)), .dat (.bool by_), .dat (.int (m + 1 : Nat)), .dat (.str x), .dat (.tuple P), .non, .dat (.int ((a + u.1 : Nat) : Int)), .dat (.int ((max b (u.2 + st) : Nat) : Int)), .dat (.int i), .dat p, .dat (resD (some u))] = [Sl.dat (.tuple (.str x :: r)), .dat (.bool by_), .dat (.int (m + 1 : Nat)), .dat (.str x), .dat (.tuple P), .non, .dat (.int a_1), .dat (.int b_1), y8, y9, y10] := fun st hst => by
                                subst hst
                                refine ⟨i + 1, ps, a + u.1, max b (u.2 + stp by_ x i), _, _, _, rfl, fun q hq => hP' q (List.mem_cons_of_mem _ hq), ?_, rfl⟩
                                rw [hTi']
                                cases sumS (mG (ndB by_) m) (csOf (stp by_ x) (i + 1) ps) with
                                | none => rfl
                                | some v =>
                                  show some (a + (u.1 + v.1), max b (max (u.2 + stp by_ x i) v.2)) = some (a + u.1 + v.1, max (max b (u.2 + stp by_ x i)) v.2)
                                  rw [Nat.add_assoc, Nat.max_assoc]
                              have s1 : (u.2 : Int) + 1 = ((u.2 + 1 : Nat) : Int) := rfl
                              have s2 : (u.2 : Int) + 2 = ((u.2 + 2 : Nat) : Int) := rfl
                              have s3 : (a : Int) + (u.1 : Int) = ((a + u.1 : Nat) : Int) := rfl
                              cases by_ with
                              | false =>
                                simp only [sIf, ws_ofE, wp_bind, wp_noX, mTB, mTr, mNotT, mAndT, mOrT, mAnd, mOr, mNot, mIf, mNeg, mBin, bin2, mChain, mVar, mK, mB, mCall_eq, aNil, aCons, mTup, mLst, mSl, oNo, oSome, mIsi, anyT, isT, truD, sSet, setR, sRet, retR, sNil, sEx, sDvm, sSt, lstAt, putLst, drefs, dats, List.map_cons, List.map_nil, List.cons_append, List.nil_append, List.append_nil, List.replicate, List.getElem?_cons_zero, List.getElem?_cons_succ, List.set_cons_zero, List.set_cons_succ, List.length_cons, List.length_nil, bind_ok, ofO_some, ofE_ok, oS_some, noX_ok, wp_ok, ws_nx, ws_rt, fz, dref, fIx, atI0, atI1, atI2, ixN_20, ixN_21, ixN_10, Option.map_some, fGt, fGe, fSub, fI, fI0, fAdd, fInt, fLen, lenD, outsOf, parOnly, notSlt, List.take_succ_cons, List.take_zero, if_true, if_false, Bool.false_eq_true, decide_true, decide_false, Bool.not_true, Bool.not_false, fIs, fIsNot, isNoneD, sTg, gmT, gmCons, gmN, gmNil, mPop, sAug, mExt, sPar, and_true, true_and, List.isEmpty_nil, List.isEmpty_cons, Nat.reduceAdd, Nat.reduceLeDiff, Nat.reduceLT, le_sz, lt_sz, fLt_i, fEq_i, fNe_i, fLe_i, dec0, resD, s1, s2, s3, fMax_n]
                                exact fin 1 rfl
                              | true =>
                                cases hxi : (x == ("if" : Str)) with
                                | false =>
                                  simp only [sIf, ws_ofE, wp_bind, wp_noX, mTB, mTr, mNotT, mAndT, mOrT, mAnd, mOr, mNot, mIf, mNeg, mBin, bin2, mChain, mVar, mK, mB, mCall_eq, aNil, aCons, mTup, mLst, mSl, oNo, oSome, mIsi, anyT, isT, truD, sSet, setR, sRet, retR, sNil, sEx, sDvm, sSt, lstAt, putLst, drefs, dats, List.map_cons, List.map_nil, List.cons_append, List.nil_append, List.append_nil, List.replicate, List.getElem?_cons_zero, List.getElem?_cons_succ, List.set_cons_zero, List.set_cons_succ, List.length_cons, List.length_nil, bind_ok, ofO_some, ofE_ok, oS_some, noX_ok, wp_ok, ws_nx, ws_rt, fz, dref, fIx, atI0, atI1, atI2, ixN_20, ixN_21, ixN_10, Option.map_some, fGt, fGe, fSub, fI, fI0, fAdd, fInt, fLen, lenD, outsOf, parOnly, notSlt, List.take_succ_cons, List.take_zero, if_true, if_false, Bool.false_eq_true, decide_true, decide_false, Bool.not_true, Bool.not_false, fIs, fIsNot, isNoneD, sTg, gmT, gmCons, gmN, gmNil, mPop, sAug, mExt, sPar, and_true, true_and, List.isEmpty_nil, List.isEmpty_cons, Nat.reduceAdd, Nat.reduceLeDiff, Nat.reduceLT, le_sz, lt_sz, fLt_i, fEq_i, fNe_i, fLe_i, dec0, resD, s1, s2, s3, fMax_n, fEq_s hx okw.2.2.2.2.2.2.2.2.1, hxi]
                                  exact fin 1 (by simp [stp, hxi])
                                | true =>
                                  by_cases hi0 : (i : Int) = 0
                                  · simp only [sIf, ws_ofE, wp_bind, wp_noX, mTB, mTr, mNotT, mAndT, mOrT, mAnd, mOr, mNot, mIf, mNeg, mBin, bin2, mChain, mVar, mK, mB, mCall_eq, aNil, aCons, mTup, mLst, mSl, oNo, oSome, mIsi, anyT, isT, truD, sSet, setR, sRet, retR, sNil, sEx, sDvm, sSt, lstAt, putLst, drefs, dats, List.map_cons, List.map_nil, List.cons_append, List.nil_append, List.append_nil, List.replicate, List.getElem?_cons_zero, List.getElem?_cons_succ, List.set_cons_zero, List.set_cons_succ, List.length_cons, List.length_nil, bind_ok, ofO_some, ofE_ok, oS_some, noX_ok, wp_ok, ws_nx, ws_rt, fz, dref, fIx, atI0, atI1, atI2, ixN_20, ixN_21, ixN_10, Option.map_some, fGt, fGe, fSub, fI, fI0, fAdd, fInt, fLen, lenD, outsOf, parOnly, notSlt, List.take_succ_cons, List.take_zero, if_true, if_false, Bool.false_eq_true, decide_true, decide_false, Bool.not_true, Bool.not_false, fIs, fIsNot, isNoneD, sTg, gmT, gmCons, gmN, gmNil, mPop, sAug, mExt, sPar, and_true, true_and, List.isEmpty_nil, List.isEmpty_cons, Nat.reduceAdd, Nat.reduceLeDiff, Nat.reduceLT, le_sz, lt_sz, fLt_i, fEq_i, fNe_i, fLe_i, dec0, resD, s1, s2, s3, fMax_n, fEq_s hx okw.2.2.2.2.2.2.2.2.1, hxi, if_pos hi0, decide_eq_true hi0]
                                    have hi0' : i = 0 := by omega
                                    exact fin 2 (by simp [stp, hxi, hi0'])
                                  · simp only [sIf, ws_ofE, wp_bind, wp_noX, mTB, mTr, mNotT, mAndT, mOrT, mAnd, mOr, mNot, mIf, mNeg, mBin, bin2, mChain, mVar, mK, mB, mCall_eq, aNil, aCons, mTup, mLst, mSl, oNo, oSome, mIsi, anyT, isT, truD, sSet, setR, sRet, retR, sNil, sEx, sDvm, sSt, lstAt, putLst, drefs, dats, List.map_cons, List.map_nil, List.cons_append, List.nil_append, List.append_nil, List.replicate, List.getElem?_cons_zero, List.getElem?_cons_succ, List.set_cons_zero, List.set_cons_succ, List.length_cons, List.length_nil, bind_ok, ofO_some, ofE_ok, oS_some, noX_ok, wp_ok, ws_nx, ws_rt, fz, dref, fIx, atI0, atI1, atI2, ixN_20, ixN_21, ixN_10, Option.map_some, fGt, fGe, fSub, fI, fI0, fAdd, fInt, fLen, lenD, outsOf, parOnly, notSlt, List.take_succ_cons, List.take_zero, if_true, if_false, Bool.false_eq_true, decide_true, decide_false, Bool.not_true, Bool.not_false, fIs, fIsNot, isNoneD, sTg, gmT, gmCons, gmN, gmNil, mPop, sAug, mExt, sPar, and_true, true_and, List.isEmpty_nil, List.isEmpty_cons, Nat.reduceAdd, Nat.reduceLeDiff, Nat.reduceLT, le_sz, lt_sz, fLt_i, fEq_i, fNe_i, fLe_i, dec0, resD, s1, s2, s3, fMax_n, fEq_s hx okw.2.2.2.2.2.2.2.2.1, hxi, if_neg hi0, decide_eq_false hi0]
                                    have hi0' : i ≠ 0 := by omega
                                    exact fin 1 (by simp [stp, hxi, hi0'])
                        · rintro ρ ⟨i, P', a, b, x8, x9, x10, he1, _, hTi, rfl⟩
                          cases P' with
                          | cons p ps => cases he1
                          | nil =>
                            refine ⟨a, b, x8, x9, x10, ?_, rfl⟩
                            rw [hTi]
                            show some (a + 0, max b 0) = _
                            rw [Nat.add_zero, Nat.max_zero]
                      · obtain ⟨a, b, x8, x9, x10, rfl, rfl⟩ := hρ
                        simp only [sIf, ws_ofE, wp_bind, wp_noX, mTB, mTr, mNotT, mAndT, mOrT, mAnd, mOr, mNot, mIf, mNeg, mBin, bin2, mChain, mVar, mK, mB, mCall_eq, aNil, aCons, mTup, mLst, mSl, oNo, oSome, mIsi, anyT, isT, truD, sSet, setR, sRet, retR, sNil, sEx, sDvm, sSt, lstAt, putLst, drefs, dats, List.map_cons, List.map_nil, List.cons_append, List.nil_append, List.append_nil, List.replicate, List.getElem?_cons_zero, List.getElem?_cons_succ, List.set_cons_zero, List.set_cons_succ, List.length_cons, List.length_nil, bind_ok, ofO_some, ofE_ok, oS_some, noX_ok, wp_ok, ws_nx, ws_rt, fz, dref, fIx, atI0, atI1, atI2, ixN_20, ixN_21, ixN_10, Option.map_some, fGt, fGe, fSub, fI, fI0, fAdd, fInt, fLen, lenD, outsOf, parOnly, notSlt, List.take_succ_cons, List.take_zero, if_true, if_false, Bool.false_eq_true, decide_true, decide_false, Bool.not_true, Bool.not_false, fIs, fIsNot, isNoneD, sTg, gmT, gmCons, gmN, gmNil, mPop, sAug, mExt, sPar, and_true, true_and, List.isEmpty_nil, List.isEmpty_cons, Nat.reduceAdd, Nat.reduceLeDiff, Nat.reduceLT, le_sz, lt_sz, fLt_i, fEq_i, fNe_i, fLe_i, dec0, resD]
end Lw
end Vl

set_option Elab.async false
set_option linter.all false
set_option maxRecDepth 100000
namespace Vl
open PySem PySem.Spec PyProof.Rows L2
namespace Lw
theorem lformula_ev {d : D} (h : Gd d) : Ev M__law_is_formula [d] (.bool (isF d)) := by
  unfold Ev M__law_is_formula
  have t : Ev (M__law_measure 43) [d, .bool false, .int 21] (resD (mG nF 21 d)) := measure_ev false 43 21 d (by omega) h
  refine wp_fn ?_
  simp only [sIf, ws_ofE, wp_bind, wp_noX, mTB, mTr, mNotT, mAndT, mOrT, mAnd, mOr, mNot, mIf, mNeg, mBin, bin2, mChain, mVar, mK, mB, mCall_eq, aNil, aCons, mTup, mLst, mSl, oNo, oSome, mIsi, anyT, isT, truD, sSet, setR, sRet, retR, sNil, sEx, sDvm, sSt, lstAt, putLst, drefs, dats, List.map_cons, List.map_nil, List.cons_append, List.nil_append, List.append_nil, List.replicate, List.getElem?_cons_zero, List.getElem?_cons_succ, List.set_cons_zero, List.set_cons_succ, List.length_cons, List.length_nil, bind_ok, ofO_some, ofE_ok, oS_some, noX_ok, wp_ok, ws_nx, ws_rt, fz, dref, fIx, atI0, atI1, atI2, ixN_20, ixN_21, ixN_10, Option.map_some, fGt, fGe, fSub, fI, fI0, fAdd, fInt, fLen, lenD, outsOf, parOnly, notSlt, List.take_succ_cons, List.take_zero, if_true, if_false, Bool.false_eq_true, decide_true, decide_false, Bool.not_true, Bool.not_false, fIs, fIsNot, isNoneD, sTg, gmT, gmCons, gmN, gmNil, mPop, sAug, mExt, sPar, and_true, true_and, List.isEmpty_nil, List.isEmpty_cons, Nat.reduceAdd, Nat.reduceLeDiff, Nat.reduceLT, le_sz, lt_sz, fLt_i, fEq_i, fNe_i, fLe_i, dec0, ws_seq, ev3 t]
  unfold isF
  cases hm : mG nF 21 d with
  | none => simp only [sIf, ws_ofE, wp_bind, wp_noX, mTB, mTr, mNotT, mAndT, mOrT, mAnd, mOr, mNot, mIf, mNeg, mBin, bin2, mChain, mVar, mK, mB, mCall_eq, aNil, aCons, mTup, mLst, mSl, oNo, oSome, mIsi, anyT, isT, truD, sSet, setR, sRet, retR, sNil, sEx, sDvm, sSt, lstAt, putLst, drefs, dats, List.map_cons, List.map_nil, List.cons_append, List.nil_append, List.append_nil, List.replicate, List.getElem?_cons_zero, List.getElem?_cons_succ, List.set_cons_zero, List.set_cons_succ, List.length_cons, List.length_nil, bind_ok, ofO_some, ofE_ok, oS_some, noX_ok, wp_ok, ws_nx, ws_rt, fz, dref, fIx, atI0, atI1, atI2, ixN_20, ixN_21, ixN_10, Option.map_some, fGt, fGe, fSub, fI, fI0, fAdd, fInt, fLen, lenD, outsOf, parOnly, notSlt, List.take_succ_cons, List.take_zero, if_true, if_false, Bool.false_eq_true, decide_true, decide_false, Bool.not_true, Bool.not_false, fIs, fIsNot, isNoneD, sTg, gmT, gmCons, gmN, gmNil, mPop, sAug, mExt, sPar, and_true, true_and, List.isEmpty_nil, List.isEmpty_cons, Nat.reduceAdd, Nat.reduceLeDiff, Nat.reduceLT, le_sz, lt_sz, fLt_i, fEq_i, fNe_i, fLe_i, dec0, resD]
  | some p =>
    have c1 : ((p.1 : Int) ≤ 200) = (p.1 ≤ 200) := propext (by omega)
    have c2 : ((p.2 : Int) ≤ 20) = (p.2 ≤ 20) := propext (by omega)
    by_cases h1 : (p.1 : Int) ≤ 200
    · by_cases h2 : (p.2 : Int) ≤ 20
      · simp only [sIf, ws_ofE, wp_bind, wp_noX, mTB, mTr, mNotT, mAndT, mOrT, mAnd, mOr, mNot, mIf, mNeg, mBin, bin2, mChain, mVar, mK, mB, mCall_eq, aNil, aCons, mTup, mLst, mSl, oNo, oSome, mIsi, anyT, isT, truD, sSet, setR, sRet, retR, sNil, sEx, sDvm, sSt, lstAt, putLst, drefs, dats, List.map_cons, List.map_nil, List.cons_append, List.nil_append, List.append_nil, List.replicate, List.getElem?_cons_zero, List.getElem?_cons_succ, List.set_cons_zero, List.set_cons_succ, List.length_cons, List.length_nil, bind_ok, ofO_some, ofE_ok, oS_some, noX_ok, wp_ok, ws_nx, ws_rt, fz, dref, fIx, atI0, atI1, atI2, ixN_20, ixN_21, ixN_10, Option.map_some, fGt, fGe, fSub, fI, fI0, fAdd, fInt, fLen, lenD, outsOf, parOnly, notSlt, List.take_succ_cons, List.take_zero, if_true, if_false, Bool.false_eq_true, decide_true, decide_false, Bool.not_true, Bool.not_false, fIs, fIsNot, isNoneD, sTg, gmT, gmCons, gmN, gmNil, mPop, sAug, mExt, sPar, and_true, true_and, List.isEmpty_nil, List.isEmpty_cons, Nat.reduceAdd, Nat.reduceLeDiff, Nat.reduceLT, le_sz, lt_sz, fLt_i, fEq_i, fNe_i, fLe_i, dec0, resD, decide_eq_true h1, decide_eq_true h2, if_pos h1]
        rw [decide_eq_true (c1 ▸ h1), decide_eq_true (c2 ▸ h2)]; rfl
      · simp only [sIf, ws_ofE, wp_bind, wp_noX, mTB, mTr, mNotT, mAndT, mOrT, mAnd, mOr, mNot, mIf, mNeg, mBin, bin2, mChain, mVar, mK, mB, mCall_eq, aNil, aCons, mTup, mLst, mSl, oNo, oSome, mIsi, anyT, isT, truD, sSet, setR, sRet, retR, sNil, sEx, sDvm, sSt, lstAt, putLst, drefs, dats, List.map_cons, List.map_nil, List.cons_append, List.nil_append, List.append_nil, List.replicate, List.getElem?_cons_zero, List.getElem?_cons_succ, List.set_cons_zero, List.set_cons_succ, List.length_cons, List.length_nil, bind_ok, ofO_some, ofE_ok, oS_some, noX_ok, wp_ok, ws_nx, ws_rt, fz, dref, fIx, atI0, atI1, atI2, ixN_20, ixN_21, ixN_10, Option.map_some, fGt, fGe, fSub, fI, fI0, fAdd, fInt, fLen, lenD, outsOf, parOnly, notSlt, List.take_succ_cons, List.take_zero, if_true, if_false, Bool.false_eq_true, decide_true, decide_false, Bool.not_true, Bool.not_false, fIs, fIsNot, isNoneD, sTg, gmT, gmCons, gmN, gmNil, mPop, sAug, mExt, sPar, and_true, true_and, List.isEmpty_nil, List.isEmpty_cons, Nat.reduceAdd, Nat.reduceLeDiff, Nat.reduceLT, le_sz, lt_sz, fLt_i, fEq_i, fNe_i, fLe_i, dec0, resD, decide_eq_true h1, decide_eq_false h2, if_pos h1]
        rw [decide_eq_false (p := p.2 ≤ 20) (fun e => h2 (by omega)), Bool.and_false]
    · simp only [sIf, ws_ofE, wp_bind, wp_noX, mTB, mTr, mNotT, mAndT, mOrT, mAnd, mOr, mNot, mIf, mNeg, mBin, bin2, mChain, mVar, mK, mB, mCall_eq, aNil, aCons, mTup, mLst, mSl, oNo, oSome, mIsi, anyT, isT, truD, sSet, setR, sRet, retR, sNil, sEx, sDvm, sSt, lstAt, putLst, drefs, dats, List.map_cons, List.map_nil, List.cons_append, List.nil_append, List.append_nil, List.replicate, List.getElem?_cons_zero, List.getElem?_cons_succ, List.set_cons_zero, List.set_cons_succ, List.length_cons, List.length_nil, bind_ok, ofO_some, ofE_ok, oS_some, noX_ok, wp_ok, ws_nx, ws_rt, fz, dref, fIx, atI0, atI1, atI2, ixN_20, ixN_21, ixN_10, Option.map_some, fGt, fGe, fSub, fI, fI0, fAdd, fInt, fLen, lenD, outsOf, parOnly, notSlt, List.take_succ_cons, List.take_zero, if_true, if_false, Bool.false_eq_true, decide_true, decide_false, Bool.not_true, Bool.not_false, fIs, fIsNot, isNoneD, sTg, gmT, gmCons, gmN, gmNil, mPop, sAug, mExt, sPar, and_true, true_and, List.isEmpty_nil, List.isEmpty_cons, Nat.reduceAdd, Nat.reduceLeDiff, Nat.reduceLT, le_sz, lt_sz, fLt_i, fEq_i, fNe_i, fLe_i, dec0, resD, decide_eq_false h1, if_neg h1]
      rw [decide_eq_false (p := p.1 ≤ 200) (fun e => h1 (by omega)), Bool.false_and]
theorem lsimple_ev {d : D} (h : Gd d) : Ev M__law_is_simple [d] (.bool (isS d)) := by
  unfold Ev M__law_is_simple
  have t : Ev (M__law_measure 43) [d, .bool true, .int 41] (resD (mG nS 41 d)) := measure_ev true 43 41 d (by omega) h
  refine wp_fn ?_
  simp only [sIf, ws_ofE, wp_bind, wp_noX, mTB, mTr, mNotT, mAndT, mOrT, mAnd, mOr, mNot, mIf, mNeg, mBin, bin2, mChain, mVar, mK, mB, mCall_eq, aNil, aCons, mTup, mLst, mSl, oNo, oSome, mIsi, anyT, isT, truD, sSet, setR, sRet, retR, sNil, sEx, sDvm, sSt, lstAt, putLst, drefs, dats, List.map_cons, List.map_nil, List.cons_append, List.nil_append, List.append_nil, List.replicate, List.getElem?_cons_zero, List.getElem?_cons_succ, List.set_cons_zero, List.set_cons_succ, List.length_cons, List.length_nil, bind_ok, ofO_some, ofE_ok, oS_some, noX_ok, wp_ok, ws_nx, ws_rt, fz, dref, fIx, atI0, atI1, atI2, ixN_20, ixN_21, ixN_10, Option.map_some, fGt, fGe, fSub, fI, fI0, fAdd, fInt, fLen, lenD, outsOf, parOnly, notSlt, List.take_succ_cons, List.take_zero, if_true, if_false, Bool.false_eq_true, decide_true, decide_false, Bool.not_true, Bool.not_false, fIs, fIsNot, isNoneD, sTg, gmT, gmCons, gmN, gmNil, mPop, sAug, mExt, sPar, and_true, true_and, List.isEmpty_nil, List.isEmpty_cons, Nat.reduceAdd, Nat.reduceLeDiff, Nat.reduceLT, le_sz, lt_sz, fLt_i, fEq_i, fNe_i, fLe_i, dec0, ws_seq, ev3 t]
  unfold isS
  cases hm : mG nS 41 d with
  | none => simp only [sIf, ws_ofE, wp_bind, wp_noX, mTB, mTr, mNotT, mAndT, mOrT, mAnd, mOr, mNot, mIf, mNeg, mBin, bin2, mChain, mVar, mK, mB, mCall_eq, aNil, aCons, mTup, mLst, mSl, oNo, oSome, mIsi, anyT, isT, truD, sSet, setR, sRet, retR, sNil, sEx, sDvm, sSt, lstAt, putLst, drefs, dats, List.map_cons, List.map_nil, List.cons_append, List.nil_append, List.append_nil, List.replicate, List.getElem?_cons_zero, List.getElem?_cons_succ, List.set_cons_zero, List.set_cons_succ, List.length_cons, List.length_nil, bind_ok, ofO_some, ofE_ok, oS_some, noX_ok, wp_ok, ws_nx, ws_rt, fz, dref, fIx, atI0, atI1, atI2, ixN_20, ixN_21, ixN_10, Option.map_some, fGt, fGe, fSub, fI, fI0, fAdd, fInt, fLen, lenD, outsOf, parOnly, notSlt, List.take_succ_cons, List.take_zero, if_true, if_false, Bool.false_eq_true, decide_true, decide_false, Bool.not_true, Bool.not_false, fIs, fIsNot, isNoneD, sTg, gmT, gmCons, gmN, gmNil, mPop, sAug, mExt, sPar, and_true, true_and, List.isEmpty_nil, List.isEmpty_cons, Nat.reduceAdd, Nat.reduceLeDiff, Nat.reduceLT, le_sz, lt_sz, fLt_i, fEq_i, fNe_i, fLe_i, dec0, resD]
  | some p =>
    have c1 : ((p.1 : Int) ≤ 400) = (p.1 ≤ 400) := propext (by omega)
    have c2 : ((p.2 : Int) ≤ 40) = (p.2 ≤ 40) := propext (by omega)
    by_cases h1 : (p.1 : Int) ≤ 400
    · by_cases h2 : (p.2 : Int) ≤ 40
      · simp only [sIf, ws_ofE, wp_bind, wp_noX, mTB, mTr, mNotT, mAndT, mOrT, mAnd, mOr, mNot, mIf, mNeg, mBin, bin2, mChain, mVar, mK, mB, mCall_eq, aNil, aCons, mTup, mLst, mSl, oNo, oSome, mIsi, anyT, isT, truD, sSet, setR, sRet, retR, sNil, sEx, sDvm, sSt, lstAt, putLst, drefs, dats, List.map_cons, List.map_nil, List.cons_append, List.nil_append, List.append_nil, List.replicate, List.getElem?_cons_zero, List.getElem?_cons_succ, List.set_cons_zero, List.set_cons_succ, List.length_cons, List.length_nil, bind_ok, ofO_some, ofE_ok, oS_some, noX_ok, wp_ok, ws_nx, ws_rt, fz, dref, fIx, atI0, atI1, atI2, ixN_20, ixN_21, ixN_10, Option.map_some, fGt, fGe, fSub, fI, fI0, fAdd, fInt, fLen, lenD, outsOf, parOnly, notSlt, List.take_succ_cons, List.take_zero, if_true, if_false, Bool.false_eq_true, decide_true, decide_false, Bool.not_true, Bool.not_false, fIs, fIsNot, isNoneD, sTg, gmT, gmCons, gmN, gmNil, mPop, sAug, mExt, sPar, and_true, true_and, List.isEmpty_nil, List.isEmpty_cons, Nat.reduceAdd, Nat.reduceLeDiff, Nat.reduceLT, le_sz, lt_sz, fLt_i, fEq_i, fNe_i, fLe_i, dec0, resD, decide_eq_true h1, decide_eq_true h2, if_pos h1]
        rw [decide_eq_true (c1 ▸ h1), decide_eq_true (c2 ▸ h2)]; rfl
      · simp only [sIf, ws_ofE, wp_bind, wp_noX, mTB, mTr, mNotT, mAndT, mOrT, mAnd, mOr, mNot, mIf, mNeg, mBin, bin2, mChain, mVar, mK, mB, mCall_eq, aNil, aCons, mTup, mLst, mSl, oNo, oSome, mIsi, anyT, isT, truD, sSet, setR, sRet, retR, sNil, sEx, sDvm, sSt, lstAt, putLst, drefs, dats, List.map_cons, List.map_nil, List.cons_append, List.nil_append, List.append_nil, List.replicate, List.getElem?_cons_zero, List.getElem?_cons_succ, List.set_cons_zero, List.set_cons_succ, List.length_cons, List.length_nil, bind_ok, ofO_some, ofE_ok, oS_some, noX_ok, wp_ok, ws_nx, ws_rt, fz, dref, fIx, atI0, atI1, atI2, ixN_20, ixN_21, ixN_10, Option.map_some, fGt, fGe, fSub, fI, fI0, fAdd, fInt, fLen, lenD, outsOf, parOnly, notSlt, List.take_succ_cons, List.take_zero, if_true, if_false, Bool.false_eq_true, decide_true, decide_false, Bool.not_true, Bool.not_false, fIs, fIsNot, isNoneD, sTg, gmT, gmCons, gmN, gmNil, mPop, sAug, mExt, sPar, and_true, true_and, List.isEmpty_nil, List.isEmpty_cons, Nat.reduceAdd, Nat.reduceLeDiff, Nat.reduceLT, le_sz, lt_sz, fLt_i, fEq_i, fNe_i, fLe_i, dec0, resD, decide_eq_true h1, decide_eq_false h2, if_pos h1]
        rw [decide_eq_false (p := p.2 ≤ 40) (fun e => h2 (by omega)), Bool.and_false]
    · simp only [sIf, ws_ofE, wp_bind, wp_noX, mTB, mTr, mNotT, mAndT, mOrT, mAnd, mOr, mNot, mIf, mNeg, mBin, bin2, mChain, mVar, mK, mB, mCall_eq, aNil, aCons, mTup, mLst, mSl, oNo, oSome, mIsi, anyT, isT, truD, sSet, setR, sRet, retR, sNil, sEx, sDvm, sSt, lstAt, putLst, drefs, dats, List.map_cons, List.map_nil, List.cons_append, List.nil_append, List.append_nil, List.replicate, List.getElem?_cons_zero, List.getElem?_cons_succ, List.set_cons_zero, List.set_cons_succ, List.length_cons, List.length_nil, bind_ok, ofO_some, ofE_ok, oS_some, noX_ok, wp_ok, ws_nx, ws_rt, fz, dref, fIx, atI0, atI1, atI2, ixN_20, ixN_21, ixN_10, Option.map_some, fGt, fGe, fSub, fI, fI0, fAdd, fInt, fLen, lenD, outsOf, parOnly, notSlt, List.take_succ_cons, List.take_zero, if_true, if_false, Bool.false_eq_true, decide_true, decide_false, Bool.not_true, Bool.not_false, fIs, fIsNot, isNoneD, sTg, gmT, gmCons, gmN, gmNil, mPop, sAug, mExt, sPar, and_true, true_and, List.isEmpty_nil, List.isEmpty_cons, Nat.reduceAdd, Nat.reduceLeDiff, Nat.reduceLT, le_sz, lt_sz, fLt_i, fEq_i, fNe_i, fLe_i, dec0, resD, decide_eq_false h1, if_neg h1]
      rw [decide_eq_false (p := p.1 ≤ 400) (fun e => h1 (by omega)), Bool.false_and]
theorem fNe_s {s : Str} (h : PyData.strOk s = true) : fNe (.str s) (.str s) = some (.dat (.bool false)) := by
  have hs : SeqAt.shaped (.str s) = true := by
    unfold SeqAt.shaped
    rw [Bool.and_eq_true, decide_eq_true_eq]
    exact ⟨by simp only [PyData.canLay0]; exact h, by simp [PyData.depth]⟩
  unfold fNe
  rw [if_pos ⟨hs, hs⟩]
  simp [PyData.eqv]
theorem gd_three (a b c : Bool) : Gd (.list [.bool a, .bool b, .bool c]) := by
  cases a <;> cases b <;> cases c <;> exact ⟨by decide, by decide, by decide⟩
theorem fRepr_g {d : D} (h : Gd d) : fRepr [d] = some (.dat (.str d.shown)) := if_pos h.repr
theorem right_ev {ds : List D} (h : ∀ d ∈ ds, Gd d) : Ev M__law_are_right [.list ds] (.bool true) := by
  unfold Ev M__law_are_right
  refine wp_fn (ws_cut (M := fun _ => True) ?_ fun ρ _ => ?_)
  · simp only [sIf, ws_ofE, wp_bind, wp_noX, mTB, mTr, mNotT, mAndT, mOrT, mAnd, mOr, mNot, mIf, mNeg, mBin, bin2, mChain, mVar, mK, mB, mCall_eq, aNil, aCons, mTup, mLst, mSl, oNo, oSome, mIsi, anyT, isT, truD, sSet, setR, sRet, retR, sNil, sEx, sDvm, sSt, lstAt, putLst, drefs, dats, List.map_cons, List.map_nil, List.cons_append, List.nil_append, List.append_nil, List.replicate, List.getElem?_cons_zero, List.getElem?_cons_succ, List.set_cons_zero, List.set_cons_succ, List.length_cons, List.length_nil, bind_ok, ofO_some, ofE_ok, oS_some, noX_ok, wp_ok, ws_nx, ws_rt, fz, dref, fIx, atI0, atI1, atI2, ixN_20, ixN_21, ixN_10, Option.map_some, fGt, fGe, fSub, fI, fI0, fAdd, fInt, fLen, lenD, outsOf, parOnly, notSlt, List.take_succ_cons, List.take_zero, if_true, if_false, Bool.false_eq_true, decide_true, decide_false, Bool.not_true, Bool.not_false, fIs, fIsNot, isNoneD, sTg, gmT, gmCons, gmN, gmNil, mPop, sAug, mExt, sPar, and_true, true_and, List.isEmpty_nil, List.isEmpty_cons, Nat.reduceAdd, Nat.reduceLeDiff, Nat.reduceLT, le_sz, lt_sz, fLt_i, fEq_i, fNe_i, fLe_i, dec0, sFor, mSeq, itemsOf]
    refine for_wp (fun es ρ => (∀ d ∈ es, Gd d) ∧ ∃ x y z, ρ = [.dat (.list ds), x, y, z]) ?_ (fun _ _ => trivial) _ _ ⟨h, _, _, _, rfl⟩
    rintro d es ρ ⟨hes, x, y, z, rfl⟩
    have g : Gd d := hes d List.mem_cons_self
    have gl := gd_three (isF d) (isS d) (nameD d)
    refine ⟨_, rfl, ?_⟩
    have l1 := shown_lay d g.1
    have l2 := shown_lay _ gl.1
    refine ws_nxc (ρ1 := [.dat (.list ds), .dat d, .own (.lst [.bool (isF d), .bool (isS d), .bool (nameD d)]), .dat (.str d.shown)]) ?_ ?_
    · simp only [sIf, ws_ofE, wp_bind, wp_noX, mTB, mTr, mNotT, mAndT, mOrT, mAnd, mOr, mNot, mIf, mNeg, mBin, bin2, mChain, mVar, mK, mB, mCall_eq, aNil, aCons, mTup, mLst, mSl, oNo, oSome, mIsi, anyT, isT, truD, sSet, setR, sRet, retR, sNil, sEx, sDvm, sSt, lstAt, putLst, drefs, dats, List.map_cons, List.map_nil, List.cons_append, List.nil_append, List.append_nil, List.replicate, List.getElem?_cons_zero, List.getElem?_cons_succ, List.set_cons_zero, List.set_cons_succ, List.length_cons, List.length_nil, bind_ok, ofO_some, ofE_ok, oS_some, noX_ok, wp_ok, ws_nx, ws_rt, fz, dref, fIx, atI0, atI1, atI2, ixN_20, ixN_21, ixN_10, Option.map_some, fGt, fGe, fSub, fI, fI0, fAdd, fInt, fLen, lenD, outsOf, parOnly, notSlt, List.take_succ_cons, List.take_zero, if_true, if_false, Bool.false_eq_true, decide_true, decide_false, Bool.not_true, Bool.not_false, fIs, fIsNot, isNoneD, sTg, gmT, gmCons, gmN, gmNil, mPop, sAug, mExt, sPar, and_true, true_and, List.isEmpty_nil, List.isEmpty_cons, Nat.reduceAdd, Nat.reduceLeDiff, Nat.reduceLT, le_sz, lt_sz, fLt_i, fEq_i, fNe_i, fLe_i, dec0, ev1 (lformula_ev g), ev1 (lsimple_ev g), ev1 (lname_ev g), fRepr_g g]
    · refine ws_nxc (ρ1 := [.dat (.list ds), .dat d, .own (.lst [.bool (isF d), .bool (isS d), .bool (nameD d)]), .dat (.str d.shown)]) ?_ ?_
      · simp only [sIf, ws_ofE, wp_bind, wp_noX, mTB, mTr, mNotT, mAndT, mOrT, mAnd, mOr, mNot, mIf, mNeg, mBin, bin2, mChain, mVar, mK, mB, mCall_eq, aNil, aCons, mTup, mLst, mSl, oNo, oSome, mIsi, anyT, isT, truD, sSet, setR, sRet, retR, sNil, sEx, sDvm, sSt, lstAt, putLst, drefs, dats, List.map_cons, List.map_nil, List.cons_append, List.nil_append, List.append_nil, List.replicate, List.getElem?_cons_zero, List.getElem?_cons_succ, List.set_cons_zero, List.set_cons_succ, List.length_cons, List.length_nil, bind_ok, ofO_some, ofE_ok, oS_some, noX_ok, wp_ok, ws_nx, ws_rt, fz, dref, fIx, atI0, atI1, atI2, ixN_20, ixN_21, ixN_10, Option.map_some, fGt, fGe, fSub, fI, fI0, fAdd, fInt, fLen, lenD, outsOf, parOnly, notSlt, List.take_succ_cons, List.take_zero, if_true, if_false, Bool.false_eq_true, decide_true, decide_false, Bool.not_true, Bool.not_false, fIs, fIsNot, isNoneD, sTg, gmT, gmCons, gmN, gmNil, mPop, sAug, mExt, sPar, and_true, true_and, List.isEmpty_nil, List.isEmpty_cons, Nat.reduceAdd, Nat.reduceLeDiff, Nat.reduceLT, le_sz, lt_sz, fLt_i, fEq_i, fNe_i, fLe_i, dec0, ev1 (formula_ev g), ev1 (simple_ev g), ev1 (name_ev g), fRepr_g g, fRepr_g gl, fNe_s l1, fNe_s l2]
      · simp only [sIf, ws_ofE, wp_bind, wp_noX, mTB, mTr, mNotT, mAndT, mOrT, mAnd, mOr, mNot, mIf, mNeg, mBin, bin2, mChain, mVar, mK, mB, mCall_eq, aNil, aCons, mTup, mLst, mSl, oNo, oSome, mIsi, anyT, isT, truD, sSet, setR, sRet, retR, sNil, sEx, sDvm, sSt, lstAt, putLst, drefs, dats, List.map_cons, List.map_nil, List.cons_append, List.nil_append, List.append_nil, List.replicate, List.getElem?_cons_zero, List.getElem?_cons_succ, List.set_cons_zero, List.set_cons_succ, List.length_cons, List.length_nil, bind_ok, ofO_some, ofE_ok, oS_some, noX_ok, wp_ok, ws_nx, ws_rt, fz, dref, fIx, atI0, atI1, atI2, ixN_20, ixN_21, ixN_10, Option.map_some, fGt, fGe, fSub, fI, fI0, fAdd, fInt, fLen, lenD, outsOf, parOnly, notSlt, List.take_succ_cons, List.take_zero, if_true, if_false, Bool.false_eq_true, decide_true, decide_false, Bool.not_true, Bool.not_false, fIs, fIsNot, isNoneD, sTg, gmT, gmCons, gmN, gmNil, mPop, sAug, mExt, sPar, and_true, true_and, List.isEmpty_nil, List.isEmpty_cons, Nat.reduceAdd, Nat.reduceLeDiff, Nat.reduceLT, le_sz, lt_sz, fLt_i, fEq_i, fNe_i, fLe_i, dec0, ev1 (formula_ev g), ev1 (simple_ev g), ev1 (name_ev g), fRepr_g g, fRepr_g gl, fNe_s l1, fNe_s l2]
        exact ⟨fun d hd => hes d (List.mem_cons_of_mem _ hd), _, _, _, rfl⟩
  · simp only [sIf, ws_ofE, wp_bind, wp_noX, mTB, mTr, mNotT, mAndT, mOrT, mAnd, mOr, mNot, mIf, mNeg, mBin, bin2, mChain, mVar, mK, mB, mCall_eq, aNil, aCons, mTup, mLst, mSl, oNo, oSome, mIsi, anyT, isT, truD, sSet, setR, sRet, retR, sNil, sEx, sDvm, sSt, lstAt, putLst, drefs, dats, List.map_cons, List.map_nil, List.cons_append, List.nil_append, List.append_nil, List.replicate, List.getElem?_cons_zero, List.getElem?_cons_succ, List.set_cons_zero, List.set_cons_succ, List.length_cons, List.length_nil, bind_ok, ofO_some, ofE_ok, oS_some, noX_ok, wp_ok, ws_nx, ws_rt, fz, dref, fIx, atI0, atI1, atI2, ixN_20, ixN_21, ixN_10, Option.map_some, fGt, fGe, fSub, fI, fI0, fAdd, fInt, fLen, lenD, outsOf, parOnly, notSlt, List.take_succ_cons, List.take_zero, if_true, if_false, Bool.false_eq_true, decide_true, decide_false, Bool.not_true, Bool.not_false, fIs, fIsNot, isNoneD, sTg, gmT, gmCons, gmN, gmNil, mPop, sAug, mExt, sPar, and_true, true_and, List.isEmpty_nil, List.isEmpty_cons, Nat.reduceAdd, Nat.reduceLeDiff, Nat.reduceLT, le_sz, lt_sz, fLt_i, fEq_i, fNe_i, fLe_i, dec0]
theorem ten18 : fPow (.int 10) (.int 18) = some (.dat (.int 1000000000000000000)) := by
  show (if (decide ((0:Int) ≤ 18 ∧ (18:Int) ≤ 1000000 ∧ (10:Int).natAbs < 18446744073709551616)) = true then some (Res.dat (.int (10 ^ (18:Int).toNat))) else none) = _
  rw [if_pos (by decide)]; rfl
theorem ten25 : fPow (.int 10) (.int 25) = some (.dat (.int 10000000000000000000000000)) := by
  show (if (decide ((0:Int) ≤ 25 ∧ (25:Int) ≤ 1000000 ∧ (10:Int).natAbs < 18446744073709551616)) = true then some (Res.dat (.int (10 ^ (25:Int).toNat))) else none) = _
  rw [if_pos (by decide)]; rfl
theorem fMax_i (a b : Int) : fMax [.int a, .int b] = some (.dat (.int (if b > a then b else a))) := rfl
theorem fMin_i (a b : Int) : fMin [.int a, .int b] = some (.dat (.int (if b < a then b else a))) := rfl
theorem scr_len (ns : List Int) : (scr ns).length = ns.length := by unfold scr; rw [List.length_map]
theorem pot_ok (ns : List Int) (k : Nat) (hk : k ≤ 5) : Wp (M__law_pot [.dat (.dict (scr ns)), .dat (.int k)]) fun r _ => ∃ a s, PotOk s ∧ r = .frs (.lst [.int a, .int s]) := by
  unfold M__law_pot
  refine wp_fn (ws_cut (M := fun ρ => ∃ c : Int, ρ = [.dat (.dict (scr ns)), .dat (.int k), .dat (.int c)]) ?_ fun ρ hρ => ?_)
  · by_cases hl : (k : Int) < ((scr ns).length : Int)
    · obtain ⟨n, e, _⟩ := atI_in (ds := ns) (x := (k : Int)) (by omega) (by rw [scr_len] at hl; exact hl)
      simp only [sIf, ws_ofE, wp_bind, wp_noX, mTB, mTr, mNotT, mAndT, mOrT, mAnd, mOr, mNot, mIf, mNeg, mBin, bin2, mChain, mVar, mK, mB, mCall_eq, aNil, aCons, mTup, mLst, mSl, oNo, oSome, mIsi, anyT, isT, truD, sSet, setR, sRet, retR, sNil, sEx, sDvm, sSt, lstAt, putLst, drefs, dats, List.map_cons, List.map_nil, List.cons_append, List.nil_append, List.append_nil, List.replicate, List.getElem?_cons_zero, List.getElem?_cons_succ, List.set_cons_zero, List.set_cons_succ, List.length_cons, List.length_nil, bind_ok, ofO_some, ofE_ok, oS_some, noX_ok, wp_ok, ws_nx, ws_rt, fz, dref, fIx, atI0, atI1, atI2, ixN_20, ixN_21, ixN_10, Option.map_some, fGt, fGe, fSub, fI, fI0, fAdd, fInt, fLen, lenD, outsOf, parOnly, notSlt, List.take_succ_cons, List.take_zero, if_true, if_false, Bool.false_eq_true, decide_true, decide_false, Bool.not_true, Bool.not_false, fIs, fIsNot, isNoneD, sTg, gmT, gmCons, gmN, gmNil, mPop, sAug, mExt, sPar, and_true, true_and, List.isEmpty_nil, List.isEmpty_cons, Nat.reduceAdd, Nat.reduceLeDiff, Nat.reduceLT, le_sz, lt_sz, fLt_i, fEq_i, fNe_i, fLe_i, dec0, if_pos hl, scrOf_scr, e, fAbs]
      exact ⟨_, rfl⟩
    · simp only [sIf, ws_ofE, wp_bind, wp_noX, mTB, mTr, mNotT, mAndT, mOrT, mAnd, mOr, mNot, mIf, mNeg, mBin, bin2, mChain, mVar, mK, mB, mCall_eq, aNil, aCons, mTup, mLst, mSl, oNo, oSome, mIsi, anyT, isT, truD, sSet, setR, sRet, retR, sNil, sEx, sDvm, sSt, lstAt, putLst, drefs, dats, List.map_cons, List.map_nil, List.cons_append, List.nil_append, List.append_nil, List.replicate, List.getElem?_cons_zero, List.getElem?_cons_succ, List.set_cons_zero, List.set_cons_succ, List.length_cons, List.length_nil, bind_ok, ofO_some, ofE_ok, oS_some, noX_ok, wp_ok, ws_nx, ws_rt, fz, dref, fIx, atI0, atI1, atI2, ixN_20, ixN_21, ixN_10, Option.map_some, fGt, fGe, fSub, fI, fI0, fAdd, fInt, fLen, lenD, outsOf, parOnly, notSlt, List.take_succ_cons, List.take_zero, if_true, if_false, Bool.false_eq_true, decide_true, decide_false, Bool.not_true, Bool.not_false, fIs, fIsNot, isNoneD, sTg, gmT, gmCons, gmN, gmNil, mPop, sAug, mExt, sPar, and_true, true_and, List.isEmpty_nil, List.isEmpty_cons, Nat.reduceAdd, Nat.reduceLeDiff, Nat.reduceLT, le_sz, lt_sz, fLt_i, fEq_i, fNe_i, fLe_i, dec0, if_neg hl, fMul_l (i := 3767) (j := (k : Int)) (by decide)]
      exact ⟨_, rfl⟩
  · obtain ⟨c, rfl⟩ := hρ
    simp only [sIf, ws_ofE, wp_bind, wp_noX, mTB, mTr, mNotT, mAndT, mOrT, mAnd, mOr, mNot, mIf, mNeg, mBin, bin2, mChain, mVar, mK, mB, mCall_eq, aNil, aCons, mTup, mLst, mSl, oNo, oSome, mIsi, anyT, isT, truD, sSet, setR, sRet, retR, sNil, sEx, sDvm, sSt, lstAt, putLst, drefs, dats, List.map_cons, List.map_nil, List.cons_append, List.nil_append, List.append_nil, List.replicate, List.getElem?_cons_zero, List.getElem?_cons_succ, List.set_cons_zero, List.set_cons_succ, List.length_cons, List.length_nil, bind_ok, ofO_some, ofE_ok, oS_some, noX_ok, wp_ok, ws_nx, ws_rt, fz, dref, fIx, atI0, atI1, atI2, ixN_20, ixN_21, ixN_10, Option.map_some, fGt, fGe, fSub, fI, fI0, fAdd, fInt, fLen, lenD, outsOf, parOnly, notSlt, List.take_succ_cons, List.take_zero, if_true, if_false, Bool.false_eq_true, decide_true, decide_false, Bool.not_true, Bool.not_false, fIs, fIsNot, isNoneD, sTg, gmT, gmCons, gmN, gmNil, mPop, sAug, mExt, sPar, and_true, true_and, List.isEmpty_nil, List.isEmpty_cons, Nat.reduceAdd, Nat.reduceLeDiff, Nat.reduceLT, le_sz, lt_sz, fLt_i, fEq_i, fNe_i, fLe_i, dec0, ten18, fMax_i, fMod_p (i := c) (j := 2147483549) (by decide), fMul_r (i := c % 2147483549) (j := 40692) (by decide), fMul_l (i := 3767) (j := (k : Int)) (by decide)]
    rw [fMod_p (by decide)]
    simp only [sIf, ws_ofE, wp_bind, wp_noX, mTB, mTr, mNotT, mAndT, mOrT, mAnd, mOr, mNot, mIf, mNeg, mBin, bin2, mChain, mVar, mK, mB, mCall_eq, aNil, aCons, mTup, mLst, mSl, oNo, oSome, mIsi, anyT, isT, truD, sSet, setR, sRet, retR, sNil, sEx, sDvm, sSt, lstAt, putLst, drefs, dats, List.map_cons, List.map_nil, List.cons_append, List.nil_append, List.append_nil, List.replicate, List.getElem?_cons_zero, List.getElem?_cons_succ, List.set_cons_zero, List.set_cons_succ, List.length_cons, List.length_nil, bind_ok, ofO_some, ofE_ok, oS_some, noX_ok, wp_ok, ws_nx, ws_rt, fz, dref, fIx, atI0, atI1, atI2, ixN_20, ixN_21, ixN_10, Option.map_some, fGt, fGe, fSub, fI, fI0, fAdd, fInt, fLen, lenD, outsOf, parOnly, notSlt, List.take_succ_cons, List.take_zero, if_true, if_false, Bool.false_eq_true, decide_true, decide_false, Bool.not_true, Bool.not_false, fIs, fIsNot, isNoneD, sTg, gmT, gmCons, gmN, gmNil, mPop, sAug, mExt, sPar, and_true, true_and, List.isEmpty_nil, List.isEmpty_cons, Nat.reduceAdd, Nat.reduceLeDiff, Nat.reduceLT, le_sz, lt_sz, fLt_i, fEq_i, fNe_i, fLe_i, dec0]
    have := mod_bd (c % 2147483549 * 40692 + 3767 * (k : Int) + 2753) (show (0 : Int) < 2147483563 by decide)
    exact ⟨_, _, ⟨by omega, by omega⟩, rfl⟩
end Lw
end Vl

set_option Elab.async false
set_option linter.all false
set_option maxRecDepth 100000
namespace Vl
open PySem PySem.Spec PyProof.Rows L2
namespace Lw
def pr : List D → List D
  | a :: b :: r => .tuple [.str "or", a, b] :: pr r
  | [a] => [a]
  | [] => []
def gg (rows : List D) (i : Nat) : D := match rows[i]? with
  | some a => (match rows[i + 1]? with
    | some b => .tuple [.str "or", a, b]
    | none => a)
  | none => .none
theorem pr_get : ∀ (rows : List D) (j : Nat), (pr rows)[j]? = if 2 * j < rows.length then some (gg rows (2 * j)) else none
  | [], j => by simp [pr]
  | [a], 0 => by simp [pr, gg]
  | [a], j + 1 => by
    rw [if_neg (by rw [List.length_singleton]; omega)]; rfl
  | a :: b :: r, 0 => by simp [pr, gg]
  | a :: b :: r, j + 1 => by
    show (pr r)[j]? = _
    rw [pr_get r j]
    have e : gg (a :: b :: r) (2 * (j + 1)) = gg r (2 * j) := by
      unfold gg
      rw [show 2 * (j + 1) = 2 * j + 1 + 1 from by omega]; rfl
    rw [e]
    simp only [List.length_cons]
    by_cases h : 2 * j < r.length
    · rw [if_pos h, if_pos (by omega)]
    · rw [if_neg h, if_neg (by omega)]
theorem pr_len : ∀ rows : List D, (pr rows).length = (rows.length + 1) / 2
  | [] => by simp [pr]
  | [a] => by simp [pr]
  | a :: b :: r => by
    show (pr r).length + 1 = (r.length + 1 + 1 + 1) / 2
    rw [pr_len r]; omega
theorem pr_range {rows : List D} {k : Nat} (h : k = (rows.length + 1) / 2) : ((List.range k).map fun j => gg rows (2 * j)) = pr rows := by
  apply List.ext_getElem?
  intro j
  rw [pr_get, List.getElem?_map]
  by_cases hj : j < k
  · rw [List.getElem?_range hj, if_pos (by omega)]; rfl
  · rw [List.getElem?_eq_none (by rw [List.length_range]; omega), if_neg (by omega)]; rfl
theorem pr_ok : ∀ {rows : List D}, okAll rows = true → okAll (pr rows) = true
  | [], _ => rfl
  | [a], h => h
  | a :: b :: r, h => by
    simp only [okAll, Bool.and_eq_true] at h
    have k : okS "or" = true := okw.2.2.2.2.2.2.1
    simp [pr, okAll, okD, hdOk, k, h.1, h.2.1, pr_ok h.2.2]
theorem pr_wt : ∀ rows : List D, wtAll (pr rows) + 2 * (pr rows).length = wtAll rows + 2 * rows.length
  | [] => rfl
  | [a] => rfl
  | a :: b :: r => by
    have := pr_wt r
    simp only [pr, wtAll, wt, List.length_cons]
    omega
theorem pr_dep : ∀ rows : List D, PyData.depthAll (pr rows) ≤ PyData.depthAll rows + 1
  | [] => by simp [pr, PyData.depthAll]
  | [a] => by simp only [pr, PyData.depthAll]; omega
  | a :: b :: r => by
    have := pr_dep r
    simp only [pr, PyData.depthAll, PyData.depth]
    omega
theorem atI_nat {α : Type} {ds : List α} {k : Nat} (h : k < ds.length) : L2.atI ds (k : Int) = ds[k]? := by
  unfold L2.atI; rw [ixN_nat h]; rfl
theorem small_500 : ∀ k : Fin 501, Builtin.Range.small 0 (k.val : Int) 2 = true := by decide +kernel
theorem small_n {n : Nat} (h : n ≤ 500) : Builtin.Range.small 0 (n : Int) 2 = true := small_500 ⟨n, by omega⟩
theorem size_n (n : Nat) : Builtin.Range.rangeSize 0 (n : Int) 2 = (((n + 1) / 2 : Nat) : Int) := by
  rw [rangeSize_pos (by decide) (by omega)]; omega
theorem cond_n {n : Nat} (h : n ≤ 500) : (2 : Int) ≠ 0 ∧ (2 : Int).natAbs < 1073741824 ∧ Builtin.Range.small 0 (n : Int) 2 = true ∧ 0 ≤ Builtin.Range.rangeSize 0 (n : Int) 2 := ⟨by omega, by omega, small_n h, by rw [size_n]; omega⟩
theorem rng_n {n : Nat} (h : n ≤ 500) {am : AM} {ρ : List Sl} (e : am ρ = .ok [.dat (.int 0), .dat (.int (n : Int)), .dat (.int 2)] ρ) : mRng3 am ρ = .ok (intsC 0 2 ((n + 1) / 2)) ρ := by
  unfold mRng3
  rw [e, bind_ok]
  dsimp only
  rw [if_pos (cond_n h), size_n, Int.toNat_natCast]

theorem rng_rows {leaf : D} {many : Int} {rows : List D} (h0 : 0 < rows.length) (hl : rows.length ≤ 500) : (mRng3 (aCons (mK (.int 0)) (aCons (mB fLen (aCons (mVar 2) (aNil))) (aCons (mK (.int 2)) (aNil))))) [.dat leaf, .dat (.int many), .own (.lst rows), .non] = .ok (intsC 0 2 ((rows.length + 1) / 2)) [.dat leaf, .dat (.int many), .own (.lst rows), .non] := rng_n (by omega) (by simp only [sIf, ws_ofE, wp_bind, wp_noX, mTB, mTr, mNotT, mAndT, mOrT, mAnd, mOr, mNot, mIf, mNeg, mBin, bin2, mChain, mVar, mK, mB, mCall_eq, aNil, aCons, mTup, mLst, mSl, oNo, oSome, mIsi, anyT, isT, truD, sSet, setR, sRet, retR, sNil, sEx, sDvm, sSt, lstAt, putLst, drefs, dats, List.map_cons, List.map_nil, List.cons_append, List.nil_append, List.append_nil, List.replicate, List.getElem?_cons_zero, List.getElem?_cons_succ, List.set_cons_zero, List.set_cons_succ, List.length_cons, List.length_nil, bind_ok, ofO_some, ofE_ok, oS_some, noX_ok, wp_ok, ws_nx, ws_rt, fz, dref, fIx, atI0, atI1, atI2, ixN_20, ixN_21, ixN_10, Option.map_some, fGt, fGe, fSub, fI, fI0, fAdd, fInt, fLen, lenD, outsOf, parOnly, notSlt, List.take_succ_cons, List.take_zero, if_true, if_false, Bool.false_eq_true, decide_true, decide_false, Bool.not_true, Bool.not_false, fIs, fIsNot, isNoneD, sTg, gmT, gmCons, gmN, gmNil, mPop, sAug, mExt, sPar, and_true, true_and, List.isEmpty_nil, List.isEmpty_cons, Nat.reduceAdd, Nat.reduceLeDiff, Nat.reduceLT, le_sz, lt_sz, fLt_i, fEq_i, fNe_i, fLe_i, dec0])
def gE (rows : List D) : D → D
  | .int i => gg rows i.toNat
  | _ => .none
theorem gE_map (rows : List D) : (intsC 0 2 ((rows.length + 1) / 2)).map (gE rows) = pr rows := by
  unfold intsC
  rw [List.map_map, ← pr_range rfl]
  apply List.map_congr_left
  intro j _
  have e : (0 + (j : Int) * 2).toNat = 2 * j := by omega
  show gg rows (0 + (j : Int) * 2).toNat = gg rows (2 * j)
  rw [e]
theorem em_rows {leaf : D} {many : Int} {rows : List D} {j : Nat} (hj : j < (rows.length + 1) / 2) : (mIf (mTB (mBin fLt (mBin fAdd (mVar 3) (mK (.int 1))) (mB fLen (aCons (mVar 2) (aNil))))) (mTup (aCons (mK (.str "or")) (aCons (mBin fIx (mVar 2) (mVar 3)) (aCons (mBin fIx (mVar 2) (mBin fAdd (mVar 3) (mK (.int 1)))) (aNil))))) (mBin fIx (mVar 2) (mVar 3))) [.dat leaf, .dat (.int many), .own (.lst rows), .dat (.int ((2 * j : Nat) : Int))] = .ok (.dat (gg rows (2 * j))) [.dat leaf, .dat (.int many), .own (.lst rows), .dat (.int ((2 * j : Nat) : Int))] := by
  have e1 : (((2 * j : Nat) : Int) + 1) = ((2 * j + 1 : Nat) : Int) := by omega
  have i0 := atI_nat (ds := rows) (k := 2 * j) (by omega)
  have g0 : rows[2 * j]? = some rows[2 * j] := List.getElem?_eq_getElem (by omega)
  by_cases hc : 2 * j + 1 < rows.length
  · have i1 := atI_nat (ds := rows) (k := 2 * j + 1) hc
    have g1 : rows[2 * j + 1]? = some rows[2 * j + 1] := List.getElem?_eq_getElem hc
    have hc' : ((2 * j + 1 : Nat) : Int) < (rows.length : Int) := by omega
    simp only [sIf, ws_ofE, wp_bind, wp_noX, mTB, mTr, mNotT, mAndT, mOrT, mAnd, mOr, mNot, mIf, mNeg, mBin, bin2, mChain, mVar, mK, mB, mCall_eq, aNil, aCons, mTup, mLst, mSl, oNo, oSome, mIsi, anyT, isT, truD, sSet, setR, sRet, retR, sNil, sEx, sDvm, sSt, lstAt, putLst, drefs, dats, List.map_cons, List.map_nil, List.cons_append, List.nil_append, List.append_nil, List.replicate, List.getElem?_cons_zero, List.getElem?_cons_succ, List.set_cons_zero, List.set_cons_succ, List.length_cons, List.length_nil, bind_ok, ofO_some, ofE_ok, oS_some, noX_ok, wp_ok, ws_nx, ws_rt, fz, dref, fIx, atI0, atI1, atI2, ixN_20, ixN_21, ixN_10, Option.map_some, fGt, fGe, fSub, fI, fI0, fAdd, fInt, fLen, lenD, outsOf, parOnly, notSlt, List.take_succ_cons, List.take_zero, if_true, if_false, Bool.false_eq_true, decide_true, decide_false, Bool.not_true, Bool.not_false, fIs, fIsNot, isNoneD, sTg, gmT, gmCons, gmN, gmNil, mPop, sAug, mExt, sPar, and_true, true_and, List.isEmpty_nil, List.isEmpty_cons, Nat.reduceAdd, Nat.reduceLeDiff, Nat.reduceLT, le_sz, lt_sz, fLt_i, fEq_i, fNe_i, fLe_i, dec0, e1, if_pos hc', i0, i1, g0, g1, gg]
  · have g1 : rows[2 * j + 1]? = none := List.getElem?_eq_none (by omega)
    have hc' : ¬ ((2 * j + 1 : Nat) : Int) < (rows.length : Int) := by omega
    simp only [sIf, ws_ofE, wp_bind, wp_noX, mTB, mTr, mNotT, mAndT, mOrT, mAnd, mOr, mNot, mIf, mNeg, mBin, bin2, mChain, mVar, mK, mB, mCall_eq, aNil, aCons, mTup, mLst, mSl, oNo, oSome, mIsi, anyT, isT, truD, sSet, setR, sRet, retR, sNil, sEx, sDvm, sSt, lstAt, putLst, drefs, dats, List.map_cons, List.map_nil, List.cons_append, List.nil_append, List.append_nil, List.replicate, List.getElem?_cons_zero, List.getElem?_cons_succ, List.set_cons_zero, List.set_cons_succ, List.length_cons, List.length_nil, bind_ok, ofO_some, ofE_ok, oS_some, noX_ok, wp_ok, ws_nx, ws_rt, fz, dref, fIx, atI0, atI1, atI2, ixN_20, ixN_21, ixN_10, Option.map_some, fGt, fGe, fSub, fI, fI0, fAdd, fInt, fLen, lenD, outsOf, parOnly, notSlt, List.take_succ_cons, List.take_zero, if_true, if_false, Bool.false_eq_true, decide_true, decide_false, Bool.not_true, Bool.not_false, fIs, fIsNot, isNoneD, sTg, gmT, gmCons, gmN, gmNil, mPop, sAug, mExt, sPar, and_true, true_and, List.isEmpty_nil, List.isEmpty_cons, Nat.reduceAdd, Nat.reduceLeDiff, Nat.reduceLT, le_sz, lt_sz, fLt_i, fEq_i, fNe_i, fLe_i, dec0, e1, if_neg hc', i0, g0, g1, gg]
theorem lc_rows {leaf : D} {many : Int} {rows : List D} (h0 : 0 < rows.length) (hl : rows.length ≤ 500) : mLcV (mRng3 (aCons (mK (.int 0)) (aCons (mB fLen (aCons (mVar 2) (aNil))) (aCons (mK (.int 2)) (aNil))))) (gmN 3) mYes (mIf (mTB (mBin fLt (mBin fAdd (mVar 3) (mK (.int 1))) (mB fLen (aCons (mVar 2) (aNil))))) (mTup (aCons (mK (.str "or")) (aCons (mBin fIx (mVar 2) (mVar 3)) (aCons (mBin fIx (mVar 2) (mBin fAdd (mVar 3) (mK (.int 1)))) (aNil))))) (mBin fIx (mVar 2) (mVar 3))) [3] [.dat leaf, .dat (.int many), .own (.lst rows), .non] = .ok (.frs (.lst (pr rows))) [.dat leaf, .dat (.int many), .own (.lst rows), .non] := by
  unfold mLcV mLc
  rw [rng_rows h0 hl, bind_ok]
  have hw : wipeS [.dat leaf, .dat (.int many), .own (.lst rows), .non] [3] = [.dat leaf, .dat (.int many), .own (.lst rows), .non] := rfl
  rw [hw, lc_pure (i := 3) (tm := mYes) (em := (mIf (mTB (mBin fLt (mBin fAdd (mVar 3) (mK (.int 1))) (mB fLen (aCons (mVar 2) (aNil))))) (mTup (aCons (mK (.str "or")) (aCons (mBin fIx (mVar 2) (mVar 3)) (aCons (mBin fIx (mVar 2) (mBin fAdd (mVar 3) (mK (.int 1)))) (aNil))))) (mBin fIx (mVar 2) (mVar 3)))) (g := gE rows) rfl _ [] ?_ ?_, List.nil_append, gE_map]
  · intro d hd
    unfold intsC at hd
    obtain ⟨j, hj, rfl⟩ := List.mem_map.mp hd
    rw [List.mem_range] at hj
    have e0 : (0 : Int) + (j : Int) * 2 = ((2 * j : Nat) : Int) := by omega
    rw [e0]
    exact ⟨rfl, em_rows hj⟩
  · unfold intsC
    rw [List.length_map, List.length_range, sizeLine_eq, List.length_nil]; omega
def Gw (c : Nat) (d : D) : Prop := okD d = true ∧ wt d ≤ 2000 + c ∧ d.depth ≤ 14 + c
theorem rep_flat (leaf : D) : ∀ n : Nat, (List.replicate n [leaf]).flatten = List.replicate n leaf
  | 0 => rfl
  | n + 1 => by rw [List.replicate_succ, List.flatten_cons, rep_flat leaf n]; rfl
theorem rep_wt (leaf : D) : ∀ n : Nat, wtAll (List.replicate n leaf) = n * wt leaf
  | 0 => by simp [wtAll]
  | n + 1 => by rw [List.replicate_succ, wtAll, rep_wt leaf n, Nat.succ_mul]; omega
theorem rep_ok {leaf : D} (h : okD leaf = true) (n : Nat) : okAll (List.replicate n leaf) = true := okAll_iff.mpr fun d hd => by rw [(List.mem_replicate.mp hd).2]; exact h
theorem rep_dep {leaf : D} {k : Nat} (h : leaf.depth ≤ k) (n : Nat) : PyData.depthAll (List.replicate n leaf) ≤ k := depAll_iff.mpr fun d hd => by rw [(List.mem_replicate.mp hd).2]; exact h
theorem wide_any {leaf : D} (h1 : okD leaf = true) (h2 : wt leaf ≤ 3) (h3 : leaf.depth ≤ 1) {n : Nat} {many : Int} (b0 : 100 ≤ many) (b1 : many ≤ 402) (hc : many % 2 ≠ 1 → Wp (M__law_wide n [.dat leaf, .dat (.int (many - 1))]) fun r _ => ∃ d, r = .dat d ∧ Gw 0 d) : Wp (M__law_wide (n + 1) [.dat leaf, .dat (.int many)]) fun r _ => ∃ d, r = .dat d ∧ Gw 2 d ∧ (many % 2 = 1 → Gw 0 d) := by
  unfold M__law_wide
  refine wp_fn (ws_nxc (ρ1 := [.dat leaf, .dat (.int many), .own (.lst (List.replicate ((many + 1) / 2).toNat leaf)), .non]) ?_ ?_)
  · simp only [sIf, ws_ofE, wp_bind, wp_noX, mTB, mTr, mNotT, mAndT, mOrT, mAnd, mOr, mNot, mIf, mNeg, mBin, bin2, mChain, mVar, mK, mB, mCall_eq, aNil, aCons, mTup, mLst, mSl, oNo, oSome, mIsi, anyT, isT, truD, sSet, setR, sRet, retR, sNil, sEx, sDvm, sSt, lstAt, putLst, drefs, dats, List.map_cons, List.map_nil, List.cons_append, List.nil_append, List.append_nil, List.replicate, List.getElem?_cons_zero, List.getElem?_cons_succ, List.set_cons_zero, List.set_cons_succ, List.length_cons, List.length_nil, bind_ok, ofO_some, ofE_ok, oS_some, noX_ok, wp_ok, ws_nx, ws_rt, fz, dref, fIx, atI0, atI1, atI2, ixN_20, ixN_21, ixN_10, Option.map_some, fGt, fGe, fSub, fI, fI0, fAdd, fInt, fLen, lenD, outsOf, parOnly, notSlt, List.take_succ_cons, List.take_zero, if_true, if_false, Bool.false_eq_true, decide_true, decide_false, Bool.not_true, Bool.not_false, fIs, fIsNot, isNoneD, sTg, gmT, gmCons, gmN, gmNil, mPop, sAug, mExt, sPar, and_true, true_and, List.isEmpty_nil, List.isEmpty_cons, Nat.reduceAdd, Nat.reduceLeDiff, Nat.reduceLT, le_sz, lt_sz, fLt_i, fEq_i, fNe_i, fLe_i, dec0, fFdiv_p (i := many + 1) (j := 2) (by decide)]
    unfold fMul
    dsimp only
    rw [if_pos ⟨by omega, by omega, by rw [sizeLine_eq, List.length_singleton]; omega⟩, rep_flat]
    simp only [sIf, ws_ofE, wp_bind, wp_noX, mTB, mTr, mNotT, mAndT, mOrT, mAnd, mOr, mNot, mIf, mNeg, mBin, bin2, mChain, mVar, mK, mB, mCall_eq, aNil, aCons, mTup, mLst, mSl, oNo, oSome, mIsi, anyT, isT, truD, sSet, setR, sRet, retR, sNil, sEx, sDvm, sSt, lstAt, putLst, drefs, dats, List.map_cons, List.map_nil, List.cons_append, List.nil_append, List.append_nil, List.replicate, List.getElem?_cons_zero, List.getElem?_cons_succ, List.set_cons_zero, List.set_cons_succ, List.length_cons, List.length_nil, bind_ok, ofO_some, ofE_ok, oS_some, noX_ok, wp_ok, ws_nx, ws_rt, fz, dref, fIx, atI0, atI1, atI2, ixN_20, ixN_21, ixN_10, Option.map_some, fGt, fGe, fSub, fI, fI0, fAdd, fInt, fLen, lenD, outsOf, parOnly, notSlt, List.take_succ_cons, List.take_zero, if_true, if_false, Bool.false_eq_true, decide_true, decide_false, Bool.not_true, Bool.not_false, fIs, fIsNot, isNoneD, sTg, gmT, gmCons, gmN, gmNil, mPop, sAug, mExt, sPar, and_true, true_and, List.isEmpty_nil, List.isEmpty_cons, Nat.reduceAdd, Nat.reduceLeDiff, Nat.reduceLT, le_sz, lt_sz, fLt_i, fEq_i, fNe_i, fLe_i, dec0]
  · refine ws_cut (M := fun ρ => ∃ d r, okD d = true ∧ wt d ≤ 2000 ∧ d.depth ≤ 14 ∧ ρ = [.dat leaf, .dat (.int many), .own (.lst (d :: r)), .non]) ?_ fun ρ hρ => ?_
    · have hL : ((many + 1) / 2).toNat ≤ 202 := by omega
      have hL0 : 0 < ((many + 1) / 2).toNat := by omega
      refine loop_wp (fun n ρ => ∃ rows : List D, 0 < rows.length ∧ rows.length ≤ 500 ∧ rows.length ≤ 2 ^ n ∧ n ≤ 8 ∧ okAll rows = true ∧ wtAll rows + 2 * rows.length ≤ 1100 ∧ PyData.depthAll rows + n ≤ 12 ∧ ρ = [.dat leaf, .dat (.int many), .own (.lst rows), .non]) ?_ 20 8 _ (by omega) ⟨_, by rw [List.length_replicate]; exact hL0, by rw [List.length_replicate]; omega, by rw [List.length_replicate]; omega, by omega, rep_ok h1 _, ?_, ?_, rfl⟩
      · rintro n ρ ⟨rows, l0, l1, l2, hn, ho, hw, hd, rfl⟩
        simp only [sIf, ws_ofE, wp_bind, wp_noX, mTB, mTr, mNotT, mAndT, mOrT, mAnd, mOr, mNot, mIf, mNeg, mBin, bin2, mChain, mVar, mK, mB, mCall_eq, aNil, aCons, mTup, mLst, mSl, oNo, oSome, mIsi, anyT, isT, truD, sSet, setR, sRet, retR, sNil, sEx, sDvm, sSt, lstAt, putLst, drefs, dats, List.map_cons, List.map_nil, List.cons_append, List.nil_append, List.append_nil, List.replicate, List.getElem?_cons_zero, List.getElem?_cons_succ, List.set_cons_zero, List.set_cons_succ, List.length_cons, List.length_nil, bind_ok, ofO_some, ofE_ok, oS_some, noX_ok, wp_ok, ws_nx, ws_rt, fz, dref, fIx, atI0, atI1, atI2, ixN_20, ixN_21, ixN_10, Option.map_some, fGt, fGe, fSub, fI, fI0, fAdd, fInt, fLen, lenD, outsOf, parOnly, notSlt, List.take_succ_cons, List.take_zero, if_true, if_false, Bool.false_eq_true, decide_true, decide_false, Bool.not_true, Bool.not_false, fIs, fIsNot, isNoneD, sTg, gmT, gmCons, gmN, gmNil, mPop, sAug, mExt, sPar, and_true, true_and, List.isEmpty_nil, List.isEmpty_cons, Nat.reduceAdd, Nat.reduceLeDiff, Nat.reduceLT, le_sz, lt_sz, fLt_i, fEq_i, fNe_i, fLe_i, dec0]
        by_cases hg : (rows.length : Int) > 1
        · have hn0 : n ≠ 0 := by rintro rfl; simp at l2; omega
          obtain ⟨m, rfl⟩ := Nat.exists_eq_succ_of_ne_zero hn0
          simp only [sIf, ws_ofE, wp_bind, wp_noX, mTB, mTr, mNotT, mAndT, mOrT, mAnd, mOr, mNot, mIf, mNeg, mBin, bin2, mChain, mVar, mK, mB, mCall_eq, aNil, aCons, mTup, mLst, mSl, oNo, oSome, mIsi, anyT, isT, truD, sSet, setR, sRet, retR, sNil, sEx, sDvm, sSt, lstAt, putLst, drefs, dats, List.map_cons, List.map_nil, List.cons_append, List.nil_append, List.append_nil, List.replicate, List.getElem?_cons_zero, List.getElem?_cons_succ, List.set_cons_zero, List.set_cons_succ, List.length_cons, List.length_nil, bind_ok, ofO_some, ofE_ok, oS_some, noX_ok, wp_ok, ws_nx, ws_rt, fz, dref, fIx, atI0, atI1, atI2, ixN_20, ixN_21, ixN_10, Option.map_some, fGt, fGe, fSub, fI, fI0, fAdd, fInt, fLen, lenD, outsOf, parOnly, notSlt, List.take_succ_cons, List.take_zero, if_true, if_false, Bool.false_eq_true, decide_true, decide_false, Bool.not_true, Bool.not_false, fIs, fIsNot, isNoneD, sTg, gmT, gmCons, gmN, gmNil, mPop, sAug, mExt, sPar, and_true, true_and, List.isEmpty_nil, List.isEmpty_cons, Nat.reduceAdd, Nat.reduceLeDiff, Nat.reduceLT, le_sz, lt_sz, fLt_i, fEq_i, fNe_i, fLe_i, dec0, if_pos hg]
          rw [lc_rows l0 l1]
          simp only [sIf, ws_ofE, wp_bind, wp_noX, mTB, mTr, mNotT, mAndT, mOrT, mAnd, mOr, mNot, mIf, mNeg, mBin, bin2, mChain, mVar, mK, mB, mCall_eq, aNil, aCons, mTup, mLst, mSl, oNo, oSome, mIsi, anyT, isT, truD, sSet, setR, sRet, retR, sNil, sEx, sDvm, sSt, lstAt, putLst, drefs, dats, List.map_cons, List.map_nil, List.cons_append, List.nil_append, List.append_nil, List.replicate, List.getElem?_cons_zero, List.getElem?_cons_succ, List.set_cons_zero, List.set_cons_succ, List.length_cons, List.length_nil, bind_ok, ofO_some, ofE_ok, oS_some, noX_ok, wp_ok, ws_nx, ws_rt, fz, dref, fIx, atI0, atI1, atI2, ixN_20, ixN_21, ixN_10, Option.map_some, fGt, fGe, fSub, fI, fI0, fAdd, fInt, fLen, lenD, outsOf, parOnly, notSlt, List.take_succ_cons, List.take_zero, if_true, if_false, Bool.false_eq_true, decide_true, decide_false, Bool.not_true, Bool.not_false, fIs, fIsNot, isNoneD, sTg, gmT, gmCons, gmN, gmNil, mPop, sAug, mExt, sPar, and_true, true_and, List.isEmpty_nil, List.isEmpty_cons, Nat.reduceAdd, Nat.reduceLeDiff, Nat.reduceLT, le_sz, lt_sz, fLt_i, fEq_i, fNe_i, fLe_i, dec0]
          have pw := pr_wt rows
          have pl := pr_len rows
          have pd := pr_dep rows
          rw [Nat.pow_succ] at l2
          exact ⟨m, by omega, pr rows, by omega, by omega, by omega, by omega, pr_ok ho, by omega, by omega, rfl⟩
        · simp only [sIf, ws_ofE, wp_bind, wp_noX, mTB, mTr, mNotT, mAndT, mOrT, mAnd, mOr, mNot, mIf, mNeg, mBin, bin2, mChain, mVar, mK, mB, mCall_eq, aNil, aCons, mTup, mLst, mSl, oNo, oSome, mIsi, anyT, isT, truD, sSet, setR, sRet, retR, sNil, sEx, sDvm, sSt, lstAt, putLst, drefs, dats, List.map_cons, List.map_nil, List.cons_append, List.nil_append, List.append_nil, List.replicate, List.getElem?_cons_zero, List.getElem?_cons_succ, List.set_cons_zero, List.set_cons_succ, List.length_cons, List.length_nil, bind_ok, ofO_some, ofE_ok, oS_some, noX_ok, wp_ok, ws_nx, ws_rt, fz, dref, fIx, atI0, atI1, atI2, ixN_20, ixN_21, ixN_10, Option.map_some, fGt, fGe, fSub, fI, fI0, fAdd, fInt, fLen, lenD, outsOf, parOnly, notSlt, List.take_succ_cons, List.take_zero, if_true, if_false, Bool.false_eq_true, decide_true, decide_false, Bool.not_true, Bool.not_false, fIs, fIsNot, isNoneD, sTg, gmT, gmCons, gmN, gmNil, mPop, sAug, mExt, sPar, and_true, true_and, List.isEmpty_nil, List.isEmpty_cons, Nat.reduceAdd, Nat.reduceLeDiff, Nat.reduceLT, le_sz, lt_sz, fLt_i, fEq_i, fNe_i, fLe_i, dec0, if_neg hg]
          match rows, l0, ho, hw, hd with
          | d :: r, _, ho, hw, hd =>
            simp only [okAll, Bool.and_eq_true] at ho
            simp only [wtAll] at hw
            simp only [PyData.depthAll] at hd
            exact ⟨d, r, ho.1, by omega, by omega, rfl⟩
      · rw [rep_wt, List.length_replicate]
        have := Nat.mul_le_mul hL h2
        omega
      · have := rep_dep h3 ((many + 1) / 2).toNat
        omega
    · obtain ⟨d, r, o1, o2, o3, rfl⟩ := hρ
      by_cases hm : many % 2 = 1
      · simp only [sIf, ws_ofE, wp_bind, wp_noX, mTB, mTr, mNotT, mAndT, mOrT, mAnd, mOr, mNot, mIf, mNeg, mBin, bin2, mChain, mVar, mK, mB, mCall_eq, aNil, aCons, mTup, mLst, mSl, oNo, oSome, mIsi, anyT, isT, truD, sSet, setR, sRet, retR, sNil, sEx, sDvm, sSt, lstAt, putLst, drefs, dats, List.map_cons, List.map_nil, List.cons_append, List.nil_append, List.append_nil, List.replicate, List.getElem?_cons_zero, List.getElem?_cons_succ, List.set_cons_zero, List.set_cons_succ, List.length_cons, List.length_nil, bind_ok, ofO_some, ofE_ok, oS_some, noX_ok, wp_ok, ws_nx, ws_rt, fz, dref, fIx, atI0, atI1, atI2, ixN_20, ixN_21, ixN_10, Option.map_some, fGt, fGe, fSub, fI, fI0, fAdd, fInt, fLen, lenD, outsOf, parOnly, notSlt, List.take_succ_cons, List.take_zero, if_true, if_false, Bool.false_eq_true, decide_true, decide_false, Bool.not_true, Bool.not_false, fIs, fIsNot, isNoneD, sTg, gmT, gmCons, gmN, gmNil, mPop, sAug, mExt, sPar, and_true, true_and, List.isEmpty_nil, List.isEmpty_cons, Nat.reduceAdd, Nat.reduceLeDiff, Nat.reduceLT, le_sz, lt_sz, fLt_i, fEq_i, fNe_i, fLe_i, dec0, fMod_p (i := many) (j := 2) (by decide), if_pos hm]
        exact ⟨d, rfl, ⟨o1, by omega, by omega⟩, fun _ => ⟨o1, by omega, by omega⟩⟩
      · simp only [sIf, ws_ofE, wp_bind, wp_noX, mTB, mTr, mNotT, mAndT, mOrT, mAnd, mOr, mNot, mIf, mNeg, mBin, bin2, mChain, mVar, mK, mB, mCall_eq, aNil, aCons, mTup, mLst, mSl, oNo, oSome, mIsi, anyT, isT, truD, sSet, setR, sRet, retR, sNil, sEx, sDvm, sSt, lstAt, putLst, drefs, dats, List.map_cons, List.map_nil, List.cons_append, List.nil_append, List.append_nil, List.replicate, List.getElem?_cons_zero, List.getElem?_cons_succ, List.set_cons_zero, List.set_cons_succ, List.length_cons, List.length_nil, bind_ok, ofO_some, ofE_ok, oS_some, noX_ok, wp_ok, ws_nx, ws_rt, fz, dref, fIx, atI0, atI1, atI2, ixN_20, ixN_21, ixN_10, Option.map_some, fGt, fGe, fSub, fI, fI0, fAdd, fInt, fLen, lenD, outsOf, parOnly, notSlt, List.take_succ_cons, List.take_zero, if_true, if_false, Bool.false_eq_true, decide_true, decide_false, Bool.not_true, Bool.not_false, fIs, fIsNot, isNoneD, sTg, gmT, gmCons, gmN, gmNil, mPop, sAug, mExt, sPar, and_true, true_and, List.isEmpty_nil, List.isEmpty_cons, Nat.reduceAdd, Nat.reduceLeDiff, Nat.reduceLT, le_sz, lt_sz, fLt_i, fEq_i, fNe_i, fLe_i, dec0, fMod_p (i := many) (j := 2) (by decide), if_neg hm]
        refine wp_dats (ds := [leaf, .int (many - 1)]) (Q := fun r _ => ∃ d, r = .dat d ∧ Gw 0 d) ((hc hm).mono fun r _ h => ?_) fun r h => ?_
        · obtain ⟨d, rfl, g⟩ := h
          exact ⟨rfl, fun _ => ⟨d, rfl, g⟩⟩
        · obtain ⟨d, rfl, g⟩ := h
          simp only [sIf, ws_ofE, wp_bind, wp_noX, mTB, mTr, mNotT, mAndT, mOrT, mAnd, mOr, mNot, mIf, mNeg, mBin, bin2, mChain, mVar, mK, mB, mCall_eq, aNil, aCons, mTup, mLst, mSl, oNo, oSome, mIsi, anyT, isT, truD, sSet, setR, sRet, retR, sNil, sEx, sDvm, sSt, lstAt, putLst, drefs, dats, List.map_cons, List.map_nil, List.cons_append, List.nil_append, List.append_nil, List.replicate, List.getElem?_cons_zero, List.getElem?_cons_succ, List.set_cons_zero, List.set_cons_succ, List.length_cons, List.length_nil, bind_ok, ofO_some, ofE_ok, oS_some, noX_ok, wp_ok, ws_nx, ws_rt, fz, dref, fIx, atI0, atI1, atI2, ixN_20, ixN_21, ixN_10, Option.map_some, fGt, fGe, fSub, fI, fI0, fAdd, fInt, fLen, lenD, outsOf, parOnly, notSlt, List.take_succ_cons, List.take_zero, if_true, if_false, Bool.false_eq_true, decide_true, decide_false, Bool.not_true, Bool.not_false, fIs, fIsNot, isNoneD, sTg, gmT, gmCons, gmN, gmNil, mPop, sAug, mExt, sPar, and_true, true_and, List.isEmpty_nil, List.isEmpty_cons, Nat.reduceAdd, Nat.reduceLeDiff, Nat.reduceLT, le_sz, lt_sz, fLt_i, fEq_i, fNe_i, fLe_i, dec0]
          refine ⟨_, rfl, ⟨?_, ?_, ?_⟩, fun h => absurd h hm⟩
          · have k : okS "not" = true := okw.2.2.2.2.1
            simp [okD, okAll, hdOk, k, g.1]
          · have := g.2.1
            simp only [wt, wtAll]; omega
          · have := g.2.2
            simp only [PyData.depth, PyData.depthAll]; omega
theorem wide_ok {leaf : D} (h1 : okD leaf = true) (h2 : wt leaf ≤ 3) (h3 : leaf.depth ≤ 1) {many : Int} (b0 : 150 ≤ many) (b1 : many ≤ 402) : Wp (M__law_wide 3 [.dat leaf, .dat (.int many)]) fun r _ => ∃ d, r = .dat d ∧ Gw 2 d :=
  (wide_any h1 h2 h3 (by omega) b1 fun hm => (wide_any h1 h2 h3 (by omega) (by omega) fun h => absurd (by omega) h).mono fun r _ ⟨d, e, _, g⟩ => ⟨d, e, g (by omega)⟩).mono fun r _ ⟨d, e, g, _⟩ => ⟨d, e, g⟩
end Lw
end Vl

set_option Elab.async false
set_option linter.all false
set_option maxRecDepth 100000
namespace Vl
open PySem PySem.Spec PyProof.Rows L2
namespace Lw
def chkG (d : D) : Bool := okD d && (decide (wt d ≤ 100000) && decide (d.depth ≤ 60))
theorem gall {ds : List D} (h : ds.all chkG = true) : ∀ d ∈ ds, Gd d := fun d hd => by
  have := List.all_eq_true.mp h d hd
  unfold chkG at this
  rw [Bool.and_eq_true, Bool.and_eq_true, decide_eq_true_eq, decide_eq_true_eq] at this
  exact ⟨this.1, this.2.1, this.2.2⟩
def Gt (d : D) : Prop := nb d = true ∧ wt d ≤ 1024 ∧ d.depth ≤ 9
theorem Gt.gd {d : D} (h : Gt d) : Gd d := ⟨nb_ok d h.1, by have := h.2.1; omega, by have := h.2.2; omega⟩
theorem gk_gt {k : Nat} {d : D} (hk : k ≤ 4) (h : Gk k d) : Gt d := by
  have e : 4 ^ (k + 1) ≤ 4 ^ 5 := Nat.pow_le_pow_right (by decide) (by omega)
  have e2 : 4 ^ 5 = 1024 := by decide
  exact ⟨h.1, by have := h.2.1; omega, by have := h.2.2; omega⟩
theorem gb_gd {t d : D} (g : Gt t) (h : Gb (wt t) t.depth d) : Gd d := by
  have h1 := g.2.1
  have h2 := g.2.2
  exact ⟨h.1, by have := h.2.1; omega, by have := h.2.2; omega⟩
theorem gl_gd {m : Int} {d : D} (hm : m ≤ 50) (h : Gl m d) : Gd d := ⟨h.1, by have := h.2.1; omega, by have := h.2.2; omega⟩
theorem gw_gd {d : D} (h : Gw 2 d) : Gd d := ⟨h.1, by have := h.2.1; omega, by have := h.2.2; omega⟩
theorem right_1 {a s : Int} (hs : PotOk s) {t m : D} (gt : Gt t) (gm : Gt m) {fs : List D} (hf : ∀ d ∈ fs, Gd d) (hl : fs.length ≤ 27) : Ws (sFor (mRng1 (aCons (mK (.int 8)) (aNil))) (gmN 4) (sEx (mExt 3 (mLst (aCons (mCall (M__law_bent 12) (aCons (mVar 0) (aCons (mVar 1) (aNil)))) (aCons (mCall (M__law_bent 12) (aCons (mVar 0) (aCons (mVar 2) (aNil)))) (aNil)))))) [Pt a s, .dat t, .dat m, .own (.lst fs), .non, .non, .non, .non]) (fun ρ => ∃ a s fs x, PotOk s ∧ (∀ d ∈ fs, Gd d) ∧ fs.length ≤ 43 ∧ ρ = [Pt a s, .dat t, .dat m, .own (.lst fs), x, .non, .non, .non]) fun _ _ => False := by
  unfold sFor mRng1
  simp only [sIf, ws_ofE, wp_bind, wp_noX, mTB, mTr, mNotT, mAndT, mOrT, mAnd, mOr, mNot, mIf, mNeg, mBin, bin2, mChain, mVar, mK, mB, mCall_eq, aNil, aCons, mTup, mLst, mSl, oNo, oSome, mIsi, anyT, isT, truD, sSet, setR, sRet, retR, sNil, sEx, sDvm, sSt, lstAt, putLst, drefs, dats, List.map_cons, List.map_nil, List.cons_append, List.nil_append, List.append_nil, List.replicate, List.getElem?_cons_zero, List.getElem?_cons_succ, List.set_cons_zero, List.set_cons_succ, List.length_cons, List.length_nil, bind_ok, ofO_some, ofE_ok, oS_some, noX_ok, wp_ok, ws_nx, ws_rt, fz, dref, fIx, atI0, atI1, atI2, ixN_20, ixN_21, ixN_10, Option.map_some, fGt, fGe, fSub, fI, fI0, fAdd, fInt, fLen, lenD, outsOf, parOnly, notSlt, List.take_succ_cons, List.take_zero, if_true, if_false, Bool.false_eq_true, decide_true, decide_false, Bool.not_true, Bool.not_false, fIs, fIsNot, isNoneD, sTg, gmT, gmCons, gmN, gmNil, mPop, sAug, mExt, sPar, and_true, true_and, List.isEmpty_nil, List.isEmpty_cons, Nat.reduceAdd, Nat.reduceLeDiff, Nat.reduceLT, le_sz, lt_sz, fLt_i, fEq_i, fNe_i, fLe_i, dec0]
  rw [if_pos (by decide)]
  simp only [sIf, ws_ofE, wp_bind, wp_noX, mTB, mTr, mNotT, mAndT, mOrT, mAnd, mOr, mNot, mIf, mNeg, mBin, bin2, mChain, mVar, mK, mB, mCall_eq, aNil, aCons, mTup, mLst, mSl, oNo, oSome, mIsi, anyT, isT, truD, sSet, setR, sRet, retR, sNil, sEx, sDvm, sSt, lstAt, putLst, drefs, dats, List.map_cons, List.map_nil, List.cons_append, List.nil_append, List.append_nil, List.replicate, List.getElem?_cons_zero, List.getElem?_cons_succ, List.set_cons_zero, List.set_cons_succ, List.length_cons, List.length_nil, bind_ok, ofO_some, ofE_ok, oS_some, noX_ok, wp_ok, ws_nx, ws_rt, fz, dref, fIx, atI0, atI1, atI2, ixN_20, ixN_21, ixN_10, Option.map_some, fGt, fGe, fSub, fI, fI0, fAdd, fInt, fLen, lenD, outsOf, parOnly, notSlt, List.take_succ_cons, List.take_zero, if_true, if_false, Bool.false_eq_true, decide_true, decide_false, Bool.not_true, Bool.not_false, fIs, fIsNot, isNoneD, sTg, gmT, gmCons, gmN, gmNil, mPop, sAug, mExt, sPar, and_true, true_and, List.isEmpty_nil, List.isEmpty_cons, Nat.reduceAdd, Nat.reduceLeDiff, Nat.reduceLT, le_sz, lt_sz, fLt_i, fEq_i, fNe_i, fLe_i, dec0]
  refine for_wp (fun es ρ => ∃ a s fs x, PotOk s ∧ (∀ d ∈ fs, Gd d) ∧ fs.length + 2 * es.length ≤ 43 ∧ ρ = [Pt a s, .dat t, .dat m, .own (.lst fs), x, .non, .non, .non]) ?_ ?_ _ _ ⟨a, s, fs, _, hs, hf, by show fs.length + 2 * 8 ≤ 43; omega, rfl⟩
  · rintro d es ρ ⟨a, s, fs, x, hs, hf, hl, rfl⟩
    rw [List.length_cons] at hl
    refine ⟨_, rfl, ?_⟩
    simp only [sIf, ws_ofE, wp_bind, wp_noX, mTB, mTr, mNotT, mAndT, mOrT, mAnd, mOr, mNot, mIf, mNeg, mBin, bin2, mChain, mVar, mK, mB, mCall_eq, aNil, aCons, mTup, mLst, mSl, oNo, oSome, mIsi, anyT, isT, truD, sSet, setR, sRet, retR, sNil, sEx, sDvm, sSt, lstAt, putLst, drefs, dats, List.map_cons, List.map_nil, List.cons_append, List.nil_append, List.append_nil, List.replicate, List.getElem?_cons_zero, List.getElem?_cons_succ, List.set_cons_zero, List.set_cons_succ, List.length_cons, List.length_nil, bind_ok, ofO_some, ofE_ok, oS_some, noX_ok, wp_ok, ws_nx, ws_rt, fz, dref, fIx, atI0, atI1, atI2, ixN_20, ixN_21, ixN_10, Option.map_some, fGt, fGe, fSub, fI, fI0, fAdd, fInt, fLen, lenD, outsOf, parOnly, notSlt, List.take_succ_cons, List.take_zero, if_true, if_false, Bool.false_eq_true, decide_true, decide_false, Bool.not_true, Bool.not_false, fIs, fIsNot, isNoneD, sTg, gmT, gmCons, gmN, gmNil, mPop, sAug, mExt, sPar, and_true, true_and, List.isEmpty_nil, List.isEmpty_cons, Nat.reduceAdd, Nat.reduceLeDiff, Nat.reduceLT, le_sz, lt_sz, fLt_i, fEq_i, fNe_i, fLe_i, dec0]
    refine call_pot (ds := [t]) (bent_ok 12 t gt.1 (by have := gt.2.2; omega)) hs fun a s r hs hr => ?_
    obtain ⟨d1, rfl, g1⟩ := hr
    simp only [sIf, ws_ofE, wp_bind, wp_noX, mTB, mTr, mNotT, mAndT, mOrT, mAnd, mOr, mNot, mIf, mNeg, mBin, bin2, mChain, mVar, mK, mB, mCall_eq, aNil, aCons, mTup, mLst, mSl, oNo, oSome, mIsi, anyT, isT, truD, sSet, setR, sRet, retR, sNil, sEx, sDvm, sSt, lstAt, putLst, drefs, dats, List.map_cons, List.map_nil, List.cons_append, List.nil_append, List.append_nil, List.replicate, List.getElem?_cons_zero, List.getElem?_cons_succ, List.set_cons_zero, List.set_cons_succ, List.length_cons, List.length_nil, bind_ok, ofO_some, ofE_ok, oS_some, noX_ok, wp_ok, ws_nx, ws_rt, fz, dref, fIx, atI0, atI1, atI2, ixN_20, ixN_21, ixN_10, Option.map_some, fGt, fGe, fSub, fI, fI0, fAdd, fInt, fLen, lenD, outsOf, parOnly, notSlt, List.take_succ_cons, List.take_zero, if_true, if_false, Bool.false_eq_true, decide_true, decide_false, Bool.not_true, Bool.not_false, fIs, fIsNot, isNoneD, sTg, gmT, gmCons, gmN, gmNil, mPop, sAug, mExt, sPar, and_true, true_and, List.isEmpty_nil, List.isEmpty_cons, Nat.reduceAdd, Nat.reduceLeDiff, Nat.reduceLT, le_sz, lt_sz, fLt_i, fEq_i, fNe_i, fLe_i, dec0]
    refine call_pot (ds := [m]) (bent_ok 12 m gm.1 (by have := gm.2.2; omega)) hs fun a s r hs hr => ?_
    obtain ⟨d2, rfl, g2⟩ := hr
    simp only [sIf, ws_ofE, wp_bind, wp_noX, mTB, mTr, mNotT, mAndT, mOrT, mAnd, mOr, mNot, mIf, mNeg, mBin, bin2, mChain, mVar, mK, mB, mCall_eq, aNil, aCons, mTup, mLst, mSl, oNo, oSome, mIsi, anyT, isT, truD, sSet, setR, sRet, retR, sNil, sEx, sDvm, sSt, lstAt, putLst, drefs, dats, List.map_cons, List.map_nil, List.cons_append, List.nil_append, List.append_nil, List.replicate, List.getElem?_cons_zero, List.getElem?_cons_succ, List.set_cons_zero, List.set_cons_succ, List.length_cons, List.length_nil, bind_ok, ofO_some, ofE_ok, oS_some, noX_ok, wp_ok, ws_nx, ws_rt, fz, dref, fIx, atI0, atI1, atI2, ixN_20, ixN_21, ixN_10, Option.map_some, fGt, fGe, fSub, fI, fI0, fAdd, fInt, fLen, lenD, outsOf, parOnly, notSlt, List.take_succ_cons, List.take_zero, if_true, if_false, Bool.false_eq_true, decide_true, decide_false, Bool.not_true, Bool.not_false, fIs, fIsNot, isNoneD, sTg, gmT, gmCons, gmN, gmNil, mPop, sAug, mExt, sPar, and_true, true_and, List.isEmpty_nil, List.isEmpty_cons, Nat.reduceAdd, Nat.reduceLeDiff, Nat.reduceLT, le_sz, lt_sz, fLt_i, fEq_i, fNe_i, fLe_i, dec0, le_sz (n := fs.length + 2) (by omega)]
    refine ⟨a, s, _, _, hs, ?_, ?_, rfl⟩
    · intro d hd
      rcases List.mem_append.mp hd with hd | hd
      · exact hf d hd
      · rcases List.mem_cons.mp hd with rfl | hd
        · exact gb_gd gt g1
        · rw [List.mem_singleton.mp hd]; exact gb_gd gm g2
    · rw [List.length_append]
      show fs.length + 2 + 2 * es.length ≤ 43
      omega
  · rintro ρ ⟨a, s, fs, x, hs, hf, hl, rfl⟩
    exact ⟨a, s, fs, x, hs, hf, by rw [List.length_nil] at hl; omega, rfl⟩
abbrev lfA : D := .tuple [.str "is", .str "a"]
abbrev lfB (y : Int) : D := .tuple [.str "at", .int y]
theorem lfA_ok : okD lfA = true ∧ wt lfA ≤ 3 ∧ lfA.depth ≤ 1 := by decide +kernel
theorem lfB_ok {y : Int} (h0 : 0 ≤ y) (h1 : y < 30) : okD (lfB y) = true ∧ wt (lfB y) ≤ 3 ∧ (lfB y).depth ≤ 1 := by
  have key : ∀ k : Fin 30, okD (lfB (k.val : Int)) = true ∧ wt (lfB (k.val : Int)) ≤ 3 ∧ (lfB (k.val : Int)).depth ≤ 1 := by decide +kernel
  have := key ⟨y.toNat, by omega⟩
  have e : ((y.toNat : Nat) : Int) = y := by omega
  simpa only [e] using this
theorem mul_leaf {leaf : D} {k : Int} (h0 : 2 ≤ k) (h1 : k ≤ 1000) : fMul (.tuple [leaf]) (.int k) = some (.dat (.tuple (List.replicate k.toNat leaf))) := by
  unfold fMul
  dsimp only
  rw [if_pos ⟨by simp, h0, h1, by simp⟩, rep_flat]
theorem call_gd {k : Nat} (h0 : 0 < k) (h1 : k ≤ 1000) : Gd (.tuple [.str "call", .str "f", .tuple (List.replicate k lfA)]) := by
  obtain ⟨j, rfl⟩ : ∃ j, k = j + 1 := ⟨k - 1, by omega⟩
  have ho := rep_ok lfA_ok.1 (j + 1)
  have hw := rep_wt lfA (j + 1)
  have hd := rep_dep lfA_ok.2.2 (j + 1)
  have w3 : wt lfA = 3 := by decide +kernel
  rw [w3] at hw
  have hh : hdOk (List.replicate (j + 1) lfA) = true := by rw [List.replicate_succ]; rfl
  have k1 : okS "call" = true := okw.2.2.2.2.2.2.2.2.2.1
  have k2 : okS "f" = true := okw.2.2.2.2.2.2.2.2.2.2.2.2
  refine ⟨?_, ?_, ?_⟩
  · simp only [okD, okAll, ho, hh, k1, k2]; rfl
  · simp only [wt, wtAll]; omega
  · simp only [PyData.depth, PyData.depthAll]; omega
end Lw
end Vl

set_option Elab.async false
set_option linter.all false
set_option maxRecDepth 100000
set_option maxHeartbeats 1000000
namespace Vl
open PySem PySem.Spec PyProof.Rows L2
namespace Lw
theorem gd_app {fs es : List D} (hf : ∀ d ∈ fs, Gd d) (he : ∀ d ∈ es, Gd d) : ∀ d ∈ fs ++ es, Gd d := fun d hd => by
  rcases List.mem_append.mp hd with h | h
  · exact hf d h
  · exact he d h
theorem gd_cons {d : D} {es : List D} (hd : Gd d) (he : ∀ d ∈ es, Gd d) : ∀ x ∈ d :: es, Gd x := fun x hx => by
  rcases List.mem_cons.mp hx with rfl | h
  · exact hd
  · exact he x h
theorem gd_nil : ∀ x ∈ ([] : List D), Gd x := fun x hx => nomatch hx
theorem ok_tup {w : Str} {es : List D} (h : okS w = true) (he : okAll es = true) (hl : es.length < 9) : okD (.tuple (.str w :: es)) = true := by
  simp [okD, okAll, hdOk, h, he, hl]
theorem right_ok {a s : Int} (hs : PotOk s) : Wp (M__law_right [Pt a s]) fun r outs => r = .dat (.bool true) ∧ ∃ a' s', outs = [Pt a' s'] := by
  unfold M__law_right
  refine wp_fn (ws_cut (M := fun ρ => ∃ a s t m, PotOk s ∧ Gt t ∧ Gt m ∧ ρ = [Pt a s, .dat t, .dat m, .non, .non, .non, .non, .non]) ?_ fun ρ hρ => ?_)
  · simp only [sIf, ws_ofE, wp_bind, wp_noX, mTB, mTr, mNotT, mAndT, mOrT, mAnd, mOr, mNot, mIf, mNeg, mBin, bin2, mChain, mVar, mK, mB, mCall_eq, aNil, aCons, mTup, mLst, mSl, oNo, oSome, mIsi, anyT, isT, truD, sSet, setR, sRet, retR, sNil, sEx, sDvm, sSt, lstAt, putLst, drefs, dats, List.map_cons, List.map_nil, List.cons_append, List.nil_append, List.append_nil, List.replicate, List.getElem?_cons_zero, List.getElem?_cons_succ, List.set_cons_zero, List.set_cons_succ, List.length_cons, List.length_nil, bind_ok, ofO_some, ofE_ok, oS_some, noX_ok, wp_ok, ws_nx, ws_rt, fz, dref, fIx, atI0, atI1, atI2, ixN_20, ixN_21, ixN_10, Option.map_some, fGt, fGe, fSub, fI, fI0, fAdd, fInt, fLen, lenD, outsOf, parOnly, notSlt, List.take_succ_cons, List.take_zero, if_true, if_false, Bool.false_eq_true, decide_true, decide_false, Bool.not_true, Bool.not_false, fIs, fIsNot, isNoneD, sTg, gmT, gmCons, gmN, gmNil, mPop, sAug, mExt, sPar, and_true, true_and, List.isEmpty_nil, List.isEmpty_cons, Nat.reduceAdd, Nat.reduceLeDiff, Nat.reduceLT, le_sz, lt_sz, fLt_i, fEq_i, fNe_i, fLe_i, dec0, sPar]
    refine call_pot (ds := [.int 4]) (draw_ok (by decide) (by decide)) hs fun a s r hs hr => ?_
    obtain ⟨x, rfl, x0, x1⟩ := hr
    have ex : 1 + x = ((1 + x.toNat : Nat) : Int) := by omega
    simp only [sIf, ws_ofE, wp_bind, wp_noX, mTB, mTr, mNotT, mAndT, mOrT, mAnd, mOr, mNot, mIf, mNeg, mBin, bin2, mChain, mVar, mK, mB, mCall_eq, aNil, aCons, mTup, mLst, mSl, oNo, oSome, mIsi, anyT, isT, truD, sSet, setR, sRet, retR, sNil, sEx, sDvm, sSt, lstAt, putLst, drefs, dats, List.map_cons, List.map_nil, List.cons_append, List.nil_append, List.append_nil, List.replicate, List.getElem?_cons_zero, List.getElem?_cons_succ, List.set_cons_zero, List.set_cons_succ, List.length_cons, List.length_nil, bind_ok, ofO_some, ofE_ok, oS_some, noX_ok, wp_ok, ws_nx, ws_rt, fz, dref, fIx, atI0, atI1, atI2, ixN_20, ixN_21, ixN_10, Option.map_some, fGt, fGe, fSub, fI, fI0, fAdd, fInt, fLen, lenD, outsOf, parOnly, notSlt, List.take_succ_cons, List.take_zero, if_true, if_false, Bool.false_eq_true, decide_true, decide_false, Bool.not_true, Bool.not_false, fIs, fIsNot, isNoneD, sTg, gmT, gmCons, gmN, gmNil, mPop, sAug, mExt, sPar, and_true, true_and, List.isEmpty_nil, List.isEmpty_cons, Nat.reduceAdd, Nat.reduceLeDiff, Nat.reduceLT, le_sz, lt_sz, fLt_i, fEq_i, fNe_i, fLe_i, dec0, ex]
    refine call_pot (ds := [nms, .int ((1 + x.toNat : Nat) : Int)]) (formula_ok 8 (1 + x.toNat) (by omega)) hs fun a s r hs hr => ?_
    obtain ⟨t, rfl, gt⟩ := hr
    simp only [sIf, ws_ofE, wp_bind, wp_noX, mTB, mTr, mNotT, mAndT, mOrT, mAnd, mOr, mNot, mIf, mNeg, mBin, bin2, mChain, mVar, mK, mB, mCall_eq, aNil, aCons, mTup, mLst, mSl, oNo, oSome, mIsi, anyT, isT, truD, sSet, setR, sRet, retR, sNil, sEx, sDvm, sSt, lstAt, putLst, drefs, dats, List.map_cons, List.map_nil, List.cons_append, List.nil_append, List.append_nil, List.replicate, List.getElem?_cons_zero, List.getElem?_cons_succ, List.set_cons_zero, List.set_cons_succ, List.length_cons, List.length_nil, bind_ok, ofO_some, ofE_ok, oS_some, noX_ok, wp_ok, ws_nx, ws_rt, fz, dref, fIx, atI0, atI1, atI2, ixN_20, ixN_21, ixN_10, Option.map_some, fGt, fGe, fSub, fI, fI0, fAdd, fInt, fLen, lenD, outsOf, parOnly, notSlt, List.take_succ_cons, List.take_zero, if_true, if_false, Bool.false_eq_true, decide_true, decide_false, Bool.not_true, Bool.not_false, fIs, fIsNot, isNoneD, sTg, gmT, gmCons, gmN, gmNil, mPop, sAug, mExt, sPar, and_true, true_and, List.isEmpty_nil, List.isEmpty_cons, Nat.reduceAdd, Nat.reduceLeDiff, Nat.reduceLT, le_sz, lt_sz, fLt_i, fEq_i, fNe_i, fLe_i, dec0]
    refine call_pot (ds := [.int 4]) (draw_ok (by decide) (by decide)) hs fun a s r hs hr => ?_
    obtain ⟨y, rfl, y0, y1⟩ := hr
    have ey : 1 + y = ((1 + y.toNat : Nat) : Int) := by omega
    simp only [sIf, ws_ofE, wp_bind, wp_noX, mTB, mTr, mNotT, mAndT, mOrT, mAnd, mOr, mNot, mIf, mNeg, mBin, bin2, mChain, mVar, mK, mB, mCall_eq, aNil, aCons, mTup, mLst, mSl, oNo, oSome, mIsi, anyT, isT, truD, sSet, setR, sRet, retR, sNil, sEx, sDvm, sSt, lstAt, putLst, drefs, dats, List.map_cons, List.map_nil, List.cons_append, List.nil_append, List.append_nil, List.replicate, List.getElem?_cons_zero, List.getElem?_cons_succ, List.set_cons_zero, List.set_cons_succ, List.length_cons, List.length_nil, bind_ok, ofO_some, ofE_ok, oS_some, noX_ok, wp_ok, ws_nx, ws_rt, fz, dref, fIx, atI0, atI1, atI2, ixN_20, ixN_21, ixN_10, Option.map_some, fGt, fGe, fSub, fI, fI0, fAdd, fInt, fLen, lenD, outsOf, parOnly, notSlt, List.take_succ_cons, List.take_zero, if_true, if_false, Bool.false_eq_true, decide_true, decide_false, Bool.not_true, Bool.not_false, fIs, fIsNot, isNoneD, sTg, gmT, gmCons, gmN, gmNil, mPop, sAug, mExt, sPar, and_true, true_and, List.isEmpty_nil, List.isEmpty_cons, Nat.reduceAdd, Nat.reduceLeDiff, Nat.reduceLT, le_sz, lt_sz, fLt_i, fEq_i, fNe_i, fLe_i, dec0, ey]
    refine call_pot (ds := [.int 4, .int ((1 + y.toNat : Nat) : Int)]) (simple_ok 8 (1 + y.toNat) (by omega)) hs fun a s r hs hr => ?_
    obtain ⟨m, rfl, gm⟩ := hr
    simp only [sIf, ws_ofE, wp_bind, wp_noX, mTB, mTr, mNotT, mAndT, mOrT, mAnd, mOr, mNot, mIf, mNeg, mBin, bin2, mChain, mVar, mK, mB, mCall_eq, aNil, aCons, mTup, mLst, mSl, oNo, oSome, mIsi, anyT, isT, truD, sSet, setR, sRet, retR, sNil, sEx, sDvm, sSt, lstAt, putLst, drefs, dats, List.map_cons, List.map_nil, List.cons_append, List.nil_append, List.append_nil, List.replicate, List.getElem?_cons_zero, List.getElem?_cons_succ, List.set_cons_zero, List.set_cons_succ, List.length_cons, List.length_nil, bind_ok, ofO_some, ofE_ok, oS_some, noX_ok, wp_ok, ws_nx, ws_rt, fz, dref, fIx, atI0, atI1, atI2, ixN_20, ixN_21, ixN_10, Option.map_some, fGt, fGe, fSub, fI, fI0, fAdd, fInt, fLen, lenD, outsOf, parOnly, notSlt, List.take_succ_cons, List.take_zero, if_true, if_false, Bool.false_eq_true, decide_true, decide_false, Bool.not_true, Bool.not_false, fIs, fIsNot, isNoneD, sTg, gmT, gmCons, gmN, gmNil, mPop, sAug, mExt, sPar, and_true, true_and, List.isEmpty_nil, List.isEmpty_cons, Nat.reduceAdd, Nat.reduceLeDiff, Nat.reduceLT, le_sz, lt_sz, fLt_i, fEq_i, fNe_i, fLe_i, dec0]
    exact ⟨a, s, t, m, hs, gk_gt (by omega) gt, gk_gt (by omega) gm, rfl⟩
  obtain ⟨a, s, t, m, hs, gt, gm, rfl⟩ := hρ
  refine ws_nxc (by simp only [sIf, ws_ofE, wp_bind, wp_noX, mTB, mTr, mNotT, mAndT, mOrT, mAnd, mOr, mNot, mIf, mNeg, mBin, bin2, mChain, mVar, mK, mB, mCall_eq, aNil, aCons, mTup, mLst, mSl, oNo, oSome, mIsi, anyT, isT, truD, sSet, setR, sRet, retR, sNil, sEx, sDvm, sSt, lstAt, putLst, drefs, dats, List.map_cons, List.map_nil, List.cons_append, List.nil_append, List.append_nil, List.replicate, List.getElem?_cons_zero, List.getElem?_cons_succ, List.set_cons_zero, List.set_cons_succ, List.length_cons, List.length_nil, bind_ok, ofO_some, ofE_ok, oS_some, noX_ok, wp_ok, ws_nx, ws_rt, fz, dref, fIx, atI0, atI1, atI2, ixN_20, ixN_21, ixN_10, Option.map_some, fGt, fGe, fSub, fI, fI0, fAdd, fInt, fLen, lenD, outsOf, parOnly, notSlt, List.take_succ_cons, List.take_zero, if_true, if_false, Bool.false_eq_true, decide_true, decide_false, Bool.not_true, Bool.not_false, fIs, fIsNot, isNoneD, sTg, gmT, gmCons, gmN, gmNil, mPop, sAug, mExt, sPar, and_true, true_and, List.isEmpty_nil, List.isEmpty_cons, Nat.reduceAdd, Nat.reduceLeDiff, Nat.reduceLT, le_sz, lt_sz, fLt_i, fEq_i, fNe_i, fLe_i, dec0, ten25]; exact rfl) ?_
  refine ws_nxc (by simp only [sIf, ws_ofE, wp_bind, wp_noX, mTB, mTr, mNotT, mAndT, mOrT, mAnd, mOr, mNot, mIf, mNeg, mBin, bin2, mChain, mVar, mK, mB, mCall_eq, aNil, aCons, mTup, mLst, mSl, oNo, oSome, mIsi, anyT, isT, truD, sSet, setR, sRet, retR, sNil, sEx, sDvm, sSt, lstAt, putLst, drefs, dats, List.map_cons, List.map_nil, List.cons_append, List.nil_append, List.append_nil, List.replicate, List.getElem?_cons_zero, List.getElem?_cons_succ, List.set_cons_zero, List.set_cons_succ, List.length_cons, List.length_nil, bind_ok, ofO_some, ofE_ok, oS_some, noX_ok, wp_ok, ws_nx, ws_rt, fz, dref, fIx, atI0, atI1, atI2, ixN_20, ixN_21, ixN_10, Option.map_some, fGt, fGe, fSub, fI, fI0, fAdd, fInt, fLen, lenD, outsOf, parOnly, notSlt, List.take_succ_cons, List.take_zero, if_true, if_false, Bool.false_eq_true, decide_true, decide_false, Bool.not_true, Bool.not_false, fIs, fIsNot, isNoneD, sTg, gmT, gmCons, gmN, gmNil, mPop, sAug, mExt, sPar, and_true, true_and, List.isEmpty_nil, List.isEmpty_cons, Nat.reduceAdd, Nat.reduceLeDiff, Nat.reduceLT, le_sz, lt_sz, fLt_i, fEq_i, fNe_i, fLe_i, dec0]; exact rfl) ?_
  refine ws_cut (right_1 hs gt gm (gd_cons gt.gd (gd_cons gm.gd (gall (by decide +kernel)))) (by simp)) fun ρ hρ => ?_
  obtain ⟨a, s, fs, x4, hs, hf, hl, rfl⟩ := hρ
  refine ws_cut (M := fun ρ => ∃ a s st, PotOk s ∧ -1 ≤ st ∧ st ≤ 1 ∧ ρ = [Pt a s, .dat t, .dat m, .own (.lst fs), x4, .dat (.int st), .non, .non]) ?_ fun ρ hρ => ?_
  · simp only [sIf, ws_ofE, wp_bind, wp_noX, mTB, mTr, mNotT, mAndT, mOrT, mAnd, mOr, mNot, mIf, mNeg, mBin, bin2, mChain, mVar, mK, mB, mCall_eq, aNil, aCons, mTup, mLst, mSl, oNo, oSome, mIsi, anyT, isT, truD, sSet, setR, sRet, retR, sNil, sEx, sDvm, sSt, lstAt, putLst, drefs, dats, List.map_cons, List.map_nil, List.cons_append, List.nil_append, List.append_nil, List.replicate, List.getElem?_cons_zero, List.getElem?_cons_succ, List.set_cons_zero, List.set_cons_succ, List.length_cons, List.length_nil, bind_ok, ofO_some, ofE_ok, oS_some, noX_ok, wp_ok, ws_nx, ws_rt, fz, dref, fIx, atI0, atI1, atI2, ixN_20, ixN_21, ixN_10, Option.map_some, fGt, fGe, fSub, fI, fI0, fAdd, fInt, fLen, lenD, outsOf, parOnly, notSlt, List.take_succ_cons, List.take_zero, if_true, if_false, Bool.false_eq_true, decide_true, decide_false, Bool.not_true, Bool.not_false, fIs, fIsNot, isNoneD, sTg, gmT, gmCons, gmN, gmNil, mPop, sAug, mExt, sPar, and_true, true_and, List.isEmpty_nil, List.isEmpty_cons, Nat.reduceAdd, Nat.reduceLeDiff, Nat.reduceLT, le_sz, lt_sz, fLt_i, fEq_i, fNe_i, fLe_i, dec0]
    refine call_pot (ds := [.int 3]) (draw_ok (by decide) (by decide)) hs fun a s r hs hr => ?_
    obtain ⟨x, rfl, x0, x1⟩ := hr
    simp only [sIf, ws_ofE, wp_bind, wp_noX, mTB, mTr, mNotT, mAndT, mOrT, mAnd, mOr, mNot, mIf, mNeg, mBin, bin2, mChain, mVar, mK, mB, mCall_eq, aNil, aCons, mTup, mLst, mSl, oNo, oSome, mIsi, anyT, isT, truD, sSet, setR, sRet, retR, sNil, sEx, sDvm, sSt, lstAt, putLst, drefs, dats, List.map_cons, List.map_nil, List.cons_append, List.nil_append, List.append_nil, List.replicate, List.getElem?_cons_zero, List.getElem?_cons_succ, List.set_cons_zero, List.set_cons_succ, List.length_cons, List.length_nil, bind_ok, ofO_some, ofE_ok, oS_some, noX_ok, wp_ok, ws_nx, ws_rt, fz, dref, fIx, atI0, atI1, atI2, ixN_20, ixN_21, ixN_10, Option.map_some, fGt, fGe, fSub, fI, fI0, fAdd, fInt, fLen, lenD, outsOf, parOnly, notSlt, List.take_succ_cons, List.take_zero, if_true, if_false, Bool.false_eq_true, decide_true, decide_false, Bool.not_true, Bool.not_false, fIs, fIsNot, isNoneD, sTg, gmT, gmCons, gmN, gmNil, mPop, sAug, mExt, sPar, and_true, true_and, List.isEmpty_nil, List.isEmpty_cons, Nat.reduceAdd, Nat.reduceLeDiff, Nat.reduceLT, le_sz, lt_sz, fLt_i, fEq_i, fNe_i, fLe_i, dec0]
    exact ⟨a, s, x - 1, hs, by omega, by omega, rfl⟩
  obtain ⟨a, s, st, hs, s0, s1, rfl⟩ := hρ
  refine ws_cut (M := fun ρ => ∃ a s y, PotOk s ∧ 0 ≤ y ∧ y < 30 ∧ ρ = [Pt a s, .dat t, .dat m, .own (.lst fs), x4, .dat (.int st), .dat lfA, .dat (lfB y)]) ?_ fun ρ hρ => ?_
  · simp only [sIf, ws_ofE, wp_bind, wp_noX, mTB, mTr, mNotT, mAndT, mOrT, mAnd, mOr, mNot, mIf, mNeg, mBin, bin2, mChain, mVar, mK, mB, mCall_eq, aNil, aCons, mTup, mLst, mSl, oNo, oSome, mIsi, anyT, isT, truD, sSet, setR, sRet, retR, sNil, sEx, sDvm, sSt, lstAt, putLst, drefs, dats, List.map_cons, List.map_nil, List.cons_append, List.nil_append, List.append_nil, List.replicate, List.getElem?_cons_zero, List.getElem?_cons_succ, List.set_cons_zero, List.set_cons_succ, List.length_cons, List.length_nil, bind_ok, ofO_some, ofE_ok, oS_some, noX_ok, wp_ok, ws_nx, ws_rt, fz, dref, fIx, atI0, atI1, atI2, ixN_20, ixN_21, ixN_10, Option.map_some, fGt, fGe, fSub, fI, fI0, fAdd, fInt, fLen, lenD, outsOf, parOnly, notSlt, List.take_succ_cons, List.take_zero, if_true, if_false, Bool.false_eq_true, decide_true, decide_false, Bool.not_true, Bool.not_false, fIs, fIsNot, isNoneD, sTg, gmT, gmCons, gmN, gmNil, mPop, sAug, mExt, sPar, and_true, true_and, List.isEmpty_nil, List.isEmpty_cons, Nat.reduceAdd, Nat.reduceLeDiff, Nat.reduceLT, le_sz, lt_sz, fLt_i, fEq_i, fNe_i, fLe_i, dec0, sPar]
    refine call_pot (ds := [.int 30]) (draw_ok (by decide) (by decide)) hs fun a s r hs hr => ?_
    obtain ⟨y, rfl, y0, y1⟩ := hr
    simp only [sIf, ws_ofE, wp_bind, wp_noX, mTB, mTr, mNotT, mAndT, mOrT, mAnd, mOr, mNot, mIf, mNeg, mBin, bin2, mChain, mVar, mK, mB, mCall_eq, aNil, aCons, mTup, mLst, mSl, oNo, oSome, mIsi, anyT, isT, truD, sSet, setR, sRet, retR, sNil, sEx, sDvm, sSt, lstAt, putLst, drefs, dats, List.map_cons, List.map_nil, List.cons_append, List.nil_append, List.append_nil, List.replicate, List.getElem?_cons_zero, List.getElem?_cons_succ, List.set_cons_zero, List.set_cons_succ, List.length_cons, List.length_nil, bind_ok, ofO_some, ofE_ok, oS_some, noX_ok, wp_ok, ws_nx, ws_rt, fz, dref, fIx, atI0, atI1, atI2, ixN_20, ixN_21, ixN_10, Option.map_some, fGt, fGe, fSub, fI, fI0, fAdd, fInt, fLen, lenD, outsOf, parOnly, notSlt, List.take_succ_cons, List.take_zero, if_true, if_false, Bool.false_eq_true, decide_true, decide_false, Bool.not_true, Bool.not_false, fIs, fIsNot, isNoneD, sTg, gmT, gmCons, gmN, gmNil, mPop, sAug, mExt, sPar, and_true, true_and, List.isEmpty_nil, List.isEmpty_cons, Nat.reduceAdd, Nat.reduceLeDiff, Nat.reduceLT, le_sz, lt_sz, fLt_i, fEq_i, fNe_i, fLe_i, dec0]
    exact ⟨a, s, y, hs, y0, y1, rfl⟩
  obtain ⟨a, s, y, hs, y0, y1, rfl⟩ := hρ
  obtain ⟨A1, A2, A3⟩ := lfA_ok
  obtain ⟨B1, B2, B3⟩ := lfB_ok y0 y1
  refine ws_cut (M := fun ρ => ∃ a s gs, PotOk s ∧ (∀ d ∈ gs, Gd d) ∧ gs.length ≤ 47 ∧ ρ = [Pt a s, .dat t, .dat m, .own (.lst gs), x4, .dat (.int st), .dat lfA, .dat (lfB y)]) ?_ fun ρ hρ => ?_
  · simp only [sIf, ws_ofE, wp_bind, wp_noX, mTB, mTr, mNotT, mAndT, mOrT, mAnd, mOr, mNot, mIf, mNeg, mBin, bin2, mChain, mVar, mK, mB, mCall_eq, aNil, aCons, mTup, mLst, mSl, oNo, oSome, mIsi, anyT, isT, truD, sSet, setR, sRet, retR, sNil, sEx, sDvm, sSt, lstAt, putLst, drefs, dats, List.map_cons, List.map_nil, List.cons_append, List.nil_append, List.append_nil, List.replicate, List.getElem?_cons_zero, List.getElem?_cons_succ, List.set_cons_zero, List.set_cons_succ, List.length_cons, List.length_nil, bind_ok, ofO_some, ofE_ok, oS_some, noX_ok, wp_ok, ws_nx, ws_rt, fz, dref, fIx, atI0, atI1, atI2, ixN_20, ixN_21, ixN_10, Option.map_some, fGt, fGe, fSub, fI, fI0, fAdd, fInt, fLen, lenD, outsOf, parOnly, notSlt, List.take_succ_cons, List.take_zero, if_true, if_false, Bool.false_eq_true, decide_true, decide_false, Bool.not_true, Bool.not_false, fIs, fIsNot, isNoneD, sTg, gmT, gmCons, gmN, gmNil, mPop, sAug, mExt, sPar, and_true, true_and, List.isEmpty_nil, List.isEmpty_cons, Nat.reduceAdd, Nat.reduceLeDiff, Nat.reduceLT, le_sz, lt_sz, fLt_i, fEq_i, fNe_i, fLe_i, dec0]
    refine call_pot (ds := [lfA, .int (20 + st), .bool false]) (long_ok A1 A2 A3 (by omega) (by omega) false) hs fun a s r hs hr => ?_
    obtain ⟨d1, rfl, g1⟩ := hr
    simp only [sIf, ws_ofE, wp_bind, wp_noX, mTB, mTr, mNotT, mAndT, mOrT, mAnd, mOr, mNot, mIf, mNeg, mBin, bin2, mChain, mVar, mK, mB, mCall_eq, aNil, aCons, mTup, mLst, mSl, oNo, oSome, mIsi, anyT, isT, truD, sSet, setR, sRet, retR, sNil, sEx, sDvm, sSt, lstAt, putLst, drefs, dats, List.map_cons, List.map_nil, List.cons_append, List.nil_append, List.append_nil, List.replicate, List.getElem?_cons_zero, List.getElem?_cons_succ, List.set_cons_zero, List.set_cons_succ, List.length_cons, List.length_nil, bind_ok, ofO_some, ofE_ok, oS_some, noX_ok, wp_ok, ws_nx, ws_rt, fz, dref, fIx, atI0, atI1, atI2, ixN_20, ixN_21, ixN_10, Option.map_some, fGt, fGe, fSub, fI, fI0, fAdd, fInt, fLen, lenD, outsOf, parOnly, notSlt, List.take_succ_cons, List.take_zero, if_true, if_false, Bool.false_eq_true, decide_true, decide_false, Bool.not_true, Bool.not_false, fIs, fIsNot, isNoneD, sTg, gmT, gmCons, gmN, gmNil, mPop, sAug, mExt, sPar, and_true, true_and, List.isEmpty_nil, List.isEmpty_cons, Nat.reduceAdd, Nat.reduceLeDiff, Nat.reduceLT, le_sz, lt_sz, fLt_i, fEq_i, fNe_i, fLe_i, dec0]
    refine call_pot (ds := [lfB y, .int (40 + st), .bool true]) (long_ok B1 B2 B3 (by omega) (by omega) true) hs fun a s r hs hr => ?_
    obtain ⟨d2, rfl, g2⟩ := hr
    simp only [sIf, ws_ofE, wp_bind, wp_noX, mTB, mTr, mNotT, mAndT, mOrT, mAnd, mOr, mNot, mIf, mNeg, mBin, bin2, mChain, mVar, mK, mB, mCall_eq, aNil, aCons, mTup, mLst, mSl, oNo, oSome, mIsi, anyT, isT, truD, sSet, setR, sRet, retR, sNil, sEx, sDvm, sSt, lstAt, putLst, drefs, dats, List.map_cons, List.map_nil, List.cons_append, List.nil_append, List.append_nil, List.replicate, List.getElem?_cons_zero, List.getElem?_cons_succ, List.set_cons_zero, List.set_cons_succ, List.length_cons, List.length_nil, bind_ok, ofO_some, ofE_ok, oS_some, noX_ok, wp_ok, ws_nx, ws_rt, fz, dref, fIx, atI0, atI1, atI2, ixN_20, ixN_21, ixN_10, Option.map_some, fGt, fGe, fSub, fI, fI0, fAdd, fInt, fLen, lenD, outsOf, parOnly, notSlt, List.take_succ_cons, List.take_zero, if_true, if_false, Bool.false_eq_true, decide_true, decide_false, Bool.not_true, Bool.not_false, fIs, fIsNot, isNoneD, sTg, gmT, gmCons, gmN, gmNil, mPop, sAug, mExt, sPar, and_true, true_and, List.isEmpty_nil, List.isEmpty_cons, Nat.reduceAdd, Nat.reduceLeDiff, Nat.reduceLT, le_sz, lt_sz, fLt_i, fEq_i, fNe_i, fLe_i, dec0]
    refine wp_dats (ds := [lfA, .int (200 + st)]) (Q := fun r _ => ∃ d, r = .dat d ∧ Gw 2 d) ((wide_ok A1 A2 A3 (by omega) (by omega)).mono fun r _ ⟨d, e, g⟩ => ⟨by rw [e]; rfl, fun _ => ⟨d, e, g⟩⟩) fun r hr => ?_
    obtain ⟨d3, rfl, g3⟩ := hr
    simp only [sIf, ws_ofE, wp_bind, wp_noX, mTB, mTr, mNotT, mAndT, mOrT, mAnd, mOr, mNot, mIf, mNeg, mBin, bin2, mChain, mVar, mK, mB, mCall_eq, aNil, aCons, mTup, mLst, mSl, oNo, oSome, mIsi, anyT, isT, truD, sSet, setR, sRet, retR, sNil, sEx, sDvm, sSt, lstAt, putLst, drefs, dats, List.map_cons, List.map_nil, List.cons_append, List.nil_append, List.append_nil, List.replicate, List.getElem?_cons_zero, List.getElem?_cons_succ, List.set_cons_zero, List.set_cons_succ, List.length_cons, List.length_nil, bind_ok, ofO_some, ofE_ok, oS_some, noX_ok, wp_ok, ws_nx, ws_rt, fz, dref, fIx, atI0, atI1, atI2, ixN_20, ixN_21, ixN_10, Option.map_some, fGt, fGe, fSub, fI, fI0, fAdd, fInt, fLen, lenD, outsOf, parOnly, notSlt, List.take_succ_cons, List.take_zero, if_true, if_false, Bool.false_eq_true, decide_true, decide_false, Bool.not_true, Bool.not_false, fIs, fIsNot, isNoneD, sTg, gmT, gmCons, gmN, gmNil, mPop, sAug, mExt, sPar, and_true, true_and, List.isEmpty_nil, List.isEmpty_cons, Nat.reduceAdd, Nat.reduceLeDiff, Nat.reduceLT, le_sz, lt_sz, fLt_i, fEq_i, fNe_i, fLe_i, dec0]
    refine wp_dats (ds := [lfB y, .int (400 + st)]) (Q := fun r _ => ∃ d, r = .dat d ∧ Gw 2 d) ((wide_ok B1 B2 B3 (by omega) (by omega)).mono fun r _ ⟨d, e, g⟩ => ⟨by rw [e]; rfl, fun _ => ⟨d, e, g⟩⟩) fun r hr => ?_
    obtain ⟨d4, rfl, g4⟩ := hr
    simp only [sIf, ws_ofE, wp_bind, wp_noX, mTB, mTr, mNotT, mAndT, mOrT, mAnd, mOr, mNot, mIf, mNeg, mBin, bin2, mChain, mVar, mK, mB, mCall_eq, aNil, aCons, mTup, mLst, mSl, oNo, oSome, mIsi, anyT, isT, truD, sSet, setR, sRet, retR, sNil, sEx, sDvm, sSt, lstAt, putLst, drefs, dats, List.map_cons, List.map_nil, List.cons_append, List.nil_append, List.append_nil, List.replicate, List.getElem?_cons_zero, List.getElem?_cons_succ, List.set_cons_zero, List.set_cons_succ, List.length_cons, List.length_nil, bind_ok, ofO_some, ofE_ok, oS_some, noX_ok, wp_ok, ws_nx, ws_rt, fz, dref, fIx, atI0, atI1, atI2, ixN_20, ixN_21, ixN_10, Option.map_some, fGt, fGe, fSub, fI, fI0, fAdd, fInt, fLen, lenD, outsOf, parOnly, notSlt, List.take_succ_cons, List.take_zero, if_true, if_false, Bool.false_eq_true, decide_true, decide_false, Bool.not_true, Bool.not_false, fIs, fIsNot, isNoneD, sTg, gmT, gmCons, gmN, gmNil, mPop, sAug, mExt, sPar, and_true, true_and, List.isEmpty_nil, List.isEmpty_cons, Nat.reduceAdd, Nat.reduceLeDiff, Nat.reduceLT, le_sz, lt_sz, fLt_i, fEq_i, fNe_i, fLe_i, dec0, le_sz (n := fs.length + 4) (by omega)]
    exact ⟨a, s, _, hs, gd_app hf (gd_cons (gl_gd (by omega) g1) (gd_cons (gl_gd (by omega) g2) (gd_cons (gw_gd g3) (gd_cons (gw_gd g4) gd_nil)))), by rw [List.length_append]; show fs.length + 4 ≤ 47; omega, rfl⟩
  obtain ⟨a, s, gs, hs, hg, hgl, rfl⟩ := hρ
  refine ws_cut (M := fun ρ => ∃ a s gs, PotOk s ∧ (∀ d ∈ gs, Gd d) ∧ ρ = [Pt a s, .dat t, .dat m, .own (.lst gs), x4, .dat (.int st), .dat lfA, .dat (lfB y)]) ?_ fun ρ hρ => ?_
  · simp only [sIf, ws_ofE, wp_bind, wp_noX, mTB, mTr, mNotT, mAndT, mOrT, mAnd, mOr, mNot, mIf, mNeg, mBin, bin2, mChain, mVar, mK, mB, mCall_eq, aNil, aCons, mTup, mLst, mSl, oNo, oSome, mIsi, anyT, isT, truD, sSet, setR, sRet, retR, sNil, sEx, sDvm, sSt, lstAt, putLst, drefs, dats, List.map_cons, List.map_nil, List.cons_append, List.nil_append, List.append_nil, List.replicate, List.getElem?_cons_zero, List.getElem?_cons_succ, List.set_cons_zero, List.set_cons_succ, List.length_cons, List.length_nil, bind_ok, ofO_some, ofE_ok, oS_some, noX_ok, wp_ok, ws_nx, ws_rt, fz, dref, fIx, atI0, atI1, atI2, ixN_20, ixN_21, ixN_10, Option.map_some, fGt, fGe, fSub, fI, fI0, fAdd, fInt, fLen, lenD, outsOf, parOnly, notSlt, List.take_succ_cons, List.take_zero, if_true, if_false, Bool.false_eq_true, decide_true, decide_false, Bool.not_true, Bool.not_false, fIs, fIsNot, isNoneD, sTg, gmT, gmCons, gmN, gmNil, mPop, sAug, mExt, sPar, and_true, true_and, List.isEmpty_nil, List.isEmpty_cons, Nat.reduceAdd, Nat.reduceLeDiff, Nat.reduceLT, le_sz, lt_sz, fLt_i, fEq_i, fNe_i, fLe_i, dec0, mul_leaf (leaf := lfA) (k := 199 + st) (by omega) (by omega)]
    refine call_pot (ds := [lfB y, .int 39, .bool true]) (long_ok B1 B2 B3 (by omega) (by omega) true) hs fun a s r hs hr => ?_
    obtain ⟨d1, rfl, g1⟩ := hr
    simp only [sIf, ws_ofE, wp_bind, wp_noX, mTB, mTr, mNotT, mAndT, mOrT, mAnd, mOr, mNot, mIf, mNeg, mBin, bin2, mChain, mVar, mK, mB, mCall_eq, aNil, aCons, mTup, mLst, mSl, oNo, oSome, mIsi, anyT, isT, truD, sSet, setR, sRet, retR, sNil, sEx, sDvm, sSt, lstAt, putLst, drefs, dats, List.map_cons, List.map_nil, List.cons_append, List.nil_append, List.append_nil, List.replicate, List.getElem?_cons_zero, List.getElem?_cons_succ, List.set_cons_zero, List.set_cons_succ, List.length_cons, List.length_nil, bind_ok, ofO_some, ofE_ok, oS_some, noX_ok, wp_ok, ws_nx, ws_rt, fz, dref, fIx, atI0, atI1, atI2, ixN_20, ixN_21, ixN_10, Option.map_some, fGt, fGe, fSub, fI, fI0, fAdd, fInt, fLen, lenD, outsOf, parOnly, notSlt, List.take_succ_cons, List.take_zero, if_true, if_false, Bool.false_eq_true, decide_true, decide_false, Bool.not_true, Bool.not_false, fIs, fIsNot, isNoneD, sTg, gmT, gmCons, gmN, gmNil, mPop, sAug, mExt, sPar, and_true, true_and, List.isEmpty_nil, List.isEmpty_cons, Nat.reduceAdd, Nat.reduceLeDiff, Nat.reduceLT, le_sz, lt_sz, fLt_i, fEq_i, fNe_i, fLe_i, dec0]
    refine call_pot (ds := [lfB y, .int 38, .bool true]) (long_ok B1 B2 B3 (by omega) (by omega) true) hs fun a s r hs hr => ?_
    obtain ⟨d2, rfl, g2⟩ := hr
    simp only [sIf, ws_ofE, wp_bind, wp_noX, mTB, mTr, mNotT, mAndT, mOrT, mAnd, mOr, mNot, mIf, mNeg, mBin, bin2, mChain, mVar, mK, mB, mCall_eq, aNil, aCons, mTup, mLst, mSl, oNo, oSome, mIsi, anyT, isT, truD, sSet, setR, sRet, retR, sNil, sEx, sDvm, sSt, lstAt, putLst, drefs, dats, List.map_cons, List.map_nil, List.cons_append, List.nil_append, List.append_nil, List.replicate, List.getElem?_cons_zero, List.getElem?_cons_succ, List.set_cons_zero, List.set_cons_succ, List.length_cons, List.length_nil, bind_ok, ofO_some, ofE_ok, oS_some, noX_ok, wp_ok, ws_nx, ws_rt, fz, dref, fIx, atI0, atI1, atI2, ixN_20, ixN_21, ixN_10, Option.map_some, fGt, fGe, fSub, fI, fI0, fAdd, fInt, fLen, lenD, outsOf, parOnly, notSlt, List.take_succ_cons, List.take_zero, if_true, if_false, Bool.false_eq_true, decide_true, decide_false, Bool.not_true, Bool.not_false, fIs, fIsNot, isNoneD, sTg, gmT, gmCons, gmN, gmNil, mPop, sAug, mExt, sPar, and_true, true_and, List.isEmpty_nil, List.isEmpty_cons, Nat.reduceAdd, Nat.reduceLeDiff, Nat.reduceLT, le_sz, lt_sz, fLt_i, fEq_i, fNe_i, fLe_i, dec0, le_sz (n := gs.length + 3) (by omega)]
    have k1 : okS "not" = true := okw.2.2.2.2.1
    have k2 : okS "if" = true := okw.2.2.2.2.2.2.2.2.1
    have u1 : Gd (.tuple [.str "not", d1]) := by
      refine ⟨by simp [okD, okAll, hdOk, k1, g1.1], ?_, ?_⟩
      · have := g1.2.1
        simp only [wt, wtAll]; omega
      · have := g1.2.2
        simp only [PyData.depth, PyData.depthAll]; omega
    have u2 : Gd (.tuple [.str "if", d2, lfB y, lfB y]) := by
      refine ⟨?_, ?_, ?_⟩
      · exact ok_tup k2 (okAll_iff.mpr (fun d hd => by
          rcases List.mem_cons.mp hd with rfl | hd
          · exact g2.1
          · rcases List.mem_cons.mp hd with rfl | hd
            · exact B1
            · rw [List.mem_singleton.mp hd]; exact B1)) (by simp)
      · have := g2.2.1
        simp only [wt, wtAll]; omega
      · have := g2.2.2
        simp only [PyData.depth, PyData.depthAll]; omega
    exact ⟨a, s, _, hs, gd_app hg (gd_cons (call_gd (by omega) (by omega)) (gd_cons u1 (gd_cons u2 gd_nil))), rfl⟩
  obtain ⟨a, s, gs, hs, hg, rfl⟩ := hρ
  simp only [sIf, ws_ofE, wp_bind, wp_noX, mTB, mTr, mNotT, mAndT, mOrT, mAnd, mOr, mNot, mIf, mNeg, mBin, bin2, mChain, mVar, mK, mB, mCall_eq, aNil, aCons, mTup, mLst, mSl, oNo, oSome, mIsi, anyT, isT, truD, sSet, setR, sRet, retR, sNil, sEx, sDvm, sSt, lstAt, putLst, drefs, dats, List.map_cons, List.map_nil, List.cons_append, List.nil_append, List.append_nil, List.replicate, List.getElem?_cons_zero, List.getElem?_cons_succ, List.set_cons_zero, List.set_cons_succ, List.length_cons, List.length_nil, bind_ok, ofO_some, ofE_ok, oS_some, noX_ok, wp_ok, ws_nx, ws_rt, fz, dref, fIx, atI0, atI1, atI2, ixN_20, ixN_21, ixN_10, Option.map_some, fGt, fGe, fSub, fI, fI0, fAdd, fInt, fLen, lenD, outsOf, parOnly, notSlt, List.take_succ_cons, List.take_zero, if_true, if_false, Bool.false_eq_true, decide_true, decide_false, Bool.not_true, Bool.not_false, fIs, fIsNot, isNoneD, sTg, gmT, gmCons, gmN, gmNil, mPop, sAug, mExt, sPar, and_true, true_and, List.isEmpty_nil, List.isEmpty_cons, Nat.reduceAdd, Nat.reduceLeDiff, Nat.reduceLT, le_sz, lt_sz, fLt_i, fEq_i, fNe_i, fLe_i, dec0, sFz, ev1 (right_ev hg)]
  exact ⟨a, s, rfl⟩
end Lw
end Vl

set_option Elab.async false
set_option linter.all false
set_option maxRecDepth 100000
namespace Vl
open PySem PySem.Spec PyProof.Rows L2
namespace Lw
theorem wp_to {r : Rg Res} {v : Res} {ρ : List Sl} (h : Wp r fun x ρ' => x = v ∧ ρ' = ρ) : r = .ok v ρ := by
  cases r with
  | ok x ρ' => obtain ⟨e1, e2⟩ := h; rw [e1, e2]
  | stuck => exact h.elim
  | exc x ρ' => exact h.elim
theorem callF_right {a s : Int} (hs : PotOk s) (ρ : List Sl) : callF M__law_right (.lst [.int a, .int s]) ρ = .ok (.dat (.bool true)) ρ := by
  have h := right_ok (a := a) hs
  unfold callF
  cases e : M__law_right [Sl.par (.lst [.int a, .int s])] with
  | stuck => rw [e] at h; exact h.elim
  | exc x ρ' => rw [e] at h; exact h.elim
  | ok r outs =>
    rw [e] at h
    obtain ⟨rfl, a', s', rfl⟩ := h
    rfl
theorem one_ok (ns : List Int) (k : Nat) (hk : k ≤ 5) : mCallF M__law_right (mCall M__law_pot (aCons (mVar 0) (aCons (mVar 1) (aNil)))) [.dat (.dict (scr ns)), .dat (.int k)] = .ok (.dat (.bool true)) [.dat (.dict (scr ns)), .dat (.int k)] := by
  apply wp_to
  unfold mCallF
  simp only [sIf, ws_ofE, wp_bind, wp_noX, mTB, mTr, mNotT, mAndT, mOrT, mAnd, mOr, mNot, mIf, mNeg, mBin, bin2, mChain, mVar, mK, mB, mCall_eq, aNil, aCons, mTup, mLst, mSl, oNo, oSome, mIsi, anyT, isT, truD, sSet, setR, sRet, retR, sNil, sEx, sDvm, sSt, lstAt, putLst, drefs, dats, List.map_cons, List.map_nil, List.cons_append, List.nil_append, List.append_nil, List.replicate, List.getElem?_cons_zero, List.getElem?_cons_succ, List.set_cons_zero, List.set_cons_succ, List.length_cons, List.length_nil, bind_ok, ofO_some, ofE_ok, oS_some, noX_ok, wp_ok, ws_nx, ws_rt, fz, dref, fIx, atI0, atI1, atI2, ixN_20, ixN_21, ixN_10, Option.map_some, fGt, fGe, fSub, fI, fI0, fAdd, fInt, fLen, lenD, outsOf, parOnly, notSlt, List.take_succ_cons, List.take_zero, if_true, if_false, Bool.false_eq_true, decide_true, decide_false, Bool.not_true, Bool.not_false, fIs, fIsNot, isNoneD, sTg, gmT, gmCons, gmN, gmNil, mPop, sAug, mExt, sPar, and_true, true_and, List.isEmpty_nil, List.isEmpty_cons, Nat.reduceAdd, Nat.reduceLeDiff, Nat.reduceLT, le_sz, lt_sz, fLt_i, fEq_i, fNe_i, fLe_i, dec0]
  refine wp_dats (ds := [.dict (scr ns), .int k]) (Q := fun r _ => ∃ a s, PotOk s ∧ r = .frs (.lst [.int a, .int s])) ((pot_ok ns k hk).mono fun r _ ⟨a, s, h, e⟩ => ⟨by rw [e]; rfl, fun _ => ⟨a, s, h, e⟩⟩) fun r hr => ?_
  obtain ⟨a, s, hs, rfl⟩ := hr
  simp only [sIf, ws_ofE, wp_bind, wp_noX, mTB, mTr, mNotT, mAndT, mOrT, mAnd, mOr, mNot, mIf, mNeg, mBin, bin2, mChain, mVar, mK, mB, mCall_eq, aNil, aCons, mTup, mLst, mSl, oNo, oSome, mIsi, anyT, isT, truD, sSet, setR, sRet, retR, sNil, sEx, sDvm, sSt, lstAt, putLst, drefs, dats, List.map_cons, List.map_nil, List.cons_append, List.nil_append, List.append_nil, List.replicate, List.getElem?_cons_zero, List.getElem?_cons_succ, List.set_cons_zero, List.set_cons_succ, List.length_cons, List.length_nil, bind_ok, ofO_some, ofE_ok, oS_some, noX_ok, wp_ok, ws_nx, ws_rt, fz, dref, fIx, atI0, atI1, atI2, ixN_20, ixN_21, ixN_10, Option.map_some, fGt, fGe, fSub, fI, fI0, fAdd, fInt, fLen, lenD, outsOf, parOnly, notSlt, List.take_succ_cons, List.take_zero, if_true, if_false, Bool.false_eq_true, decide_true, decide_false, Bool.not_true, Bool.not_false, fIs, fIsNot, isNoneD, sTg, gmT, gmCons, gmN, gmNil, mPop, sAug, mExt, sPar, and_true, true_and, List.isEmpty_nil, List.isEmpty_cons, Nat.reduceAdd, Nat.reduceLeDiff, Nat.reduceLT, le_sz, lt_sz, fLt_i, fEq_i, fNe_i, fLe_i, dec0, callF_right hs]
theorem says_law : Says M_law 63 := by
  intro ns _
  have key : ∀ n : Nat, n = 1 ∨ n = 2 → lcL (gmN 1) (fun ρ => noX (mYes ρ)) (fun ρ => noX (mCallF M__law_right (mCall M__law_pot (aCons (mVar 0) (aCons (mVar 1) (aNil)))) ρ)) [1] (intsD 0 n) [.dat (.dict (scr ns)), .non] [] = .ok (.frs (.lst ([] ++ (intsD 0 n).map fun _ => .bool true))) [.dat (.dict (scr ns)), .non] := fun n hn => by
    refine lc_pure (i := 1) (tm := mYes) (em := mCallF M__law_right (mCall M__law_pot (aCons (mVar 0) (aCons (mVar 1) (aNil))))) (g := fun _ => .bool true) (ρ := [.dat (.dict (scr ns)), .non]) rfl _ [] (fun d hd => ?_) ?_
    · unfold intsD at hd
      obtain ⟨j, hj, rfl⟩ := List.mem_map.mp hd
      rw [List.mem_range] at hj
      have e0 : (0 : Int) + (j : Int) = ((j : Nat) : Int) := by omega
      rw [e0]
      exact ⟨rfl, one_ok ns j (by omega)⟩
    · unfold intsD
      rw [List.length_map, List.length_range, sizeLine_eq, List.length_nil]; omega
  have fin : ∀ n : Nat, n = 1 ∨ n = 2 → fAll [.list ((intsD 0 n).map fun _ => .bool true)] = some (.dat (.bool true)) := fun n hn => by
    rcases hn with rfl | rfl <;> rfl
  have h : Wp (M_law [.dat (.dict (scr ns))]) fun r outs => r = .dat (.bool true) := by
    unfold M_law
    refine wp_fn ?_
    have hn : ∃ n : Nat, (n = 1 ∨ n = 2) ∧ (mRng1 (aCons (mB fMax (aCons (mK (.int 1)) (aCons (mB fMin (aCons (mK (.int 2)) (aCons (mB fLen (aCons (mVar 0) (aNil))) (aNil)))) (aNil)))) (aNil))) [.dat (.dict (scr ns)), .non] = .ok (intsD 0 n) [.dat (.dict (scr ns)), .non] := by
      unfold mRng1
      by_cases h2 : ((scr ns).length : Int) < 2
      · by_cases h1 : ((scr ns).length : Int) > 1
        · omega
        · simp only [sIf, ws_ofE, wp_bind, wp_noX, mTB, mTr, mNotT, mAndT, mOrT, mAnd, mOr, mNot, mIf, mNeg, mBin, bin2, mChain, mVar, mK, mB, mCall_eq, aNil, aCons, mTup, mLst, mSl, oNo, oSome, mIsi, anyT, isT, truD, sSet, setR, sRet, retR, sNil, sEx, sDvm, sSt, lstAt, putLst, drefs, dats, List.map_cons, List.map_nil, List.cons_append, List.nil_append, List.append_nil, List.replicate, List.getElem?_cons_zero, List.getElem?_cons_succ, List.set_cons_zero, List.set_cons_succ, List.length_cons, List.length_nil, bind_ok, ofO_some, ofE_ok, oS_some, noX_ok, wp_ok, ws_nx, ws_rt, fz, dref, fIx, atI0, atI1, atI2, ixN_20, ixN_21, ixN_10, Option.map_some, fGt, fGe, fSub, fI, fI0, fAdd, fInt, fLen, lenD, outsOf, parOnly, notSlt, List.take_succ_cons, List.take_zero, if_true, if_false, Bool.false_eq_true, decide_true, decide_false, Bool.not_true, Bool.not_false, fIs, fIsNot, isNoneD, sTg, gmT, gmCons, gmN, gmNil, mPop, sAug, mExt, sPar, and_true, true_and, List.isEmpty_nil, List.isEmpty_cons, Nat.reduceAdd, Nat.reduceLeDiff, Nat.reduceLT, le_sz, lt_sz, fLt_i, fEq_i, fNe_i, fLe_i, dec0, fMin_i, fMax_i, if_pos h2, if_neg h1]
          exact ⟨1, .inl rfl, by rw [if_pos (by decide)]; rfl⟩
      · simp only [sIf, ws_ofE, wp_bind, wp_noX, mTB, mTr, mNotT, mAndT, mOrT, mAnd, mOr, mNot, mIf, mNeg, mBin, bin2, mChain, mVar, mK, mB, mCall_eq, aNil, aCons, mTup, mLst, mSl, oNo, oSome, mIsi, anyT, isT, truD, sSet, setR, sRet, retR, sNil, sEx, sDvm, sSt, lstAt, putLst, drefs, dats, List.map_cons, List.map_nil, List.cons_append, List.nil_append, List.append_nil, List.replicate, List.getElem?_cons_zero, List.getElem?_cons_succ, List.set_cons_zero, List.set_cons_succ, List.length_cons, List.length_nil, bind_ok, ofO_some, ofE_ok, oS_some, noX_ok, wp_ok, ws_nx, ws_rt, fz, dref, fIx, atI0, atI1, atI2, ixN_20, ixN_21, ixN_10, Option.map_some, fGt, fGe, fSub, fI, fI0, fAdd, fInt, fLen, lenD, outsOf, parOnly, notSlt, List.take_succ_cons, List.take_zero, if_true, if_false, Bool.false_eq_true, decide_true, decide_false, Bool.not_true, Bool.not_false, fIs, fIsNot, isNoneD, sTg, gmT, gmCons, gmN, gmNil, mPop, sAug, mExt, sPar, and_true, true_and, List.isEmpty_nil, List.isEmpty_cons, Nat.reduceAdd, Nat.reduceLeDiff, Nat.reduceLT, le_sz, lt_sz, fLt_i, fEq_i, fNe_i, fLe_i, dec0, fMin_i, fMax_i, if_neg h2]
        rw [if_pos (show (2 : Int) > 1 by decide)]
        exact ⟨2, .inr rfl, by rw [if_pos (by decide)]; rfl⟩
    obtain ⟨n, hn, e⟩ := hn
    simp only [sIf, ws_ofE, wp_bind, wp_noX, mTB, mTr, mNotT, mAndT, mOrT, mAnd, mOr, mNot, mIf, mNeg, mBin, bin2, mChain, mVar, mK, mB, mCall_eq, aNil, aCons, mTup, mLst, mSl, oNo, oSome, mIsi, anyT, isT, truD, sSet, setR, sRet, retR, sNil, sEx, sDvm, sSt, lstAt, putLst, drefs, dats, List.map_cons, List.map_nil, List.cons_append, List.nil_append, List.append_nil, List.replicate, List.getElem?_cons_zero, List.getElem?_cons_succ, List.set_cons_zero, List.set_cons_succ, List.length_cons, List.length_nil, bind_ok, ofO_some, ofE_ok, oS_some, noX_ok, wp_ok, ws_nx, ws_rt, fz, dref, fIx, atI0, atI1, atI2, ixN_20, ixN_21, ixN_10, Option.map_some, fGt, fGe, fSub, fI, fI0, fAdd, fInt, fLen, lenD, outsOf, parOnly, notSlt, List.take_succ_cons, List.take_zero, if_true, if_false, Bool.false_eq_true, decide_true, decide_false, Bool.not_true, Bool.not_false, fIs, fIsNot, isNoneD, sTg, gmT, gmCons, gmN, gmNil, mPop, sAug, mExt, sPar, and_true, true_and, List.isEmpty_nil, List.isEmpty_cons, Nat.reduceAdd, Nat.reduceLeDiff, Nat.reduceLT, le_sz, lt_sz, fLt_i, fEq_i, fNe_i, fLe_i, dec0]
    unfold mLcV mLc
    rw [e, bind_ok]
    have hw : wipeS [.dat (.dict (scr ns)), .non] [1] = [.dat (.dict (scr ns)), .non] := rfl
    rw [hw, key n hn, List.nil_append]
    simp only [sIf, ws_ofE, wp_bind, wp_noX, mTB, mTr, mNotT, mAndT, mOrT, mAnd, mOr, mNot, mIf, mNeg, mBin, bin2, mChain, mVar, mK, mB, mCall_eq, aNil, aCons, mTup, mLst, mSl, oNo, oSome, mIsi, anyT, isT, truD, sSet, setR, sRet, retR, sNil, sEx, sDvm, sSt, lstAt, putLst, drefs, dats, List.map_cons, List.map_nil, List.cons_append, List.nil_append, List.append_nil, List.replicate, List.getElem?_cons_zero, List.getElem?_cons_succ, List.set_cons_zero, List.set_cons_succ, List.length_cons, List.length_nil, bind_ok, ofO_some, ofE_ok, oS_some, noX_ok, wp_ok, ws_nx, ws_rt, fz, dref, fIx, atI0, atI1, atI2, ixN_20, ixN_21, ixN_10, Option.map_some, fGt, fGe, fSub, fI, fI0, fAdd, fInt, fLen, lenD, outsOf, parOnly, notSlt, List.take_succ_cons, List.take_zero, if_true, if_false, Bool.false_eq_true, decide_true, decide_false, Bool.not_true, Bool.not_false, fIs, fIsNot, isNoneD, sTg, gmT, gmCons, gmN, gmNil, mPop, sAug, mExt, sPar, and_true, true_and, List.isEmpty_nil, List.isEmpty_cons, Nat.reduceAdd, Nat.reduceLeDiff, Nat.reduceLT, le_sz, lt_sz, fLt_i, fEq_i, fNe_i, fLe_i, dec0, fin n hn]
  cases e : M_law [.dat (.dict (scr ns))] with
  | stuck => rw [e] at h; exact h.elim
  | exc x ρ' => rw [e] at h; exact h.elim
  | ok r outs => rw [e] at h; exact ⟨outs, by rw [show r = _ from h]⟩
end Lw
end Vl

open PySem PySem.W PyProof.Rows
set_option maxHeartbeats 0 in
theorem PySem.Challenge.cw_partsight_k17_any_value_as_formula_holds : PySem.Challenge.rw_partsight_k17_any_value_as_formula.Holds := by
  w_on; o_law; k_head; (case hw => w_witness2)
  k_fill
  refine Vl.walk_V (l := PySem.Challenge.rw_partsight_k17_any_value_as_formula) (n := 63) (k := 48) (x := "script") (fm := Vl.Lw.M_law) rfl (by decide) rfl ⟨rfl, by decide, by decide⟩ (fun w h Y => PySem.W.kIn_of Y) ?F Vl.Lw.says_law
  case F =>
    intro w mg fa h KX G hmg
    refine' Vl.Lw.all_mk hmg (Vl.fn_mk KX G ?a_is_integer ?l_is_integer ?c_is_integer ?k_is_integer) (Vl.fn_mk KX G ?a_is_count ?l_is_count ?c_is_count ?k_is_count) (Vl.fn_mk KX G ?a_is_name ?l_is_name ?c_is_name ?k_is_name) (Vl.fn_mk KX G ?a_is_told ?l_is_told ?c_is_told ?k_is_told) (Vl.fn_mk KX G ?a_parts_of ?l_parts_of ?c_parts_of ?k_parts_of) (Vl.fn_mk KX G ?a_is_worded ?l_is_worded ?c_is_worded ?k_is_worded) (Vl.fn_mk KX G ?a_is_call ?l_is_call ?c_is_call ?k_is_call) (Vl.fn_mk KX G ?a_is_leaf ?l_is_leaf ?c_is_leaf ?k_is_leaf) (Vl.fn_mk KX G ?a_is_letter ?l_is_letter ?c_is_letter ?k_is_letter) (Vl.fn_mk KX G ?a_is_formula ?l_is_formula ?c_is_formula ?k_is_formula) (Vl.fn_mk KX G ?a_below ?l_below ?c_below ?k_below) (Vl.fn_mk KX G ?a_is_simple_by ?l_is_simple_by ?c_is_simple_by ?k_is_simple_by) (Vl.fn_mk KX G ?a_is_simple ?l_is_simple ?c_is_simple ?k_is_simple) (Vl.fn_mk KX G ?a__law_pot ?l__law_pot ?c__law_pot ?k__law_pot) (Vl.fn_mk KX G ?a__law_draw ?l__law_draw ?c__law_draw ?k__law_draw) (Vl.fn_mk KX G ?a__law_pick ?l__law_pick ?c__law_pick ?k__law_pick) (Vl.fn_mk KX G ?a__law_formula ?l__law_formula ?c__law_formula ?k__law_formula) (Vl.fn_mk KX G ?a__law_simple ?l__law_simple ?c__law_simple ?k__law_simple) (Vl.fn_mk KX G ?a__law_is_name ?l__law_is_name ?c__law_is_name ?k__law_is_name) (Vl.fn_mk KX G ?a__law_measure ?l__law_measure ?c__law_measure ?k__law_measure) (Vl.fn_mk KX G ?a__law_is_formula ?l__law_is_formula ?c__law_is_formula ?k__law_is_formula) (Vl.fn_mk KX G ?a__law_is_simple ?l__law_is_simple ?c__law_is_simple ?k__law_is_simple) (Vl.fn_mk KX G ?a__law_bent ?l__law_bent ?c__law_bent ?k__law_bent) (Vl.fn_mk KX G ?a__law_long ?l__law_long ?c__law_long ?k__law_long) (Vl.fn_mk KX G ?a__law_wide ?l__law_wide ?c__law_wide ?k__law_wide) (Vl.fn_mk KX G ?a__law_are_right ?l__law_are_right ?c__law_are_right ?k__law_are_right) (Vl.fn_mk KX G ?a__law_right ?l__law_right ?c__law_right ?k__law_right) (Vl.fn_mk KX G ?a_law ?l_law ?c_law ?k_law) (Vl.bl_mk KX G ?z_abs) (Vl.bl_mk KX G ?z_all) (Vl.bl_mk KX G ?z_bool) (Vl.bl_mk KX G ?z_divmod) (Vl.bl_mk KX G ?z_enumerate) (Vl.bl_mk KX G ?z_int) (Vl.bl_mk KX G ?z_isinstance) (Vl.bl_mk KX G ?z_len) (Vl.bl_mk KX G ?z_list) (Vl.bl_mk KX G ?z_max) (Vl.bl_mk KX G ?z_min) (Vl.bl_mk KX G ?z_range) (Vl.bl_mk KX G ?z_repr) (Vl.bl_mk KX G ?z_str) (Vl.bl_mk KX G ?z_tuple) (Vl.bl_mk KX G ?z_zip) (Vl.gc_str KX G ?g_AT) (Vl.gc_str KX G ?g_CALL) (Vl.gc_str KX G ?g_IS) (Vl.gc_strs (zs := ["and", "answer", "asked", "define", "else", "if", "no", "not", "nothing", "or", "riddle", "sees", "then", "wish", "yes"]) KX G ?g_KEPT ?gl_KEPT ?gs_KEPT ?gr_KEPT) (Vl.gc_str KX G ?g_LETTERS) (Vl.gc_int KX G ?g_MOST_DEEP) (Vl.gc_int KX G ?g_MOST_NAME) (Vl.gc_int KX G ?g_MOST_SIZE) (Vl.gc_int KX G ?g_MOST_TOLD) (Vl.gc_int KX G ?g_MOST_TOLD_DEEP) (Vl.tab_mk (tb := [("yes", 0), ("no", 0), ("not", 1), ("and", 2), ("or", 2), ("same", 2), ("if", 3)]) KX G ?g_PARTS ?gl_PARTS ?gw_PARTS ?gr_PARTS)
    (case a_is_integer => k_is); (case l_is_integer => k_is); (case c_is_integer => k_is); (case k_is_integer => k_is); (case a_is_count => k_is); (case l_is_count => k_is); (case c_is_count => k_is); (case k_is_count => k_is); (case a_is_name => k_is); (case l_is_name => k_is); (case c_is_name => k_is); (case k_is_name => k_is); (case a_is_told => k_is); (case l_is_told => k_is); (case c_is_told => k_is); (case k_is_told => k_is); (case a_parts_of => k_is); (case l_parts_of => k_is); (case c_parts_of => k_is); (case k_parts_of => k_is); (case a_is_worded => k_is); (case l_is_worded => k_is); (case c_is_worded => k_is); (case k_is_worded => k_is); (case a_is_call => k_is); (case l_is_call => k_is); (case c_is_call => k_is); (case k_is_call => k_is); (case a_is_leaf => k_is); (case l_is_leaf => k_is); (case c_is_leaf => k_is); (case k_is_leaf => k_is); (case a_is_letter => k_is); (case l_is_letter => k_is); (case c_is_letter => k_is); (case k_is_letter => k_is); (case a_is_formula => k_is); (case l_is_formula => k_is); (case c_is_formula => k_is); (case k_is_formula => k_is); (case a_below => k_is); (case l_below => k_is); (case c_below => k_is); (case k_below => k_is); (case a_is_simple_by => k_is); (case l_is_simple_by => k_is); (case c_is_simple_by => k_is); (case k_is_simple_by => k_is); (case a_is_simple => k_is); (case l_is_simple => k_is); (case c_is_simple => k_is); (case k_is_simple => k_is); (case a__law_pot => k_is); (case l__law_pot => k_is); (case c__law_pot => k_is); (case k__law_pot => k_is); (case a__law_draw => k_is); (case l__law_draw => k_is); (case c__law_draw => k_is); (case k__law_draw => k_is); (case a__law_pick => k_is); (case l__law_pick => k_is); (case c__law_pick => k_is); (case k__law_pick => k_is); (case a__law_formula => k_is); (case l__law_formula => k_is); (case c__law_formula => k_is); (case k__law_formula => k_is); (case a__law_simple => k_is); (case l__law_simple => k_is); (case c__law_simple => k_is); (case k__law_simple => k_is); (case a__law_is_name => k_is); (case l__law_is_name => k_is); (case c__law_is_name => k_is); (case k__law_is_name => k_is); (case a__law_measure => k_is); (case l__law_measure => k_is); (case c__law_measure => k_is); (case k__law_measure => k_is); (case a__law_is_formula => k_is); (case l__law_is_formula => k_is); (case c__law_is_formula => k_is); (case k__law_is_formula => k_is); (case a__law_is_simple => k_is); (case l__law_is_simple => k_is); (case c__law_is_simple => k_is); (case k__law_is_simple => k_is); (case a__law_bent => k_is); (case l__law_bent => k_is); (case c__law_bent => k_is); (case k__law_bent => k_is); (case a__law_long => k_is); (case l__law_long => k_is); (case c__law_long => k_is); (case k__law_long => k_is); (case a__law_wide => k_is); (case l__law_wide => k_is); (case c__law_wide => k_is); (case k__law_wide => k_is); (case a__law_are_right => k_is); (case l__law_are_right => k_is); (case c__law_are_right => k_is); (case k__law_are_right => k_is); (case a__law_right => k_is); (case l__law_right => k_is); (case c__law_right => k_is); (case k__law_right => k_is); (case a_law => k_is); (case l_law => k_is); (case c_law => k_is); (case k_law => k_is); (case z_abs => k_is); (case z_all => k_is); (case z_bool => k_is); (case z_divmod => k_is); (case z_enumerate => k_is); (case z_int => k_is); (case z_isinstance => k_is); (case z_len => k_is); (case z_list => k_is); (case z_max => k_is); (case z_min => k_is); (case z_range => k_is); (case z_repr => k_is); (case z_str => k_is); (case z_tuple => k_is); (case z_zip => k_is); (case g_AT => k_is); (case g_CALL => k_is); (case g_IS => k_is); (case g_KEPT => k_is); (case gl_KEPT => k_is); (case g_LETTERS => k_is); (case g_MOST_DEEP => k_is); (case g_MOST_NAME => k_is); (case g_MOST_SIZE => k_is); (case g_MOST_TOLD => k_is); (case g_MOST_TOLD_DEEP => k_is); (case g_PARTS => k_is); (case gl_PARTS => k_is)
    (case gs_KEPT => decide); (case gr_KEPT => exact .cons ⟨_, rfl⟩ (.cons ⟨_, rfl⟩ (.cons ⟨_, rfl⟩ (.cons ⟨_, rfl⟩ (.cons ⟨_, rfl⟩ (.cons ⟨_, rfl⟩ (.cons ⟨_, rfl⟩ (.cons ⟨_, rfl⟩ (.cons ⟨_, rfl⟩ (.cons ⟨_, rfl⟩ (.cons ⟨_, rfl⟩ (.cons ⟨_, rfl⟩ (.cons ⟨_, rfl⟩ (.cons ⟨_, rfl⟩ (.cons ⟨_, rfl⟩ (.nil)))))))))))))))); (case gw_PARTS => first | rfl | k_is); (case gr_PARTS => exact .cons ⟨⟨_, rfl⟩, rfl, ⟨_, rfl⟩⟩ (.cons ⟨⟨_, rfl⟩, rfl, ⟨_, rfl⟩⟩ (.cons ⟨⟨_, rfl⟩, rfl, ⟨_, rfl⟩⟩ (.cons ⟨⟨_, rfl⟩, rfl, ⟨_, rfl⟩⟩ (.cons ⟨⟨_, rfl⟩, rfl, ⟨_, rfl⟩⟩ (.cons ⟨⟨_, rfl⟩, rfl, ⟨_, rfl⟩⟩ (.cons ⟨⟨_, rfl⟩, rfl, ⟨_, rfl⟩⟩ (.nil))))))))
